import PyProof.Rows.All
import Wide.All
import OpenK.AllK
import Wide.FinOn
import HandS.ForMost
import HandS.Exc
import HandS.Wide
import HandS.IsInst
import HandS.Walk
import HandS.StrMore
import HandS.Text
import HandS.TupAny
import HandS.TupMul
import HandS.Style
import HandS.Deep
import HandS.TupLen
import HandS.Flow
import HandS.FStr
import HandS.RaiseMore
import HandS.Conv
import KE.KTupSum
import HandS.Dict
import HandS.Property
import HandS.ExcOwn
import HandS.ClsMeth
import KE.KFmtOwn
import HandS.Zip
import HandS.DictComp
import KE.GoesEnum
import KE.GoesMore
import HandS.Head0
import HandS.Head1
import HandS.Head2
import HandS.HeadEnd
import HandS.HeadHook1
import HandS.HeadHook2
import HandS.HeadHook3
import HandS.HeadHook4
import PySem.Challenge.RW_cutfiner_k14_whole_counts_at_all_depths
import HandS.Codes
set_option Elab.async false
set_option linter.all false
set_option maxRecDepth 100000
set_option maxHeartbeats 2000000
/-! PyA: values, stores, results, operations: a small reading of Python as a function -/
namespace PyI
open PySem PySem.Spec PyProof.Rows L2
/-- a key of a dict -/
inductive DKey where
  | i (n : Int) | s (x : Str) | t (ks : List (Sum Int Str))
  deriving DecidableEq
/-- values: all but `ref` are plain data that nobody changes any more -/
inductive PV where
  | non | bl (b : Bool) | int (i : Int) | str (x : Str)
  | tup (xs : List PV) | lst (xs : List PV) | dct (ks : List DKey) (vs : List PV)
  | ins (c : Nat) (fs : List Nat) (vs : List PV)
  | ref (l : Nat) | cls (c : Nat) | scr (ns : List Int) | wtp (xs : List Str)
instance : Inhabited PV := ⟨.non⟩
/-- what can be changed -/
inductive PO where
  | lst (xs : List PV) | dct (ks : List DKey) (vs : List PV) | dlk (ks : List DKey) (vs : List PV)
  | ins (c : Nat) (fs : List Nat) (vs : List PV)
abbrev Store := List PO
abbrev Ev := List (Option PV)
/-- an exception of an own class -/
structure Exc where
  c : Nat
  fs : List Nat
  vs : List PV
inductive Res (α : Type) where
  | ok (a : α) (S : Store) | exn (x : Exc) (S : Store) | stuck
def Res.bind {α β : Type} (r : Res α) (k : α → Store → Res β) : Res β := match r with
  | .ok a S => k a S
  | .exn x S => .exn x S
  | .stuck => .stuck
@[simp] theorem Res.bind_ok {α β : Type} (a : α) (S : Store) (k : α → Store → Res β) : (Res.ok a S).bind k = k a S := rfl
@[simp] theorem Res.bind_exn {α β : Type} (x : Exc) (S : Store) (k : α → Store → Res β) : (Res.exn x S : Res α).bind k = .exn x S := rfl
@[simp] theorem Res.bind_stuck {α β : Type} (k : α → Store → Res β) : (Res.stuck : Res α).bind k = .stuck := rfl
/-- no exception -/
def Res.noX {α : Type} (r : Res α) : Res α := match r with
  | .exn _ _ => .stuck
  | r => r
@[simp] theorem Res.noX_ok {α : Type} (a : α) (S : Store) : (Res.ok a S).noX = .ok a S := rfl
@[simp] theorem Res.noX_exn {α : Type} (x : Exc) (S : Store) : (Res.exn x S : Res α).noX = .stuck := rfl
@[simp] theorem Res.noX_stuck {α : Type} : (Res.stuck : Res α).noX = .stuck := rfl
/-- a text, else stuck -/
def Res.strO (r : Res PV) : Res PV := match r with
  | .ok (.str x) S => .ok (.str x) S
  | _ => .stuck
@[simp] theorem Res.strO_ok (x : Str) (S : Store) : (Res.ok (PV.str x) S).strO = .ok (.str x) S := rfl
def guardR {α : Type} (c : Bool) (r : Res α) : Res α := if c = true then r else .stuck
@[simp] theorem guardR_true {α : Type} (r : Res α) : guardR true r = r := rfl
/-! ### no references -/
mutual
def PV.rf : PV → Bool
  | .ref _ => false
  | .tup xs => PV.rfs xs
  | .lst xs => PV.rfs xs
  | .dct _ vs => PV.rfs vs
  | .ins _ _ vs => PV.rfs vs
  | .non | .bl _ | .int _ | .str _ | .cls _ | .scr _ | .wtp _ => true
def PV.rfs : List PV → Bool
  | [] => true
  | x :: r => PV.rf x && PV.rfs r
end
theorem PV.rfs_eq (xs : List PV) : PV.rfs xs = xs.all PV.rf := by
  induction xs with
  | nil => rfl
  | cons x r ih => rw [PV.rfs, List.all_cons, ih]
/-! ### plain data -/
mutual
def PV.toD : PV → Option PyData
  | .non => some .none
  | .bl b => some (.bool b)
  | .int i => some (.int i)
  | .str x => some (.str x)
  | .tup xs => (PV.toDs xs).map .tuple
  | .lst xs => (PV.toDs xs).map .list
  | .dct _ _ | .ins _ _ _ | .ref _ | .cls _ | .scr _ | .wtp _ => none
def PV.toDs : List PV → Option (List PyData)
  | [] => some []
  | x :: r => (PV.toD x).bind fun d => (PV.toDs r).map (d :: ·)
end
def toDS (v : PV) (S : Store) : Option PyData := match v with
  | .ref l => (match S[l]? with
    | some (.lst xs) => (PV.toDs xs).map .list
    | _ => none)
  | v => v.toD
/-! ### keys -/
def key1 : PV → Option (Sum Int Str)
  | .int n => some (.inl n)
  | .str x => some (.inr x)
  | _ => none
def keys1 : List PV → Option (List (Sum Int Str))
  | [] => some []
  | x :: r => (key1 x).bind fun k => (keys1 r).map (k :: ·)
def PV.key : PV → Option DKey
  | .int n => some (.i n)
  | .str x => some (.s x)
  | .tup xs => (keys1 xs).map .t
  | _ => none
def pv1 : Sum Int Str → PV
  | .inl n => .int n
  | .inr x => .str x
def DKey.pv : DKey → PV
  | .i n => .int n
  | .s x => .str x
  | .t ks => .tup (ks.map pv1)
/-- the kind of a dict's keys: false: ints and texts, true: tuples -/
def DKey.isT : DKey → Bool
  | .t _ => true
  | _ => false
def look {α : Type} : List DKey → List α → DKey → Option α
  | k :: ks, v :: vs, q => if k = q then some v else look ks vs q
  | _, _, _ => none
/-- the key is of the kind of the dict's keys -/
def kindOk : List DKey → DKey → Bool
  | k :: _, q => k.isT == q.isT
  | [], _ => true
def lookD {α : Type} (ks : List DKey) (vs : List α) (q : DKey) : Option (Option α) := if kindOk ks q = true then some (look ks vs q) else none
/-- put: the key's place kept -/
def putVs {α : Type} : List DKey → List α → DKey → α → List α
  | k :: ks, v :: vs, q, x => if k = q then x :: vs else v :: putVs ks vs q x
  | _, _, _, x => [x]
def putKs : List DKey → DKey → List DKey
  | k :: ks, q => if k = q then k :: ks else k :: putKs ks q
  | [], q => [q]
def lookF {α : Type} : List Nat → List α → Nat → Option α
  | k :: ks, v :: vs, q => if k = q then some v else lookF ks vs q
  | _, _, _ => none
def putFv {α : Type} : List Nat → List α → Nat → α → List α
  | k :: ks, v :: vs, q, x => if k = q then x :: vs else v :: putFv ks vs q x
  | _, _, _, x => [x]
def putFk : List Nat → Nat → List Nat
  | k :: ks, q => if k = q then k :: ks else k :: putFk ks q
  | [], q => [q]
def asInts : List PV → Option (List Int)
  | [] => some []
  | .int i :: r => (asInts r).map (i :: ·)
  | _ :: _ => none
def asBls : List PV → Option (List Bool)
  | [] => some []
  | .bl i :: r => (asBls r).map (i :: ·)
  | _ :: _ => none
def asStrs : List PV → Option (List Str)
  | [] => some []
  | .str i :: r => (asStrs r).map (i :: ·)
  | _ :: _ => none
theorem asInts_map (ns : List Int) : asInts (ns.map PV.int) = some ns := by
  induction ns with
  | nil => rfl
  | cons n r ih => simp [asInts, ih]
theorem asBls_map (ns : List Bool) : asBls (ns.map PV.bl) = some ns := by
  induction ns with
  | nil => rfl
  | cons n r ih => simp [asBls, ih]
theorem asStrs_map (ns : List Str) : asStrs (ns.map PV.str) = some ns := by
  induction ns with
  | nil => rfl
  | cons n r ih => simp [asStrs, ih]
theorem asInts_eq : ∀ {xs : List PV} {ns : List Int}, asInts xs = some ns → xs = ns.map PV.int
  | [], ns, h => by simp [asInts] at h; subst h; rfl
  | x :: r, ns, h => by
    cases x <;> simp [asInts] at h
    obtain ⟨m, h1, h2⟩ := h
    subst h2
    rw [asInts_eq h1]; rfl
theorem asBls_eq : ∀ {xs : List PV} {ns : List Bool}, asBls xs = some ns → xs = ns.map PV.bl
  | [], ns, h => by simp [asBls] at h; subst h; rfl
  | x :: r, ns, h => by
    cases x <;> simp [asBls] at h
    obtain ⟨m, h1, h2⟩ := h
    subst h2
    rw [asBls_eq h1]; rfl
theorem asStrs_eq : ∀ {xs : List PV} {ns : List Str}, asStrs xs = some ns → xs = ns.map PV.str
  | [], ns, h => by simp [asStrs] at h; subst h; rfl
  | x :: r, ns, h => by
    cases x <;> simp [asStrs] at h
    obtain ⟨m, h1, h2⟩ := h
    subst h2
    rw [asStrs_eq h1]; rfl
/-- the items of a list or tuple, also of one in the store -/
def itemsOf (v : PV) (S : Store) : Option (List PV) := match v with
  | .tup xs => some xs
  | .lst xs => some xs
  | .ref l => (match S[l]? with
    | some (.lst xs) => some xs
    | _ => none)
  | _ => none
/-! ### operators -/
def mulOk (i j : Int) : Bool := decide (i.natAbs < 2 ^ 64) || decide (j.natAbs < 2 ^ 64) || decide (i.natAbs.log2 + j.natAbs.log2 < 1000000)
def rep {α : Type} (xs : List α) (k : Int) : List α := (List.replicate k.toNat xs).flatten
/-- a op b, by their values -/
def binop (op : Operator) (a b : PV) (S : Store) : Res PV := match op, a, b with
  | .Add, .int i, .int j => .ok (.int (i + j)) S
  | .Sub, .int i, .int j => .ok (.int (i - j)) S
  | .Mult, .int i, .int j => guardR (mulOk i j) (.ok (.int (i * j)) S)
  | .FloorDiv, .int i, .int j => guardR (decide (0 < j) && decide (j.natAbs.log2 < 9000)) (.ok (.int (i / j)) S)
  | .Mod, .int i, .int j => guardR (decide (0 < j)) (.ok (.int (i % j)) S)
  | .Pow, .int i, .int j => guardR (decide (0 ≤ j) && decide (j ≤ 1000000) && decide (i.natAbs < 2 ^ 64)) (.ok (.int (i ^ j.toNat)) S)
  | .Add, .str x, .str y => guardR (decide (x.length + y.length ≤ sizeLine)) (.ok (.str (x ++ y)) S)
  | .Add, .tup xs, .tup ys => guardR (decide (xs.length + ys.length ≤ sizeLine)) (.ok (.tup (xs ++ ys)) S)
  | .Add, .lst xs, .lst ys => guardR (decide (xs.length + ys.length ≤ sizeLine)) (.ok (.lst (xs ++ ys)) S)
  | .Mult, .lst xs, .int k => guardR (decide (xs.length * k.toNat ≤ sizeLine) && decide (-(2 ^ 63) ≤ k) && decide (k < 2 ^ 63)) (.ok (.lst (rep xs k)) S)
  | .Mult, .tup xs, .int k => guardR (decide (xs.length ≤ 1000) && decide (2 ≤ k) && decide (k ≤ 1000) && !xs.isEmpty) (.ok (.tup (rep xs k)) S)
  | _, _, _ => .stuck
def PV.truth (v : PV) (S : Store) : Option Bool := match v with
  | .non => some false
  | .bl b => some b
  | .int i => some (i != 0)
  | .str x => some (x.length != 0)
  | .tup xs => some (!xs.isEmpty)
  | .lst xs => some (!xs.isEmpty)
  | .ref l => (match S[l]? with
    | some (.lst xs) => some (!xs.isEmpty)
    | _ => none)
  | _ => none
/-- the dict that a value is -/
def dictOf (v : PV) (S : Store) : Option (List DKey × List PV) := match v with
  | .dct ks vs => some (ks, vs)
  | .ref l => (match S[l]? with
    | some (.dct ks vs) => some (ks, vs)
    | some (.dlk (k :: ks) vs) => some (k :: ks, vs)
    | _ => none)
  | _ => none
def strLt (x y : Str) : Bool := decide (x.cps.toList < y.cps.toList)
def isInStr (x y : Str) : Bool := !(Builtin.Str.occurrences y x 0 y.length 1).isEmpty
def PV.isNon : PV → Bool
  | .non => true
  | _ => false
/-- flat values -/
def PV.flat : PV → Bool
  | .non | .bl _ | .int _ | .str _ => true
  | _ => false
/-- == of two values of one plain kind -/
def scalEq (a b : PV) : Option Bool := match a, b with
  | .int i, .int j => some (decide (i = j))
  | .str x, .str y => some (decide (x = y))
  | .bl x, .bl y => some (decide (x = y))
  | _, _ => none
/-- == -/
def eqG (a b : PV) (S : Store) : Option Bool := match scalEq a b with
  | some c => some c
  | none => (toDS a S).bind fun d => (toDS b S).bind fun e => if SeqAt.shaped d && SeqAt.shaped e then some (PyData.eqv d e) else none
/-- a in b, b a list or tuple -/
def inG (a : PV) (xs : List PV) (isL : Bool) (S : Store) : Option Bool :=
  (toDS a S).bind fun d => (PV.toDs xs).bind fun ds => if (a.flat && xs.all PV.flat) || (isL && SeqAt.shaped d && SeqAt.shaped (.list ds)) then some (ds.any fun z => PyData.eqv z d) else none
def isLst (v : PV) : Bool := match v with
  | .tup _ => false
  | _ => true
/-- a in b -/
def isInG (a b : PV) (S : Store) : Option Bool := match dictOf b S with
  | some (ks, vs) => (a.key).bind fun k => (lookD ks vs k).map Option.isSome
  | none => (match a, b with
    | .str x, .str y => some (isInStr x y)
    | _, _ => (itemsOf b S).bind fun xs => inG a xs (isLst b) S)
/-- a op b for comparisons that call nothing -/
def cmpD (op : CmpOp) (a b : PV) (S : Store) : Option Bool := match op with
  | .Eq => eqG a b S
  | .NotEq => (eqG a b S).map not
  | .Lt => (match a, b with
    | .int i, .int j => some (decide (i < j))
    | .str x, .str y => some (strLt x y)
    | _, _ => none)
  | .LtE => (match a, b with
    | .int i, .int j => some (decide (i ≤ j))
    | _, _ => none)
  | .Gt => (match a, b with
    | .int i, .int j => some (decide (j < i))
    | _, _ => none)
  | .GtE => (match a, b with
    | .int i, .int j => some (decide (j ≤ i))
    | _, _ => none)
  | .Is => (match b with
    | .non => some a.isNon
    | .bl d => (match a with
      | .bl c => some (decide (c = d))
      | _ => none)
    | _ => none)
  | .IsNot => (match b with
    | .non => some (!a.isNon)
    | .bl d => (match a with
      | .bl c => some (!decide (c = d))
      | _ => none)
    | _ => none)
  | .In => isInG a b S
  | .NotIn => (isInG a b S).map not
/-- o[i] -/
def getIx (o i : PV) (S : Store) : Option PV := match dictOf o S with
  | some (ks, vs) => (i.key).bind fun k => (lookD ks vs k).bind id
  | none => (match i with
    | .int n => (match o with
      | .str x => (atI x.cps.toList n).map fun c => .str ⟨#[c]⟩
      | .scr ns => (atI ns n).map .int
      | _ => (itemsOf o S).bind fun xs => atI xs n)
    | _ => none)
def cutL {α : Type} (xs : List α) (lo hi : Option Int) : List α := (xs.drop (HT.sIx xs.length 0 lo)).take (HT.sIx xs.length xs.length hi - HT.sIx xs.length 0 lo)
/-- o[lo:hi] -/
def getSl (o : PV) (lo hi : Option Int) (S : Store) : Option PV := match o with
  | .str x => some (.str ⟨(cutL x.cps.toList lo hi).toArray⟩)
  | .scr ns => some (.lst ((cutL ns lo hi).map .int))
  | .tup xs => some (.tup (cutL xs lo hi))
  | .lst xs => some (.lst (cutL xs lo hi))
  | .ref l => (match S[l]? with
    | some (.lst xs) => some (.lst (cutL xs lo hi))
    | _ => none)
  | _ => none
/-- o[i] = v: n: the frame's first place -/
def setIx (n : Nat) (o i v : PV) (S : Store) : Option Store := match o with
  | .ref l => if decide (n ≤ l) || v.rf then (match S[l]? with
    | some (.lst xs) => (match i with
      | .int k => (ixN xs.length k).map fun j => S.set l (.lst (xs.set j v))
      | _ => none)
    | some (.dct ks vs) => (i.key).bind fun k => if ks.length < sizeLine && kindOk ks k then some (S.set l (.dct (putKs ks k) (putVs ks vs k v))) else none
    | _ => none) else none
  | _ => none
/-- .append -/
def apnd (n : Nat) (o v : PV) (S : Store) : Option Store := match o with
  | .ref l => if decide (n ≤ l) || v.rf then (match S[l]? with
    | some (.lst xs) => if xs.length < sizeLine then some (S.set l (.lst (xs ++ [v]))) else none
    | _ => none) else none
  | _ => none
def extd (n : Nat) (o v : PV) (S : Store) : Option Store := match o, v with
  | .ref l, .lst ys => if decide (n ≤ l) || PV.rfs ys then (match S[l]? with
    | some (.lst xs) => if xs.length + ys.length ≤ sizeLine then some (S.set l (.lst (xs ++ ys))) else none
    | _ => none) else none
  | _, _ => none
def popd (o : PV) (S : Store) : Option (PV × Store) := match o with
  | .ref l => (match S[l]? with
    | some (.lst xs) => (xs[xs.length - 1]?).map fun y => (y, S.set l (.lst xs.dropLast))
    | _ => none)
  | _ => none
end PyI
set_option Elab.async false
set_option linter.all false
set_option maxRecDepth 100000
set_option maxHeartbeats 2000000
/-! PyB: a small language and what it does -/
namespace PyI
open PySem PySem.Spec PyProof.Rows L2
inductive BF where
  | len | tuple | list | all | any | sum | min | max | abs | int | str | repr | bool | sorted | divmod | dict
  deriving DecidableEq
inductive BM where
  | append | extend | pop | index | count | join | split | partition | removeprefix | find | replace | upper | get | update
  deriving DecidableEq
inductive TyC where
  | int | bool | str | tuple | list | dict | own (c : Nat)
  deriving DecidableEq
/-- targets of loops and comprehensions -/
inductive Pat where
  | nm (i : Nat) | tp (is : List Nat)
mutual
inductive IE where
  | var (i : Nat) | cst (v : PV) | glb (v : PV)
  | tup (es : IEs) | lst (fr : Bool) (es : IEs) | dct0 (fr : Bool) | dct (fr : Bool) (kvs : IPs)
  | neg (e : IE) | bin (op : Operator) (a b : IE) | cmp (op : CmpOp) (a b : IE) | chain (o p : CmpOp) (a b c : IE)
  | andE (es : IEs) | orE (es : IEs) | notE (e : IE) | ife (c a b : IE)
  | sub (a i : IE) | slc (a : IE) (lo hi : Option Int) | sl1 (a lo : IE) | sl2 (a hi : IE) | sl3 (a lo hi : IE) | rev (fr : Bool) (a : IE)
  | attr (e : IE) (m : Nat)
  | call (f : Nat) (es : IEs) | callK (f : Nat) (es ks : IEs) (ord : List Nat)
  | new (c : Nat) (es : IEs) | newK (c : Nat) (ks : IEs) (ord : List Nat) | newV (i : Nat) (es : IEs)
  | meth (m : Nat) (e : IE) (es : IEs) | methK (m : Nat) (e : IE) (ks : IEs) (ord : List Nat) | cmeth (c f : Nat) (es : IEs)
  | bf (f : BF) (fr : Bool) (es : IEs) | bm (m : BM) (fr : Bool) (e : IE) (es : IEs) | isi (e : IE) (t : TyC)
  | comp (fr : Bool) (own : List Nat) (elt : IE) (p : Pat) (it : II) (ifs : IEs)
  | dcomp (fr : Bool) (own : List Nat) (k v : IE) (p : Pat) (it : II) (ifs : IEs)
  | comp2 (fr : Bool) (own own1 : List Nat) (elt : IE) (p : Pat) (it : II) (ifs : IEs) (p1 : Pat) (it1 : II) (ifs1 : IEs)
  | fstr (es : IEs)
inductive IEs where
  | nil | cons (e : IE) (es : IEs)
inductive IPs where
  | nil | cons (k v : IE) (r : IPs)
inductive II where
  | e (x : IE) | rng (es : IEs) | enum (x : IE) | zip (a b : IE) | items (x : IE)
end
mutual
inductive IS where
  | asg (i : Nat) (e : IE) | asgT (is : List Nat) (e : IE) | asgS (a i e : IE) | asgA (a : IE) (m : Nat) (e : IE)
  | aug (i : Nat) (op : Operator) (e : IE) | augS (a i : IE) (op : Operator) (e : IE)
  | ex (e : IE) | ret (e : IE) | retN | ifs (c : IE) (a b : ISs) | for_ (p : Pat) (it : II) (b : ISs) | whl (c : IE) (b : ISs)
  | pass | brk | cnt | raise (c : Nat) (es : IEs) | tryE (b : ISs) (hs : IHs) | nope
inductive ISs where
  | nil | cons (s : IS) (r : ISs)
inductive IHs where
  | nil | cons (cs : List Nat) (nm : Option Nat) (b : ISs) (r : IHs)
end
structure FnDef where
  np : Nat
  nl : Nat
  body : ISs
  lv : Nat
  keep : Bool
structure ClsDef where
  props : List (Nat × Nat) := []
  meths : List (Nat × Nat) := []
  init : Nat := 0
  frz : Bool := false
  eqm : Option Nat := none
  strm : Option Nat := none
  reprm : Option Nat := none
  lenm : Option Nat := none
  /-- an exception class: its fields in the order of its parameters, the classes that catch it -/
  exc : Option (List Nat) := none
structure Tab where
  fns : List FnDef
  cls : List ClsDef
  /-- calls by name: the def, the number of values by place, the names, the places of the parameters' values -/
  kl : List (Nat × Nat × List Str × List Nat) := []
  /-- class methods -/
  cm : List (Nat × Str × Nat) := []
def IEs.len : IEs → Nat
  | .nil => 0
  | .cons _ r => r.len + 1
def TyC.inb (G : Tab) : TyC → Bool
  | .own c => decide (c < G.cls.length)
  | _ => true
def tagIn (G : Tab) : Option TyC → Bool
  | none => true
  | some t => t.inb G
/-- the name is no method and no property of the class -/
def noAt (G : Tab) (c m : Nat) : Bool := match G.cls[c]? with
  | some kd => (kd.props.lookup m).isNone && (kd.meths.lookup m).isNone
  | none => false
/-- o.m = v -/
def setAt (G : Tab) (n : Nat) (o : PV) (m : Nat) (v : PV) (S : Store) : Option Store := match o with
  | .ref l => if decide (n ≤ l) || v.rf then (match S[l]? with
    | some (.ins c fs vs) => if decide (fs.length < 100) && noAt G c m then some (S.set l (.ins c (putFk fs m) (putFv fs vs m v))) else none
    | _ => none) else none
  | _ => none
inductive Fl where
  | next | ret (v : PV) | brk | cnt
inductive SR where
  | ok (f : Fl) (ps : Ev) (S : Store) | exn (x : Exc) (ps : Ev) (S : Store) | stuck
def Res.toS {α : Type} (r : Res α) (ps : Ev) (k : α → Store → SR) : SR := match r with
  | .ok a S => k a S
  | .exn x S => .exn x ps S
  | .stuck => .stuck
@[simp] theorem Res.toS_ok {α : Type} (a : α) (S : Store) (ps : Ev) (k : α → Store → SR) : (Res.ok a S).toS ps k = k a S := rfl
@[simp] theorem Res.toS_exn {α : Type} (x : Exc) (S : Store) (ps : Ev) (k : α → Store → SR) : (Res.exn x S : Res α).toS ps k = .exn x ps S := rfl
@[simp] theorem Res.toS_stuck {α : Type} (ps : Ev) (k : α → Store → SR) : (Res.stuck : Res α).toS ps k = .stuck := rfl
def SR.seq (r : SR) (k : Ev → Store → SR) : SR := match r with
  | .ok .next ps S => k ps S
  | r => r
@[simp] theorem SR.seq_next (ps : Ev) (S : Store) (k : Ev → Store → SR) : (SR.ok .next ps S).seq k = k ps S := rfl
@[simp] theorem SR.seq_ret (v : PV) (ps : Ev) (S : Store) (k : Ev → Store → SR) : (SR.ok (.ret v) ps S).seq k = .ok (.ret v) ps S := rfl
@[simp] theorem SR.seq_brk (ps : Ev) (S : Store) (k : Ev → Store → SR) : (SR.ok .brk ps S).seq k = .ok .brk ps S := rfl
@[simp] theorem SR.seq_cnt (ps : Ev) (S : Store) (k : Ev → Store → SR) : (SR.ok .cnt ps S).seq k = .ok .cnt ps S := rfl
@[simp] theorem SR.seq_exn (x : Exc) (ps : Ev) (S : Store) (k : Ev → Store → SR) : (SR.exn x ps S).seq k = .exn x ps S := rfl
@[simp] theorem SR.seq_stuck (k : Ev → Store → SR) : SR.stuck.seq k = .stuck := rfl
def SR.mapS (r : SR) (f : Store → Store) : SR := match r with
  | .ok a ps S => .ok a ps (f S)
  | .exn x ps S => .exn x ps (f S)
  | .stuck => .stuck
def ofO {α : Type} (o : Option α) (S : Store) : Res α := match o with
  | some a => .ok a S
  | none => .stuck
@[simp] theorem ofO_some {α : Type} (a : α) (S : Store) : ofO (some a) S = .ok a S := rfl
@[simp] theorem ofO_none {α : Type} (S : Store) : ofO (none : Option α) S = .stuck := rfl
/-! ### loops -/
def forLoop (ok : Store → Bool) (body : PV → Ev → Store → SR) : List PV → Ev → Store → SR
  | [], ps, S => if ok S = true then .ok .next ps S else .stuck
  | x :: r, ps, S => if ok S = true then (match body x ps S with
    | .ok .next ps' S' => forLoop ok body r ps' S'
    | .ok .cnt ps' S' => forLoop ok body r ps' S'
    | .ok .brk ps' S' => .ok .next ps' S'
    | .ok (.ret v) ps' S' => .ok (.ret v) ps' S'
    | .exn x ps' S' => .exn x ps' S'
    | .stuck => .stuck) else .stuck
def whIter (c : Ev → Store → Res Bool) (b : Ev → Store → SR) : Nat → Ev → Store → SR
  | 0, _, _ => .stuck
  | n + 1, ps, S => match c ps S with
    | .ok true S1 => (match b ps S1 with
      | .ok .next ps' S' => whIter c b n ps' S'
      | .ok .cnt ps' S' => whIter c b n ps' S'
      | .ok .brk ps' S' => .ok .next ps' S'
      | .ok (.ret v) ps' S' => .ok (.ret v) ps' S'
      | .exn x ps' S' => .exn x ps' S'
      | .stuck => .stuck)
    | .ok false S1 => .ok .next ps S1
    | .exn x S1 => .exn x ps S1
    | .stuck => .stuck
open Classical in
noncomputable def whRun (c : Ev → Store → Res Bool) (b : Ev → Store → SR) (ps : Ev) (S : Store) : SR :=
  if h : ∃ n, whIter c b n ps S ≠ .stuck then whIter c b h.choose ps S else .stuck
/-- elements of a comprehension -/
def compLoop (ok : Store → Bool) (test : PV → Store → Res Bool) (elt : PV → Store → Res PV) : List PV → List PV → Store → Res (List PV)
  | [], acc, S => if ok S = true then .ok acc S else .stuck
  | x :: r, acc, S => if ok S = true then (test x S).bind fun b S1 => if b = true then (elt x S1).bind fun v S2 => if acc.length < sizeLine then compLoop ok test elt r (acc ++ [v]) S2 else .stuck
      else compLoop ok test elt r acc S1 else .stuck
def compLoop2 (ok : Store → Bool) (test : PV → Store → Res Bool) (inner : PV → List PV → Store → Res (List PV)) : List PV → List PV → Store → Res (List PV)
  | [], acc, S => if ok S = true then .ok acc S else .stuck
  | x :: r, acc, S => if ok S = true then (test x S).bind fun b S1 => if b = true then (inner x acc S1).bind fun acc' S2 => compLoop2 ok test inner r acc' S2
      else compLoop2 ok test inner r acc S1 else .stuck
def dcompLoop (ok : Store → Bool) (test : PV → Store → Res Bool) (elt : PV → Store → Res (DKey × PV)) : List PV → List DKey → List PV → Store → Res (List DKey × List PV)
  | [], ks, vs, S => if ok S = true then .ok (ks, vs) S else .stuck
  | x :: r, ks, vs, S => if ok S = true then (test x S).bind fun b S1 => if b = true then (elt x S1).bind fun kv S2 =>
      if ks.length < sizeLine && !kv.1.isT then dcompLoop ok test elt r (putKs ks kv.1) (putVs ks vs kv.1 kv.2) S2 else .stuck
      else dcompLoop ok test elt r ks vs S1 else .stuck
/-- what a loop walks: the items, lists in the store that must stay, a dict in the store -/
structure Walked where
  xs : List PV
  ls : List (Nat × List PV) := []
open Classical in
noncomputable def stay (ls : List (Nat × List PV)) (S : Store) : Bool := ls.all fun p => decide (S[p.1]? = some (.lst p.2))
def chars (x : Str) : List PV := x.cps.toList.map fun c => .str ⟨#[c]⟩
def walkOf (v : PV) (S : Store) : Option Walked := match v with
  | .tup xs => some { xs := xs }
  | .lst xs => some { xs := xs }
  | .scr ns => some { xs := ns.map .int }
  | .str x => some { xs := chars x }
  | .ref l => (match S[l]? with
    | some (.lst xs) => some { xs := xs, ls := [(l, xs)] }
    | _ => none)
  | _ => none
/-- a list or tuple -/
def seqOf (v : PV) (S : Store) : Option (List PV × List (Nat × List PV)) := match v with
  | .tup xs => some (xs, [])
  | .lst xs => some (xs, [])
  | .ref l => (match S[l]? with
    | some (.lst xs) => some (xs, [(l, xs)])
    | _ => none)
  | _ => none
def rangeL (lo hi : Int) : List PV := (List.range (hi - lo).toNat).map fun (i : Nat) => .int (lo + (i : Int))
def rangeS (lo c : Int) (n : Nat) : List PV := (List.range n).map fun (i : Nat) => .int (lo + (i : Int) * c)
def small62 (i : Int) : Bool := decide (-(2 ^ 62) ≤ i) && decide (i < 2 ^ 62)
def rangeOf : List PV → Option (List PV)
  | [.int n] => if small62 n then some (rangeL 0 n) else none
  | [.int a, .int b] => if small62 a && small62 b then some (rangeL a b) else none
  | [.int a, .int b, .int c] => if small62 a && small62 b && decide (c = -1) then some (rangeS a (-1) (a - b).toNat) else none
  | _ => none
def enumFrom (k : Nat) : List PV → List PV
  | [] => []
  | x :: r => .tup [.int k, x] :: enumFrom (k + 1) r
def zipL : List PV → List PV → List PV
  | x :: r, y :: t => .tup [x, y] :: zipL r t
  | _, _ => []
def setAll (ps : Ev) : List Nat → List PV → Ev
  | i :: is, v :: vs => setAll (ps.set i (some v)) is vs
  | _, _ => ps
def bindPat (p : Pat) (v : PV) (ps : Ev) (S : Store) : Option Ev := match p with
  | .nm i => some (ps.set i (some v))
  | .tp is => (match v with
    | .tup xs => if xs.length = is.length then some (setAll ps is xs) else none
    | _ => none)
def wipeP (ps : Ev) : List Nat → Ev
  | [] => ps
  | v :: vs => (wipeP ps vs).set v none
def enumW (v : PV) (S : Store) : Option Walked := (seqOf v S).map fun p => { xs := enumFrom 0 p.1, ls := p.2 }
/-- op=, of whole numbers -/
def augop (op : Operator) (a b : PV) : Option PV := match op, a, b with
  | .Add, .int i, .int j => some (.int (i + j))
  | .Sub, .int i, .int j => some (.int (i - j))
  | _, _, _ => none
def zipW (v u : PV) (S : Store) : Option Walked := if isLst v = isLst u then (seqOf v S).bind fun p => (seqOf u S).map fun q => { xs := zipL p.1 q.1, ls := p.2 ++ q.2 } else none
/-! ### built-ins by values -/
def minI : List Int → Option Int
  | [] => none
  | x :: r => some (r.foldl (fun a b => if b < a then b else a) x)
def maxI : List Int → Option Int
  | [] => none
  | x :: r => some (r.foldl (fun a b => if a < b then b else a) x)
def smallI (i : Int) : Bool := decide (i.natAbs.log2 < 1920)
def lenOf (v : PV) (S : Store) : Option Nat := match v with
  | .str x => some x.length
  | .scr ns => some ns.length
  | v => (match dictOf v S with
    | some (ks, _) => some ks.length
    | none => (itemsOf v S).map List.length)
def lstOf (v : PV) (S : Store) : Option (List PV) := if isLst v = true then itemsOf v S else none
def bfun (f : BF) (vs : List PV) (S : Store) : Option PV := match f, vs with
  | .len, [v] => (lenOf v S).map fun (m : Nat) => .int (m : Int)
  | .tuple, [v] => (itemsOf v S).map .tup
  | .list, [v] => (itemsOf v S).map .lst
  | .all, [v] => (lstOf v S).bind fun xs => (asBls xs).map fun bs => .bl (bs.all id)
  | .any, [v] => (lstOf v S).bind fun xs => (asBls xs).map fun bs => .bl (bs.any id)
  | .sum, [v] => (itemsOf v S).bind fun xs => (asInts xs).map fun ns => .int ns.sum
  | .min, [v] => (lstOf v S).bind fun xs => (asInts xs).bind fun ns => (minI ns).map .int
  | .max, [v] => (lstOf v S).bind fun xs => (asInts xs).bind fun ns => (maxI ns).map .int
  | .min, [.int i, .int j] => some (.int (if j < i then j else i))
  | .max, [.int i, .int j] => some (.int (if j > i then j else i))
  | .abs, [.int i] => some (.int (if i < 0 then -i else i))
  | .int, [.int i] => some (.int i)
  | .int, [.bl k] => some (.int (if k then 1 else 0))
  | .bool, [.int i] => some (.bl (i != 0))
  | .bool, [.bl k] => some (.bl k)
  | .str, [.int i] => if smallI i then some (.str (toString i)) else none
  | .repr, [v] => (toDS v S).bind fun d => if PyData.showable d && decide ((PyData.shown d).length ≤ sizeLine) && decide (PyData.depth d < 60) then some (.str (PyData.shown d)) else none
  | .divmod, [.int i, .int j] => if 0 < j ∧ j < 1073741824 then some (.tup [.int (i / j), .int (i % j)]) else none
  | _, _ => none
/-- pairs for dict(..) -/
def asPairs : List PV → Option (List (DKey × PV))
  | [] => some []
  | .tup [k, v] :: r => (k.key).bind fun q => (asPairs r).map ((q, v) :: ·)
  | _ :: _ => none
def mergeD : List (DKey × PV) → List DKey → List PV → List DKey × List PV
  | [], ks, vs => (ks, vs)
  | (k, v) :: r, ks, vs => mergeD r (putKs ks k) (putVs ks vs k v)
/-- a value's type; none: None's -/
def tagOf (v : PV) (S : Store) : Option (Option TyC) := match v with
  | .non => some none
  | .bl _ => some (some .bool)
  | .int _ => some (some .int)
  | .str _ => some (some .str)
  | .tup _ => some (some .tuple)
  | .lst _ => some (some .list)
  | .ins c _ _ => some (some (.own c))
  | .ref l => (match S[l]? with
    | some (.lst _) => some (some .list)
    | some (.dct _ _) => some (some .dict)
    | some (.ins c _ _) => some (some (.own c))
    | _ => none)
  | _ => none
def isiT (t : Option TyC) (u : TyC) : Bool := match t with
  | none => false
  | some .bool => decide (u = .bool) || decide (u = .int)
  | some t => decide (t = u)
def isiV (v : PV) (t : TyC) (S : Store) : Option Bool := (tagOf v S).map fun g => isiT g t
def okS (x : Str) : Bool := decide (x.length ≤ sizeLine)
def isRL (o : PV) (S : Store) : Bool := match o with
  | .ref l => (match S[l]? with
    | some (.lst _) => true
    | _ => false)
  | _ => false
def isSt (o : PV) : Bool := match o with
  | .str _ => true
  | _ => false
/-- the object's kind fits the method -/
def bmT (m : BM) (o : PV) (S : Store) : Bool := match m with
  | .append => isRL o S
  | .extend => isRL o S
  | .pop => isRL o S
  | .get => (dictOf o S).isSome
  | .join => isSt o
  | .split => isSt o
  | .partition => isSt o
  | .removeprefix => isSt o
  | .find => isSt o
  | _ => false
/-- strings' methods, and the like, that change nothing -/
def bmeth (m : BM) (o : PV) (vs : List PV) (S : Store) : Option PV := match m, o, vs with
  | .get, o, [k] => (dictOf o S).bind fun d => (k.key).bind fun q => (lookD d.1 d.2 q).map fun r => r.getD .non
  | .get, o, [k, v] => (dictOf o S).bind fun d => (k.key).bind fun q => (lookD d.1 d.2 q).map fun r => r.getD v
  | .join, .str a, [v] => (itemsOf v S).bind fun xs => (asStrs xs).bind fun ys => if decide ((ys.map (·.length)).sum + ys.length * a.length ≤ 16777216) && okS (Txt.join a ys) then some (.str (Txt.join a ys)) else none
  | .split, .str a, [.str b] => if (b.length != 0) && decide (a.length + 2 ≤ sizeLine) && (Txt.split a b).all okS then some (.lst ((Txt.split a b).map .str)) else none
  | .partition, .str a, [.str b] => if (b.length != 0) && okS (Txt.partition a b).1 && okS (Txt.partition a b).2.1 && okS (Txt.partition a b).2.2 then some (.tup [.str (Txt.partition a b).1, .str (Txt.partition a b).2.1, .str (Txt.partition a b).2.2]) else none
  | .removeprefix, .str a, [.str b] => if okS (Txt.removeprefix a b) then some (.str (Txt.removeprefix a b)) else none
  | .find, .str a, [.str b] => some (.int (Txt.find a b))
  | _, _, _ => none
/-- methods that change their object -/
def bmethW (n : Nat) (m : BM) (o : PV) (vs : List PV) (S : Store) : Option (PV × Store) := match m, vs with
  | .append, [v] => (apnd n o v S).map fun S' => (.non, S')
  | .extend, [v] => (extd n o v S).map fun S' => (.non, S')
  | .pop, [] => popd o S
  | _, _ => none
/-- a new list: plain data, or in the store -/
def mkL (fr : Bool) (xs : List PV) (S : Store) : Res PV := if fr = true then .ok (.lst xs) S else .ok (.ref S.length) (S ++ [.lst xs])
def mkD (fr : Bool) (ks : List DKey) (vs : List PV) (S : Store) : Res PV := if fr = true then .ok (.dct ks vs) S else .ok (.ref S.length) (S ++ [.dct ks vs])
/-- lists that come of built-ins: frozen; into the store when not fr -/
def mkV (fr : Bool) (v : PV) (S : Store) : Res PV := if fr = true then .ok v S else match v with
  | .lst xs => .ok (.ref S.length) (S ++ [.lst xs])
  | .dct ks vs => .ok (.ref S.length) (S ++ [.dct ks vs])
  | _ => .ok v S
def bmR (n : Nat) (m : BM) (fr : Bool) (o : PV) (vs : List PV) (S : Store) : Res PV := match m with
  | .append | .extend | .pop => (match bmethW n m o vs S with
    | some (x, S') => .ok x S'
    | none => .stuck)
  | _ => (ofO (bmeth m o vs S) S).bind fun v S1 => mkV fr v S1
/-! ### freezing -/
def mapO {α β : Type} (f : α → Option β) : List α → Option (List β)
  | [] => some []
  | x :: r => (f x).bind fun y => (mapO f r).map (y :: ·)
def fz (S : Store) (n : Nat) : Nat → PV → Option PV
  | 0, v => if v.rf = true then some v else none
  | k + 1, v => if v.rf = true then some v else match v with
    | .ref l => if l < n then some v else (match S[l]? with
      | some (.lst xs) => (mapO (fz S n k) xs).map .lst
      | some (.dct ks vs) => (mapO (fz S n k) vs).map (.dct ks)
      | some (.ins c fs vs) => (mapO (fz S n k) vs).map (.ins c fs)
      | _ => none)
    | .tup xs => (mapO (fz S n k) xs).map .tup
    | .lst xs => (mapO (fz S n k) xs).map .lst
    | .dct ks vs => (mapO (fz S n k) vs).map (.dct ks)
    | .ins c fs vs => (mapO (fz S n k) vs).map (.ins c fs)
    | _ => none
/-! ### evaluation -/
section
variable (G : Tab) (call : Nat → Nat → List PV → Store → Res PV)
def insOf (v : PV) (S : Store) : Option (Nat × List Nat × List PV) := match v with
  | .ins c fs vs => some (c, fs, vs)
  | .ref l => (match S[l]? with
    | some (.ins c fs vs) => some (c, fs, vs)
    | _ => none)
  | _ => none
def getAt (v : PV) (m : Nat) (S : Store) : Res PV := match insOf v S with
  | some (c, fs, vs) => (match (G.cls[c]?).bind fun k => k.props.lookup m with
    | some f => (call f S.length [v] S).noX
    | none => if noAt G c m = true then ofO (lookF fs vs m) S else .stuck)
  | none => .stuck
/-- the method of an object's class -/
def methOf (v : PV) (m : Nat) (S : Store) : Option Nat := match insOf v S with
  | some (c, fs, _) => if fs.contains m then none else (G.cls[c]?).bind fun k => k.meths.lookup m
  | none => none
def newI (c : Nat) (vs : List PV) (S : Store) : Res PV := match G.cls[c]? with
  | some k => (match call k.init S.length (.ref S.length :: vs) (S ++ [.ins c [] []]) with
    | .ok .non S2 => if k.frz = true then ofO (fz S2 S.length 6 (.ref S.length)) (S2.take S.length) else .ok (.ref S.length) S2
    | .exn x S2 => if PV.rfs x.vs = true then .exn x (S2.take S.length) else .stuck
    | _ => .stuck)
  | none => .stuck
/-- a op b for comparisons, own == too -/
def cmpR (op : CmpOp) (a b : PV) (S : Store) : Res Bool := match op, insOf a S with
  | .Eq, some (c, _, _) => (match (G.cls[c]?).bind fun k => k.eqm with
    | some f => (call f S.length [a, b] S).noX.bind fun v S1 => (match v with
      | .bl x => .ok x S1
      | _ => .stuck)
    | none => .stuck)
  | .NotEq, some (c, _, _) => (match (G.cls[c]?).bind fun k => k.eqm with
    | some f => (call f S.length [a, b] S).noX.bind fun v S1 => (match v with
      | .bl x => .ok (!x) S1
      | _ => .stuck)
    | none => .stuck)
  | op, _ => ofO (cmpD op a b S) S
def bfunR (f : BF) (fr : Bool) (vs : List PV) (S : Store) : Res PV := match f, vs with
  | .str, [v] => (match v with
    | .str x => .ok (.str x) S
    | _ => (match insOf v S with
      | some (c, _, _) => (match (G.cls[c]?).bind fun k => k.strm with
        | some g => (call g S.length [v] S).strO
        | none => .stuck)
      | none => ofO (bfun .str [v] S) S))
  | .repr, [v] => (match insOf v S with
    | some (c, _, _) => (match (G.cls[c]?).bind fun k => k.reprm with
      | some g => (call g S.length [v] S).strO
      | none => .stuck)
    | none => ofO (bfun .repr [v] S) S)
  | .len, [v] => (match insOf v S with
    | some (c, _, _) => (match (G.cls[c]?).bind fun k => k.lenm with
      | some g => (call g S.length [v] S).strO
      | none => .stuck)
    | none => ofO (bfun .len [v] S) S)
  | .dict, [v] => (match lstOf v S with
    | some xs => (match asPairs xs with
      | some ps => if ps.all (fun p => !p.1.isT) then mkD fr (mergeD ps [] []).1 (mergeD ps [] []).2 S else .stuck
      | none => .stuck)
    | none => .stuck)
  | f, vs => (ofO (bfun f vs S) S).bind fun v S1 => mkV fr v S1
def strPart (v : PV) : Option Str := match v with
  | .str x => some x
  | .int i => if smallI i then some (toString i) else none
  | _ => none
def intO (v : PV) : Option Int := match v with
  | .int i => some i
  | _ => none
mutual
noncomputable def eval (n : Nat) : IE → Ev → Store → Res PV
  | .var i, ps, S => (match ps[i]? with
    | some (some v) => .ok v S
    | _ => .stuck)
  | .cst v, _, S => .ok v S
  | .glb v, _, S => .ok v S
  | .tup es, ps, S => (evalL n es ps S).bind fun vs S1 => guardR (decide (vs.length ≤ sizeLine)) (.ok (.tup vs) S1)
  | .lst fr es, ps, S => (evalL n es ps S).bind fun vs S1 => guardR (decide (vs.length ≤ sizeLine)) (mkL fr vs S1)
  | .dct0 fr, _, S => mkD fr [] [] S
  | .dct fr kvs0, ps, S => (evalP n kvs0 ps S).bind fun kvs S1 => if kvs.all (fun p => !p.1.isT) || kvs.length == 1 then mkD fr (mergeD kvs [] []).1 (mergeD kvs [] []).2 S1 else .stuck
  | .neg e, ps, S => (eval n e ps S).bind fun v S1 => (match v with
    | .int i => .ok (.int (-i)) S1
    | _ => .stuck)
  | .bin op a b, ps, S => (eval n a ps S).bind fun x S1 => (eval n b ps S1).bind fun y S2 => binop op x y S2
  | .cmp op a b, ps, S => (eval n a ps S).bind fun x S1 => (eval n b ps S1).bind fun y S2 => (cmpR G call op x y S2).bind fun c S3 => .ok (.bl c) S3
  | .chain o p a b c, ps, S => (eval n a ps S).bind fun x S1 => (eval n b ps S1).bind fun y S2 => (cmpR G call o x y S2).bind fun k S3 =>
      if k = true then (eval n c ps S3).bind fun z S4 => (cmpR G call p y z S4).bind fun k' S5 => .ok (.bl k') S5 else .ok (.bl false) S3
  | .andE es, ps, S => evalAnd n es ps S
  | .orE es, ps, S => evalOr n es ps S
  | .notE e, ps, S => (eval n e ps S).bind fun v S1 => (match v.truth S1 with
    | some b => .ok (.bl (!b)) S1
    | none => .stuck)
  | .ife c a b, ps, S => (eval n c ps S).bind fun v S1 => (match v.truth S1 with
    | some true => eval n a ps S1
    | some false => eval n b ps S1
    | none => .stuck)
  | .sub a i, ps, S => (eval n a ps S).bind fun x S1 => (eval n i ps S1).bind fun y S2 => ofO (getIx x y S2) S2
  | .slc a lo hi, ps, S => (eval n a ps S).bind fun x S1 => ofO (getSl x lo hi S1) S1
  | .sl1 a lo, ps, S => (eval n a ps S).bind fun x S1 => (eval n lo ps S1).bind fun y S2 => ofO ((intO y).bind fun i => getSl x (some i) none S2) S2
  | .sl2 a hi, ps, S => (eval n a ps S).bind fun x S1 => (eval n hi ps S1).bind fun y S2 => ofO ((intO y).bind fun i => getSl x none (some i) S2) S2
  | .sl3 a lo hi, ps, S => (eval n a ps S).bind fun x S1 => (eval n lo ps S1).bind fun y S2 => (match intO y with
    | some i => (eval n hi ps S2).bind fun z S3 => ofO ((intO z).bind fun j => getSl x (some i) (some j) S3) S3
    | none => .stuck)
  | .rev fr a, ps, S => (eval n a ps S).bind fun x S1 => (match lstOf x S1 with
    | some xs => mkL fr xs.reverse S1
    | none => .stuck)
  | .attr e m, ps, S => (eval n e ps S).bind fun v S1 => getAt G call v m S1
  | .call f es, ps, S => (evalL n es ps S).bind fun vs S1 => call f S1.length vs S1
  | .callK f es ks ord, ps, S => (evalL n es ps S).bind fun vs S1 => (evalL n ks ps S1).bind fun ws S2 => guardR (decide (vs.length = es.len) && decide (ws.length = ks.len)) (call f S2.length (ord.map fun j => (vs ++ ws).getD j .non) S2)
  | .new c es, ps, S => (evalL n es ps S).bind fun vs S1 => newI G call c vs S1
  | .newK c ks ord, ps, S => (evalL n ks ps S).bind fun ws S1 => newI G call c (ord.map fun j => ws.getD j .non) S1
  | .newV i es, ps, S => (match ps[i]? with
    | some (some (.cls c)) => if (G.cls[c]?).isSome = true then (evalL n es ps S).bind fun vs S1 => newI G call c vs S1 else .stuck
    | _ => .stuck)
  | .meth m e es, ps, S => (eval n e ps S).bind fun v S1 => (match methOf G v m S1 with
    | some f => (evalL n es ps S1).bind fun vs S2 => call f S2.length (v :: vs) S2
    | none => .stuck)
  | .methK m e ks ord, ps, S => (eval n e ps S).bind fun v S1 => (match methOf G v m S1 with
    | some f => (evalL n ks ps S1).bind fun ws S2 => call f S2.length (v :: ord.map fun j => ws.getD j .non) S2
    | none => .stuck)
  | .cmeth c f es, ps, S => (evalL n es ps S).bind fun vs S1 => call f S1.length (.cls c :: vs) S1
  | .bf f fr es, ps, S => (evalL n es ps S).bind fun vs S1 => bfunR G call f fr vs S1
  | .bm m fr e es, ps, S => (eval n e ps S).bind fun v S1 => guardR (bmT m v S1) ((evalL n es ps S1).bind fun vs S2 => bmR n m fr v vs S2)
  | .isi e t, ps, S => (eval n e ps S).bind fun v S1 => guardR ((tagOf v S1).all (tagIn G)) (ofO ((isiV v t S1).map .bl) S1)
  | .comp fr own elt p it ifs, ps, S => (evalI n it ps S).bind fun w S1 =>
      (compLoop (stay w.ls) (fun x S => match bindPat p x (wipeP ps own) S with
          | some ps' => testL n ifs ps' S
          | none => .stuck) (fun x S => match bindPat p x (wipeP ps own) S with
          | some ps' => eval n elt ps' S
          | none => .stuck) w.xs [] S1).noX.bind fun xs S2 => mkL fr xs S2
  | .dcomp fr own k v p it ifs, ps, S => (evalI n it ps S).bind fun w S1 =>
      (dcompLoop (stay w.ls) (fun x S => match bindPat p x (wipeP ps own) S with
          | some ps' => testL n ifs ps' S
          | none => .stuck) (fun x S => match bindPat p x (wipeP ps own) S with
          | some ps' => (eval n k ps' S).bind fun a S' => (eval n v ps' S').bind fun b S'' => (match a.key with
            | some q => .ok (q, b) S''
            | none => .stuck)
          | none => .stuck) w.xs [] [] S1).noX.bind fun kv S2 => mkD fr kv.1 kv.2 S2
  | .comp2 fr own own1 elt p it ifs p1 it1 ifs1, ps, S => (evalI n it ps S).bind fun w S1 =>
      (compLoop2 (stay w.ls) (fun x S => match bindPat p x (wipeP ps own) S with
          | some ps' => testL n ifs ps' S
          | none => .stuck) (fun x acc S => match bindPat p x (wipeP ps own) S with
          | some ps' => (evalI n it1 ps' S).bind fun w1 S1 => compLoop (stay w1.ls) (fun y S => match bindPat p1 y (wipeP ps' own1) S with
              | some ps2 => testL n ifs1 ps2 S
              | none => .stuck) (fun y S => match bindPat p1 y (wipeP ps' own1) S with
              | some ps2 => eval n elt ps2 S
              | none => .stuck) w1.xs acc S1
          | none => .stuck) w.xs [] S1).noX.bind fun xs S2 => mkL fr xs S2
  | .fstr es, ps, S => (evalF n es Str.empty ps S).bind fun x S1 => .ok (.str x) S1
noncomputable def evalL (n : Nat) : IEs → Ev → Store → Res (List PV)
  | .nil, _, S => .ok [] S
  | .cons e es, ps, S => (eval n e ps S).bind fun v S1 => (evalL n es ps S1).bind fun vs S2 => .ok (v :: vs) S2
noncomputable def evalF (n : Nat) : IEs → Str → Ev → Store → Res Str
  | .nil, acc, _, S => .ok acc S
  | .cons e es, acc, ps, S => (eval n e ps S).bind fun v S1 => (match strPart v with
    | some y => if decide ((acc ++ y).length ≤ sizeLine) = true then evalF n es (acc ++ y) ps S1 else .stuck
    | none => .stuck)
noncomputable def evalP (n : Nat) : IPs → Ev → Store → Res (List (DKey × PV))
  | .nil, _, S => .ok [] S
  | .cons k v rr, ps, S => (eval n k ps S).bind fun a S1 => (eval n v ps S1).bind fun b S2 => (evalP n rr ps S2).bind fun r S3 => (match a.key with
    | some q => .ok ((q, b) :: r) S3
    | none => .stuck)
noncomputable def evalAnd (n : Nat) : IEs → Ev → Store → Res PV
  | .nil, _, _ => .stuck
  | .cons e es, ps, S => (eval n e ps S).bind fun v S1 => (match es with
    | .nil => .ok v S1
    | es' => (match v.truth S1 with
      | some true => evalAnd n es ps S1
      | some false => .ok v S1
      | none => .stuck))
noncomputable def evalOr (n : Nat) : IEs → Ev → Store → Res PV
  | .nil, _, _ => .stuck
  | .cons e es, ps, S => (eval n e ps S).bind fun v S1 => (match es with
    | .nil => .ok v S1
    | es' => (match v.truth S1 with
      | some false => evalOr n es ps S1
      | some true => .ok v S1
      | none => .stuck))
noncomputable def testL (n : Nat) : IEs → Ev → Store → Res Bool
  | .nil, _, S => .ok true S
  | .cons e _, ps, S => (eval n e ps S).bind fun v S1 => ofO (v.truth S1) S1
noncomputable def evalI (n : Nat) : II → Ev → Store → Res Walked
  | .e x, ps, S => (eval n x ps S).bind fun v S1 => ofO (walkOf v S1) S1
  | .rng es, ps, S => (evalL n es ps S).bind fun vs S1 => ofO ((rangeOf vs).map fun xs => { xs := xs }) S1
  | .enum x, ps, S => (eval n x ps S).bind fun v S1 => ofO (enumW v S1) S1
  | .zip a b, ps, S => (eval n a ps S).bind fun v S1 => (eval n b ps S1).bind fun u S2 => ofO (zipW v u S2) S2
  | .items _, _, _ => .stuck
end
/-- an expression as a test -/
noncomputable def test (n : Nat) (e : IE) (ps : Ev) (S : Store) : Res Bool := (eval G call n e ps S).bind fun v S1 => ofO (v.truth S1) S1
mutual
noncomputable def exec (n : Nat) : IS → Ev → Store → SR
  | .asg i e, ps, S => (eval G call n e ps S).toS ps fun v S1 => .ok .next (ps.set i (some v)) S1
  | .asgT is e, ps, S => (eval G call n e ps S).toS ps fun v S1 => (match bindPat (.tp is) v ps S1 with
    | some ps' => .ok .next ps' S1
    | none => .stuck)
  | .asgS a i e, ps, S => (eval G call n e ps S).toS ps fun v S1 => (eval G call n a ps S1).toS ps fun o S2 => (eval G call n i ps S2).toS ps fun k S3 => (match setIx n o k v S3 with
    | some S4 => .ok .next ps S4
    | none => .stuck)
  | .asgA a m e, ps, S => (eval G call n e ps S).toS ps fun v S1 => (eval G call n a ps S1).toS ps fun o S2 => (match setAt G n o m v S2 with
    | some S3 => .ok .next ps S3
    | none => .stuck)
  | .aug i op e, ps, S => (match ps[i]? with
    | some (some x) => (eval G call n e ps S).toS ps fun y S1 => (ofO (augop op x y) S1).toS ps fun z S2 => .ok .next (ps.set i (some z)) S2
    | _ => .stuck)
  | .augS a i op e, ps, S => (eval G call n a ps S).toS ps fun o S1 => (eval G call n i ps S1).toS ps fun k S2 => (match getIx o k S2 with
    | some x => (eval G call n e ps S2).toS ps fun y S3 => (ofO (augop op x y) S3).toS ps fun z S4 => (match setIx n o k z S4 with
      | some S5 => .ok .next ps S5
      | none => .stuck)
    | none => .stuck)
  | .ex e, ps, S => (eval G call n e ps S).toS ps fun _ S1 => .ok .next ps S1
  | .ret e, ps, S => (eval G call n e ps S).toS ps fun v S1 => .ok (.ret v) ps S1
  | .retN, ps, S => .ok (.ret .non) ps S
  | .ifs c a b, ps, S => (test G call n c ps S).toS ps fun k S1 => if k = true then execs n a ps S1 else execs n b ps S1
  | .for_ p it b, ps, S => (evalI G call n it ps S).toS ps fun w S1 => (forLoop (stay w.ls) (fun x ps S => match bindPat p x ps S with
      | some ps' => execs n b ps' S
      | none => .stuck) w.xs ps S1)
  | .whl c b, ps, S => whRun (fun ps S => test G call n c ps S) (fun ps S => execs n b ps S) ps S
  | .pass, ps, S => .ok .next ps S
  | .brk, ps, S => .ok .brk ps S
  | .cnt, ps, S => .ok .cnt ps S
  | .raise c es, ps, S => (evalL G call n es ps S).toS ps fun vs S1 => (match (G.cls[c]?).bind fun k => k.exc with
    | some fs => if fs.length = vs.length ∧ PV.rfs vs = true then .exn ⟨c, fs, vs⟩ ps S1 else .stuck
    | none => .stuck)
  | .tryE b hs, ps, S => (match execs n b ps S with
    | .exn _ _ _ => .stuck
    | r => r)
  | .nope, _, _ => .stuck
noncomputable def execs (n : Nat) : ISs → Ev → Store → SR
  | .nil, ps, S => .ok .next ps S
  | .cons s r, ps, S => (exec n s ps S).seq fun ps' S' => execs n r ps' S'
end
/-- a def is called: base: the first place of its frame -/
noncomputable def runFn (d : FnDef) (base : Nat) (vs : List PV) (S : Store) : Res PV :=
  if vs.length = d.np ∧ d.np ≤ d.nl ∧ (d.keep = true ∨ base = S.length) then (match execs G call base d.body (vs.map some ++ List.replicate (d.nl - vs.length) none) S with
    | .ok fl _ S' => (match fl with
      | .ret v => if d.keep = true then .ok v S' else ofO (fz S' base 6 v) (S'.take base)
      | .next => if d.keep = true then .ok .non S' else .ok .non (S'.take base)
      | _ => .stuck)
    | .exn x _ S' => if PV.rfs x.vs = true then (if d.keep = true then .exn x S' else .exn x (S'.take base)) else .stuck
    | .stuck => .stuck) else .stuck
end
/-- calls up to a level -/
noncomputable def callN (G : Tab) : Nat → Nat → Nat → List PV → Store → Res PV
  | 0, _, _, _, _ => .stuck
  | k + 1, f, base, vs, S => match G.fns[f]? with
    | some d => if d.lv = k + 1 then runFn G (callN G k) d base vs S else if d.lv ≤ k then callN G k f base vs S else .stuck
    | none => .stuck
end PyI
set_option Elab.async false
set_option linter.all false
set_option maxRecDepth 100000
set_option maxHeartbeats 2000000
/-! PyC: how the small language's values lie in HandS' heaps -/
namespace PyI
open PySem PySem.Spec PyProof.Rows L2
/-! all references below n -/
mutual
def PV.lt (n : Nat) : PV → Bool
  | .ref l => decide (l < n)
  | .tup xs => PV.lts n xs
  | .lst xs => PV.lts n xs
  | .dct _ vs => PV.lts n vs
  | .ins _ _ vs => PV.lts n vs
  | .non | .bl _ | .int _ | .str _ | .cls _ | .scr _ | .wtp _ => true
def PV.lts (n : Nat) : List PV → Bool
  | [] => true
  | x :: r => PV.lt n x && PV.lts n r
end
theorem PV.lts_eq (n : Nat) (xs : List PV) : PV.lts n xs = xs.all (PV.lt n) := by
  induction xs with
  | nil => rfl
  | cons x r ih => rw [PV.lts, List.all_cons, ih]
mutual
theorem PV.lt_of_rf (n : Nat) : ∀ v : PV, v.rf = true → v.lt n = true
  | .ref l, h => by simp [PV.rf] at h
  | .tup xs, h => by rw [PV.lt]; exact PV.lts_of_rfs n xs (by simpa [PV.rf] using h)
  | .lst xs, h => by rw [PV.lt]; exact PV.lts_of_rfs n xs (by simpa [PV.rf] using h)
  | .dct ks xs, h => by rw [PV.lt]; exact PV.lts_of_rfs n xs (by simpa [PV.rf] using h)
  | .ins c fs xs, h => by rw [PV.lt]; exact PV.lts_of_rfs n xs (by simpa [PV.rf] using h)
  | .non, _ | .bl _, _ | .int _, _ | .str _, _ | .cls _, _ | .scr _, _ | .wtp _, _ => by rfl
theorem PV.lts_of_rfs (n : Nat) : ∀ xs : List PV, PV.rfs xs = true → PV.lts n xs = true
  | [], _ => rfl
  | x :: r, h => by
    rw [PV.rfs, Bool.and_eq_true] at h
    rw [PV.lts, Bool.and_eq_true]
    exact ⟨PV.lt_of_rf n x h.1, PV.lts_of_rfs n r h.2⟩
end
def PO.lt (n : Nat) : PO → Bool
  | .lst xs => PV.lts n xs
  | .dct _ vs => PV.lts n vs
  | .dlk _ vs => PV.lts n vs
  | .ins _ _ vs => PV.lts n vs
/-- the written part, the classes' addresses, the fields' names -/
structure Nm where
  K : PySem.W.Frag
  ca : Nat → Addr
  fld : Nat → Str
  nf : Nat
  inj : ∀ i j, i < nf → j < nf → fld i = fld j → i = j
  /-- lists under way, that nothing else tells of -/
  ex : List Addr := []
/-- neither of the store nor under way -/
def Off (N : Nm) (ρ : List Addr) (a : Addr) : Prop := a ∉ ρ ∧ a ∉ N.ex
def dk1 : Key → DKey
  | .inl n => .i n
  | .inr x => .s x
def DKey.okL : DKey → Prop
  | .i _ => True
  | .s x => x.length ≤ sizeLine
  | .t ks => ks.length ≤ sizeLine ∧ ∀ k ∈ ks, ∀ x, k = .inr x → x.length ≤ sizeLine
/-- a tuple of the written part -/
def KTup (K : PySem.W.Frag) (a : Addr) (ys : List V) : Prop := ∃ (o : Obj) (its : Array Value) (n : Nat), K.lookup a = some o ∧ o.cls = .type "tuple" ∧ o.data = .seq its n ∧ its.size ≤ sizeLine ∧ Vals ys its.toList
/-- a list of the written part -/
def KLst (K : PySem.W.Frag) (a : Addr) (ys : List V) : Prop := ∃ (o : Obj) (its : Array Value) (n : Nat), K.lookup a = some o ∧ o.cls = .type "list" ∧ o.dict = none ∧ o.data = .seq its n ∧ its.size ≤ sizeLine ∧ Vals ys its.toList
/-- the script -/
def ScrL (N : Nm) (ρ : List Addr) (H : Hp) (a : Addr) (ys : List V) : Prop := (∃ o, Off N ρ a ∧ H a = some (.frz o (.lst ys))) ∨ KLst N.K a ys
theorem ScrL.sq {N : Nm} {ρ : List Addr} {H : Hp} {a : Addr} {ys : List V} (h : ScrL N ρ H a ys) : SqL N.K H a ys := by
  rcases h with ⟨o, _, h⟩ | h
  · exact .inl (.inr ⟨o, h⟩)
  · exact .inr h
/-- a dict's content -/
inductive DC (ks : List DKey) (ys : List V) : HO → Prop
  | k (kvs : List (Key × V)) (h1 : ks = kvs.map fun p => dk1 p.1) (h2 : ys = kvs.map (·.2)) (h3 : ∀ k ∈ ks, k.okL) (h4 : ks.Nodup) (h5 : ks.length ≤ sizeLine) : DC ks ys (.dK kvs)
  | t (kvs : List (List Key × V)) (h1 : ks = kvs.map fun p => .t p.1) (h2 : ys = kvs.map (·.2)) (h3 : ∀ k ∈ ks, k.okL) (h4 : ks.Nodup) (h5 : ks.length ≤ sizeLine) (h6 : ks ≠ []) : DC ks ys (.dT kvs)
section
variable (N : Nm) (ρ : List Addr) (H : Hp)
mutual
def RV : PV → V → Prop
  | .non, x => x = .non
  | .bl b, x => x = .bl b
  | .int i, x => x = .int i
  | .str s, x => x = .str s ∧ s.length ≤ sizeLine
  | .tup xs, x => ∃ a ys, x = .ref a ∧ Off N ρ a ∧ H a = some (.tup ys) ∧ RVs xs ys ∧ xs.length ≤ sizeLine
  | .lst xs, x => ∃ a ys, x = .ref a ∧ Off N ρ a ∧ H a = some (.lst ys) ∧ RVs xs ys ∧ xs.length ≤ sizeLine
  | .dct ks vs, x => ∃ a ys o, x = .ref a ∧ Off N ρ a ∧ DC ks ys o ∧ Rd H a o ∧ RVs vs ys ∧ (ks = [] → H a = some o)
  | .ins c fs vs, x => ∃ a dx ys, x = .ref a ∧ Off N ρ a ∧ H a = some (.ins (N.ca c) dx ((fs.map N.fld).zip ys)) ∧ RVs vs ys ∧ fs.length = vs.length ∧ ∀ i ∈ fs, i < N.nf
  | .ref l, x => ∃ a, ρ[l]? = some a ∧ x = .ref a
  | .cls c, x => x = .ref (N.ca c)
  | .scr ns, x => ∃ a, x = .ref a ∧ ScrL N ρ H a (ns.map V.int) ∧ ns.length ≤ sizeLine
  | .wtp xs, x => ∃ a, x = .ref a ∧ KTup N.K a (xs.map V.str) ∧ xs.length ≤ sizeLine ∧ ∀ s ∈ xs, s.length ≤ sizeLine
def RVs : List PV → List V → Prop
  | [], ys => ys = []
  | x :: r, ys => ∃ y t, ys = y :: t ∧ RV x y ∧ RVs r t
end
/-- what stands for an object of the store -/
def ORl (xs : List PV) (a : Addr) : Prop := ∃ ys, H a = some (.lst ys) ∧ RVs N ρ H xs ys ∧ xs.length ≤ sizeLine
def ORd (ks : List DKey) (vs : List PV) (a : Addr) : Prop := ∃ ys o, DC ks ys o ∧ H a = some o ∧ RVs N ρ H vs ys
def ORk (ks : List DKey) (vs : List PV) (a : Addr) : Prop := ∃ ys o od, DC ks ys o ∧ H a = some (.frz od o) ∧ RVs N ρ H vs ys
def ORi (c : Nat) (fs : List Nat) (vs : List PV) (a : Addr) : Prop := ∃ dx ys, H a = some (.ins (N.ca c) dx ((fs.map N.fld).zip ys)) ∧ RVs N ρ H vs ys ∧ fs.length = vs.length ∧ ∀ i ∈ fs, i < N.nf
def OR (o : PO) (a : Addr) : Prop := match o with
  | .lst xs => ORl N ρ H xs a
  | .dct ks vs => ORd N ρ H ks vs a
  | .dlk ks vs => ORk N ρ H ks vs a
  | .ins c fs vs => ORi N ρ H c fs vs a
structure Rel (S : Store) : Prop where
  len : ρ.length = S.length
  nd : ρ.Nodup
  obj : ∀ (l : Nat) (o : PO) (a : Addr), S[l]? = some o → ρ[l]? = some a → OR N ρ H o a
  ex : ∀ a ∈ N.ex, a ∉ ρ ∧ ∃ u, H a = some u ∧ ∀ ys, u ≠ .tup ys
def SlR (ps : Ev) (σ : L2.St) : Prop := ps.length = σ.length ∧ ∀ (i : Nat) (v : PV), ps[i]? = some (some v) → ∃ x, σ[i]? = some (some x) ∧ RV N ρ H v x
end
/-! ### steps -/
def Ext (ρ : List Addr) (H H' : Hp) : Prop := ∀ a o, H a = some o → a ∉ ρ → H' a = some o
structure Stp (N : Nm) (n : Nat) (ρ : List Addr) (S : Store) (H : Hp) (ρ' : List Addr) (S' : Store) (H' : Hp) : Prop where
  pre : ρ <+: ρ'
  new : ∀ a ∈ ρ', a ∈ ρ ∨ H a = none
  ext : Ext ρ H H'
  rel : Rel N ρ' H' S'
  le : S.length ≤ S'.length
  old : ∀ (l : Nat) (o o' : PO) (m : Nat), l < n → S[l]? = some o → S'[l]? = some o' → o.lt m = true → o'.lt m = true
  lk : ∀ (l : Nat) (ks : List DKey) (vs : List PV), S[l]? = some (.dlk ks vs) → S'[l]? = some (.dlk ks vs)
section
variable {N : Nm} {n : Nat} {ρ ρ' ρ2 : List Addr} {S S' S2 : Store} {H H' H2 : Hp}
theorem Ext.refl : Ext ρ H H := fun _ _ h _ => h
theorem Stp.refl (R : Rel N ρ H S) : Stp N n ρ S H ρ S H :=
  ⟨List.prefix_rfl, fun _ h => .inl h, Ext.refl, R, Nat.le_refl _, fun l o o' m _ h h' hl => by rw [h] at h'; cases h'; exact hl, fun _ _ _ h => h⟩
theorem Stp.trans (a : Stp N n ρ S H ρ' S' H') (b : Stp N n ρ' S' H' ρ2 S2 H2) : Stp N n ρ S H ρ2 S2 H2 where
  pre := a.pre.trans b.pre
  new := fun x hx => by
    rcases b.new x hx with h | h
    · exact a.new x h
    · by_cases hr : x ∈ ρ
      · exact .inl hr
      · right
        cases e : H x with
        | none => rfl
        | some o => rw [a.ext x o e hr] at h; cases h
  ext := fun x o h hx => b.ext x o (a.ext x o h hx) fun hx' => by
    rcases a.new x hx' with q | q
    · exact hx q
    · rw [h] at q; cases q
  rel := b.rel
  le := Nat.le_trans a.le b.le
  old := fun l o o' m hl h h' hm => by
    have hlt : l < S'.length := Nat.lt_of_lt_of_le (List.getElem?_eq_some_iff.mp h).1 a.le
    exact b.old l S'[l] o' m hl (by simp [hlt]) h' (a.old l o S'[l] m hl h (by simp [hlt]) hm)
  lk := fun l ks vs h => b.lk l ks vs (a.lk l ks vs h)
theorem Stp.notin (a : Stp N n ρ S H ρ' S' H') {x : Addr} {o : HO} (h : H x = some o) (hx : x ∉ ρ) : x ∉ ρ' := fun q => by
  rcases a.new x q with z | z
  · exact hx z
  · rw [h] at z; cases z
/-! ### values stay -/
/-- what values lean on -/
structure Stay (N : Nm) (ρ : List Addr) (H : Hp) (ρ' : List Addr) (H' : Hp) : Prop where
  pre : ρ <+: ρ'
  new : ∀ a ∈ ρ', a ∈ ρ ∨ H a = none
  ext : ∀ a o, H a = some o → Off N ρ a → H' a = some o ∨ (∃ od, H' a = some (.frz od o) ∧ Mut (some o) ∧ (∃ ks ys, DC ks ys o ∧ ks ≠ [])) ∨ (∃ od u, o = .frz od u ∧ H' a = some u ∧ ∃ ks ys, DC ks ys u)
theorem Stp.stay (a : Stp N n ρ S H ρ' S' H') : Stay N ρ H ρ' H' := ⟨a.pre, a.new, fun x o h hx => .inl (a.ext x o h hx.1)⟩
theorem DC.inv {ks : List DKey} {ys : List V} {o : HO} (d : DC ks ys o) : (∃ kvs, o = .dK kvs) ∨ ∃ kvs, o = .dT kvs := by
  cases d with
  | k kvs _ _ _ _ _ => exact .inl ⟨kvs, rfl⟩
  | t kvs _ _ _ _ _ _ => exact .inr ⟨kvs, rfl⟩
theorem Stay.notin (a : Stay N ρ H ρ' H') {x : Addr} {o : HO} (h : H x = some o) (hx : Off N ρ x) : Off N ρ' x := ⟨fun q => by
  rcases a.new x q with z | z
  · exact hx.1 z
  · rw [h] at z; exact (nomatch z), hx.2⟩
/-- objects that are no dicts stay as they are -/
theorem Stay.same (a : Stay N ρ H ρ' H') {x : Addr} {o : HO} (h : H x = some o) (hx : Off N ρ x) (nd : ∀ ks ys, ¬ DC ks ys o) (nf : ∀ od u, o = .frz od u → ∀ ks ys, ¬ DC ks ys u) : H' x = some o := by
  rcases a.ext x o h hx with q | ⟨_, _, _, ks, ys, d, _⟩ | ⟨od, u, e, _, ks, ys, d⟩
  · exact q
  · exact (nd ks ys d).elim
  · exact (nf od u e ks ys d).elim
theorem Stay.rd (a : Stay N ρ H ρ' H') {x : Addr} {o : HO} (h : Rd H x o) (hx : Off N ρ x) (d : ∃ ks ys, DC ks ys o) : Rd H' x o ∧ Off N ρ' x := by
  rcases h with h | ⟨od, h⟩
  · refine ⟨?_, a.notin h hx⟩
    rcases a.ext x o h hx with q | ⟨od, q, _⟩ | ⟨od, u, e, q, ks, ys, d'⟩
    · exact .inl q
    · exact .inr ⟨od, q⟩
    · obtain ⟨ks, ys, d⟩ := d
      subst e
      rcases d.inv with ⟨_, e⟩ | ⟨_, e⟩ <;> cases e
  · refine ⟨?_, a.notin h hx⟩
    rcases a.ext x _ h hx with q | ⟨od', q, _, ks, ys, d', _⟩ | ⟨od', u, e, q, ks, ys, d'⟩
    · exact .inr ⟨od, q⟩
    · rcases d'.inv with ⟨_, e⟩ | ⟨_, e⟩ <;> cases e
    · cases e
      exact .inl q
theorem nodc_lst {ks ys zs} : ¬ DC ks ys (.lst zs) := fun d => by cases d
theorem nodc_tup {ks ys zs} : ¬ DC ks ys (.tup zs) := fun d => by cases d
theorem nodc_ins {ks ys a b c} : ¬ DC ks ys (.ins a b c) := fun d => by cases d
theorem nodc_frz {ks ys a b} : ¬ DC ks ys (.frz a b) := fun d => by cases d
theorem DC.nil_of {ks : List DKey} {ys zs : List V} {o : HO} (d : DC ks ys o) (e : DC [] zs o) : ks = [] := by
  cases e with
  | k kvs h1 h2 _ _ _ =>
    cases d with
    | k _ g1 _ _ _ _ =>
      have : kvs = [] := by simpa using h1.symm
      rw [g1, this]; rfl
  | t kvs h1 h2 _ _ _ h6 => exact (h6 rfl).elim
mutual
theorem RV.stay (t : Stay N ρ H ρ' H') : ∀ {v : PV} {x : V}, RV N ρ H v x → RV N ρ' H' v x
  | .non, x, h => by simpa [RV] using h
  | .bl b, x, h => by simpa [RV] using h
  | .int i, x, h => by simpa [RV] using h
  | .str s, x, h => by simpa [RV] using h
  | .cls c, x, h => by simpa [RV] using h
  | .ref l, x, h => by
    simp only [RV] at h ⊢
    obtain ⟨a, h1, h2⟩ := h
    obtain ⟨more, e⟩ := t.pre
    refine ⟨a, ?_, h2⟩
    rw [← e, List.getElem?_append_left (List.getElem?_eq_some_iff.mp h1).1]
    exact h1
  | .tup xs, x, h => by
    simp only [RV] at h ⊢
    obtain ⟨a, ys, e, h1, h4, h2, h3⟩ := h
    exact ⟨a, ys, e, t.notin h4 h1, t.same h4 h1 (fun _ _ => nodc_tup) (fun _ _ e => by cases e), RVs.stay t h2, h3⟩
  | .wtp xs, x, h => by simpa [RV] using h
  | .lst xs, x, h => by
    simp only [RV] at h ⊢
    obtain ⟨a, ys, e, h1, h4, h2, h3⟩ := h
    exact ⟨a, ys, e, t.notin h4 h1, t.same h4 h1 (fun _ _ => nodc_lst) (fun _ _ e => by cases e), RVs.stay t h2, h3⟩
  | .dct ks vs, x, h => by
    simp only [RV] at h ⊢
    obtain ⟨a, ys, o, e, h1, h2, h3, h4, h5⟩ := h
    obtain ⟨q1, q2⟩ := t.rd h3 h1 ⟨_, _, h2⟩
    refine ⟨a, ys, o, e, q2, h2, q1, RVs.stay t h4, fun e => ?_⟩
    subst e
    rcases t.ext a o (h5 rfl) h1 with q | ⟨_, _, _, ks, ys, d, ne⟩ | ⟨od, u, e, _, ks, ys, d⟩
    · exact q
    · exact (ne (d.nil_of h2)).elim
    · subst e; exact (nodc_frz h2).elim
  | .ins c fs vs, x, h => by
    simp only [RV] at h ⊢
    obtain ⟨a, dx, ys, e, h1, h2, h3, h4⟩ := h
    exact ⟨a, dx, ys, e, t.notin h2 h1, t.same h2 h1 (fun _ _ => nodc_ins) (fun _ _ e => by cases e), RVs.stay t h3, h4⟩
  | .scr ns, x, h => by
    simp only [RV] at h ⊢
    obtain ⟨a, e, h2, h3⟩ := h
    refine ⟨a, e, ?_, h3⟩
    rcases h2 with ⟨o, h1, h2⟩ | h2
    · exact .inl ⟨o, t.notin h2 h1, t.same h2 h1 (fun _ _ => nodc_frz) (fun _ _ e => by cases e; exact fun _ _ => nodc_lst)⟩
    · exact .inr h2
theorem RVs.stay (t : Stay N ρ H ρ' H') : ∀ {vs : List PV} {xs : List V}, RVs N ρ H vs xs → RVs N ρ' H' vs xs
  | [], xs, h => by simpa [RVs] using h
  | v :: r, xs, h => by
    simp only [RVs] at h ⊢
    obtain ⟨y, u, e, h1, h2⟩ := h
    exact ⟨y, u, e, RV.stay t h1, RVs.stay t h2⟩
end
theorem RV.stp {v : PV} {x : V} (h : RV N ρ H v x) (t : Stp N n ρ S H ρ' S' H') : RV N ρ' H' v x := RV.stay t.stay h
theorem RVs.stp {v : List PV} {x : List V} (h : RVs N ρ H v x) (t : Stp N n ρ S H ρ' S' H') : RVs N ρ' H' v x := RVs.stay t.stay h
theorem SlR.stay {ps : Ev} {σ : L2.St} (h : SlR N ρ H ps σ) (t : Stay N ρ H ρ' H') : SlR N ρ' H' ps σ :=
  ⟨h.1, fun i v e => let ⟨x, h1, h2⟩ := h.2 i v e; ⟨x, h1, RV.stay t h2⟩⟩
theorem SlR.stp {ps : Ev} {σ : L2.St} (h : SlR N ρ H ps σ) (t : Stp N n ρ S H ρ' S' H') : SlR N ρ' H' ps σ := h.stay t.stay
theorem RVs.length : ∀ {vs : List PV} {xs : List V}, RVs N ρ H vs xs → vs.length = xs.length
  | [], xs, h => by simp only [RVs] at h; subst h; rfl
  | v :: r, xs, h => by
    simp only [RVs] at h
    obtain ⟨y, u, e, h1, h2⟩ := h
    subst e
    simp [RVs.length h2]
theorem RVs.get : ∀ {vs : List PV} {xs : List V} {i : Nat} {v : PV}, RVs N ρ H vs xs → vs[i]? = some v → ∃ x, xs[i]? = some x ∧ RV N ρ H v x
  | [], xs, i, v, h, e => by simp at e
  | w :: r, xs, 0, v, h, e => by
    simp only [RVs] at h
    obtain ⟨y, u, e1, h1, h2⟩ := h
    subst e1
    simp at e; subst e
    exact ⟨y, by simp, h1⟩
  | w :: r, xs, i + 1, v, h, e => by
    simp only [RVs] at h
    obtain ⟨y, u, e1, h1, h2⟩ := h
    subst e1
    obtain ⟨x, q1, q2⟩ := RVs.get (i := i) h2 (by simpa using e)
    exact ⟨x, by simpa using q1, q2⟩
theorem RVs.nil_iff {xs : List V} : RVs N ρ H [] xs ↔ xs = [] := by simp [RVs]
theorem RVs.cons {v : PV} {vs : List PV} {x : V} {xs : List V} (h : RV N ρ H v x) (t : RVs N ρ H vs xs) : RVs N ρ H (v :: vs) (x :: xs) := by
  simp only [RVs]; exact ⟨x, xs, rfl, h, t⟩
theorem RVs.cons_inv {v : PV} {vs : List PV} {xs : List V} (h : RVs N ρ H (v :: vs) xs) : ∃ y t, xs = y :: t ∧ RV N ρ H v y ∧ RVs N ρ H vs t := by
  simpa only [RVs] using h
theorem RVs.append : ∀ {vs ws : List PV} {xs ys : List V}, RVs N ρ H vs xs → RVs N ρ H ws ys → RVs N ρ H (vs ++ ws) (xs ++ ys)
  | [], ws, xs, ys, h, t => by rw [RVs.nil_iff] at h; subst h; exact t
  | v :: vs, ws, xs, ys, h, t => by
    obtain ⟨y, u, e, h1, h2⟩ := h.cons_inv
    subst e
    exact .cons h1 (RVs.append h2 t)
theorem RVs.set : ∀ {vs : List PV} {xs : List V} {v : PV} {x : V} (i : Nat), RVs N ρ H vs xs → RV N ρ H v x → RVs N ρ H (vs.set i v) (xs.set i x)
  | [], xs, v, x, i, h, r => by rw [RVs.nil_iff] at h; subst h; simp [RVs]
  | w :: vs, xs, v, x, 0, h, r => by
    obtain ⟨y, u, e, h1, h2⟩ := h.cons_inv
    subst e
    exact .cons r h2
  | w :: vs, xs, v, x, i + 1, h, r => by
    obtain ⟨y, u, e, h1, h2⟩ := h.cons_inv
    subst e
    exact .cons h1 (RVs.set i h2 r)
theorem RVs.take : ∀ {vs : List PV} {xs : List V} (k : Nat), RVs N ρ H vs xs → RVs N ρ H (vs.take k) (xs.take k)
  | vs, xs, 0, h => by simp [RVs]
  | [], xs, k + 1, h => by rw [RVs.nil_iff] at h; subst h; simp [RVs]
  | w :: vs, xs, k + 1, h => by
    obtain ⟨y, u, e, h1, h2⟩ := h.cons_inv
    subst e
    exact .cons h1 (RVs.take k h2)
theorem RVs.drop : ∀ {vs : List PV} {xs : List V} (k : Nat), RVs N ρ H vs xs → RVs N ρ H (vs.drop k) (xs.drop k)
  | vs, xs, 0, h => by simpa using h
  | [], xs, k + 1, h => by rw [RVs.nil_iff] at h; subst h; simp [RVs]
  | w :: vs, xs, k + 1, h => by
    obtain ⟨y, u, e, h1, h2⟩ := h.cons_inv
    subst e
    simpa using RVs.drop k h2
theorem RVs.reverse : ∀ {vs : List PV} {xs : List V}, RVs N ρ H vs xs → RVs N ρ H vs.reverse xs.reverse
  | [], xs, h => by rw [RVs.nil_iff] at h; subst h; simp [RVs]
  | w :: vs, xs, h => by
    obtain ⟨y, u, e, h1, h2⟩ := h.cons_inv
    subst e
    simp only [List.reverse_cons]
    exact (RVs.reverse h2).append (.cons h1 (by simp [RVs]))
theorem RVs.dropLast {vs : List PV} {xs : List V} (h : RVs N ρ H vs xs) : RVs N ρ H vs.dropLast xs.dropLast := by
  rw [List.dropLast_eq_take, List.dropLast_eq_take, h.length]
  exact h.take _
/-! ### what is new is not in the store -/
theorem OR.there {o : PO} {a : Addr} (h : OR N ρ H o a) : ∃ u, H a = some u ∧ (∀ ys, u ≠ .tup ys) := by
  cases o with
  | lst xs => obtain ⟨ys, h1, _⟩ := h; exact ⟨_, h1, fun _ e => by cases e⟩
  | dct ks vs =>
    obtain ⟨ys, o, d, h1, _⟩ := h
    refine ⟨_, h1, fun _ e => ?_⟩
    subst e; cases d
  | dlk ks vs => obtain ⟨ys, o, od, d, h1, _⟩ := h; exact ⟨_, h1, fun _ e => by cases e⟩
  | ins c fs vs => obtain ⟨dx, ys, h1, _⟩ := h; exact ⟨_, h1, fun _ e => by cases e⟩
theorem Rel.at (R : Rel N ρ H S) {a : Addr} (h : a ∈ ρ) : ∃ (l : Nat) (o : PO), S[l]? = some o ∧ ρ[l]? = some a ∧ OR N ρ H o a := by
  obtain ⟨l, hl, e⟩ := List.mem_iff_getElem.mp h
  have hs : l < S.length := by rw [← R.len]; exact hl
  exact ⟨l, S[l], by simp [hs], by simp [hl, e], R.obj l _ a (by simp [hs]) (by simp [hl, e])⟩
theorem Rel.fresh (R : Rel N ρ H S) {a : Addr} (h : H a = none) : Off N ρ a := ⟨fun q => by
  obtain ⟨l, o, _, _, ho⟩ := R.at q
  obtain ⟨u, hu, _⟩ := ho.there
  rw [h] at hu; exact (nomatch hu), fun q => by
  obtain ⟨_, ys, e, _⟩ := R.ex a q
  rw [h] at e; exact (nomatch e)⟩
theorem Rel.tup (R : Rel N ρ H S) {a : Addr} {ys : List V} (h : H a = some (.tup ys)) : Off N ρ a := ⟨fun q => by
  obtain ⟨l, o, _, _, ho⟩ := R.at q
  obtain ⟨u, hu, n⟩ := ho.there
  rw [h] at hu
  cases hu
  exact n ys rfl, fun q => by
  obtain ⟨_, u, e, nt⟩ := R.ex a q
  rw [h] at e; cases e
  exact nt ys rfl⟩
theorem OR.stay {o : PO} {a : Addr} (h : OR N ρ H o a) (t : Stay N ρ H ρ' H') (e : H' a = H a) : OR N ρ' H' o a := by
  cases o with
  | lst xs => obtain ⟨ys, h1, h2, h3⟩ := h; exact ⟨ys, by rw [e]; exact h1, RVs.stay t h2, h3⟩
  | dct ks vs => obtain ⟨ys, o, d, h1, h2⟩ := h; exact ⟨ys, o, d, by rw [e]; exact h1, RVs.stay t h2⟩
  | dlk ks vs => obtain ⟨ys, o, od, d, h1, h2⟩ := h; exact ⟨ys, o, od, d, by rw [e]; exact h1, RVs.stay t h2⟩
  | ins c fs vs => obtain ⟨dx, ys, h1, h2, h3⟩ := h; exact ⟨dx, ys, by rw [e]; exact h1, RVs.stay t h2, h3⟩
/-! ### the steps there are -/
/-- a new object that is plain data -/
theorem Stay.laid {p : Addr} {u : HO} (hp : H p = none) : Stay N ρ H ρ (upd H p u) :=
  ⟨List.prefix_rfl, fun _ h => .inl h, fun a o h _ => .inl (by rw [upd_ne (ne_of_none h hp)]; exact h)⟩
theorem Stp.laid (R : Rel N ρ H S) {p : Addr} {u : HO} (hp : H p = none) : Stp N n ρ S H ρ S (upd H p u) := by
  have t : Stay N ρ H ρ (upd H p u) := Stay.laid hp
  refine ⟨List.prefix_rfl, fun _ h => .inl h, fun a o h _ => by rw [upd_ne (ne_of_none h hp)]; exact h, ⟨R.len, R.nd, fun l o a h h' => ?_, fun a ha => ⟨(R.ex a ha).1, let ⟨ys, e, nt⟩ := (R.ex a ha).2; ⟨ys, by rw [upd_ne (ne_of_none e hp)]; exact e, nt⟩⟩⟩, Nat.le_refl _, fun l o o' m _ h h' hl => by rw [h] at h'; cases h'; exact hl, fun _ _ _ h => h⟩
  have q := R.obj l o a h h'
  obtain ⟨w, hw, _⟩ := q.there
  exact q.stay t (upd_ne (ne_of_none hw hp))
/-- a new object of the store -/
theorem Stp.alloc (R : Rel N ρ H S) {p : Addr} {u : HO} (hp : H p = none) {o : PO} (ho : OR N (ρ ++ [p]) (upd H p u) o p) (hk : ∀ ks vs, o ≠ .dlk ks vs) :
    Stp N n ρ S H (ρ ++ [p]) (S ++ [o]) (upd H p u) := by
  have hpn := R.fresh hp
  have t : Stay N ρ H (ρ ++ [p]) (upd H p u) := ⟨List.prefix_append _ _, fun a ha => by
    rcases List.mem_append.mp ha with h | h
    · exact .inl h
    · simp at h; subst h; exact .inr hp, fun a w h _ => .inl (by rw [upd_ne (ne_of_none h hp)]; exact h)⟩
  refine ⟨t.pre, t.new, fun a w h _ => by rw [upd_ne (ne_of_none h hp)]; exact h, ⟨by simp [R.len], ?_, fun l w a h h' => ?_, fun a ha => ⟨fun q => by
    rcases List.mem_append.mp q with q | q
    · exact (R.ex a ha).1 q
    · simp at q; subst q; exact hpn.2 ha, let ⟨ys, e, nt⟩ := (R.ex a ha).2; ⟨ys, by rw [upd_ne (ne_of_none e hp)]; exact e, nt⟩⟩⟩, by simp, fun l w w' m _ h h' hl => ?_, fun l ks vs h => ?_⟩
  · rw [List.nodup_append]
    refine ⟨R.nd, by simp, fun a ha b hb e => ?_⟩
    simp at hb
    subst hb; subst e
    exact hpn.1 ha
  · by_cases hl : l < S.length
    · rw [List.getElem?_append_left hl] at h
      rw [List.getElem?_append_left (by rw [R.len]; exact hl)] at h'
      have q := R.obj l w a h h'
      obtain ⟨v, hv, _⟩ := q.there
      exact q.stay t (upd_ne (ne_of_none hv hp))
    · rw [List.getElem?_append_right (by omega)] at h
      rw [List.getElem?_append_right (by rw [R.len]; omega), R.len] at h'
      have hz : l - S.length = 0 := by
        have := (List.getElem?_eq_some_iff.mp h).1
        simp at this
        omega
      rw [hz] at h h'
      simp at h h'
      subst h; subst h'
      exact ho
  · have hlt := (List.getElem?_eq_some_iff.mp h).1
    rw [List.getElem?_append_left hlt] at h'
    rw [h] at h'; cases h'; exact hl
  · have hlt := (List.getElem?_eq_some_iff.mp h).1
    rw [List.getElem?_append_left hlt]
    exact h
/-- an object of the store is written -/
theorem Stp.wrote (R : Rel N ρ H S) {l : Nat} {a : Addr} {u : HO} {o o' : PO} (hl : S[l]? = some o) (ha : ρ[l]? = some a) (ho : ∀ t : Stay N ρ H ρ (upd H a u), OR N ρ (upd H a u) o' a) (hk : ∀ ks vs, o ≠ .dlk ks vs)
    (old : l < n → ∀ m, o.lt m = true → o'.lt m = true) : Stp N n ρ S H ρ (S.set l o') (upd H a u) := by
  have hm : a ∈ ρ := List.mem_of_getElem? ha
  have ne : ∀ b, b ∉ ρ → b ≠ a := fun b hb e => hb (e ▸ hm)
  have t : Stay N ρ H ρ (upd H a u) := ⟨List.prefix_rfl, fun _ h => .inl h, fun b w h hb => .inl (by rw [upd_ne (ne b hb.1)]; exact h)⟩
  have hlt := (List.getElem?_eq_some_iff.mp hl).1
  refine ⟨t.pre, t.new, fun b w h hb => by rw [upd_ne (ne b hb)]; exact h, ⟨by simp [R.len], R.nd, fun j w b h h' => ?_, fun b hb => ⟨(R.ex b hb).1, let ⟨ys, e, nt⟩ := (R.ex b hb).2; ⟨ys, by rw [upd_ne (ne b (R.ex b hb).1)]; exact e, nt⟩⟩⟩, by simp, fun j w w' m hj h h' hw => ?_, fun j ks vs h => ?_⟩
  · by_cases hj : j = l
    · subst hj
      rw [List.getElem?_set_self hlt] at h
      cases h
      rw [ha] at h'; cases h'
      exact ho t
    · rw [List.getElem?_set_ne (Ne.symm hj)] at h
      refine (R.obj j w b h h').stay t (upd_ne fun e => ?_)
      subst e
      have h1 := (List.getElem?_eq_some_iff.mp h').2
      have h2 := (List.getElem?_eq_some_iff.mp ha).2
      exact hj ((List.getElem_inj R.nd).mp (h1.trans h2.symm))
  · by_cases hjl : j = l
    · subst hjl
      rw [List.getElem?_set_self hlt] at h'
      cases h'
      rw [hl] at h; cases h
      exact old hj m hw
    · rw [List.getElem?_set_ne (Ne.symm hjl)] at h'
      rw [h] at h'; cases h'; exact hw
  · by_cases hjl : j = l
    · subst hjl
      rw [hl] at h; cases h
      exact (hk _ _ rfl).elim
    · rw [List.getElem?_set_ne (Ne.symm hjl)]
      exact h
end
end PyI
set_option Elab.async false
set_option linter.all false
set_option maxRecDepth 100000
set_option maxHeartbeats 2000000
/-! PyD: what is wanted behind an expression; operators by their values -/
namespace PyI
open PySem PySem.Spec PyProof.Rows L2
/-- an exception as it lies -/
def ExR (N : Nm) (ρ : List Addr) (H : Hp) (x : Exc) (cls : Value) (d : Option Addr) : Prop :=
  cls = .ref (N.ca x.c) ∧ ∀ i v, lookF x.fs x.vs i = some v → i < N.nf ∧ ∃ dd fs' y, d = some dd ∧ dd ∉ ρ ∧ H dd = some (.xd fs') ∧ fs'.lookup (N.fld i) = some y ∧ RV N ρ H v y
abbrev WK := Value → Option Addr → Hp → Prop
def Post {α β : Type} (N : Nm) (n : Nat) (R : List Addr → Hp → α → β → Prop) (W : WK) (Q : β → Hp → Prop) (ρ : List Addr) (S : Store) (H : Hp) (r : Res α) : Prop := match r with
  | .ok v S' => ∀ ρ' H' x, Stp N n ρ S H ρ' S' H' → R ρ' H' v x → Q x H'
  | .exn e S' => ∀ ρ' H' cls d, Stp N n ρ S H ρ' S' H' → ExR N ρ' H' e cls d → W cls d H'
  | .stuck => False
section
variable {α β γ δ : Type} {N : Nm} {n : Nat} {R : List Addr → Hp → α → β → Prop} {R2' : List Addr → Hp → γ → δ → Prop} {W : WK} {ρ : List Addr} {S : Store} {H : Hp}
theorem Post.mono {Q Q' : β → Hp → Prop} {r : Res α} (h : Post N n R W Q ρ S H r) (q : ∀ x H', Q x H' → Q' x H') : Post N n R W Q' ρ S H r := by
  cases r with
  | ok v S' => exact fun ρ' H' x st rv => q _ _ (h ρ' H' x st rv)
  | exn e S' => exact h
  | stuck => exact h
/-- from a later start -/
theorem Post.from {Q : β → Hp → Prop} {r : Res α} {ρ1 : List Addr} {S1 : Store} {H1 : Hp} (h : Post N n R W Q ρ S H r) (st : Stp N n ρ S H ρ1 S1 H1) : Post N n R W Q ρ1 S1 H1 r := by
  cases r with
  | ok v S' => exact fun ρ' H' x st' rv => h ρ' H' x (st.trans st') rv
  | exn e S' => exact fun ρ' H' c d st' rv => h ρ' H' c d (st.trans st') rv
  | stuck => exact h
/-- one behind another -/
theorem Post.bind {Q : δ → Hp → Prop} {r : Res α} {k : α → Store → Res γ} (h : Post N n R2' W Q ρ S H (r.bind k)) :
    Post N n R W (fun x H1 => ∃ ρ1 a S1, Stp N n ρ S H ρ1 S1 H1 ∧ R ρ1 H1 a x ∧ Post N n R2' W Q ρ1 S1 H1 (k a S1)) ρ S H r := by
  cases r with
  | ok v S' => exact fun ρ' H' x st rv => ⟨ρ', v, S', st, rv, Post.from h st⟩
  | exn e S' => exact h
  | stuck => exact h
theorem Post.ok {Q : β → Hp → Prop} {v : α} (h : Post N n R W Q ρ S H (.ok v S)) (Rl : Rel N ρ H S) {x : β} (rv : R ρ H v x) : Q x H := h ρ H x (Stp.refl Rl) rv
end
/-- a value's relation -/
abbrev RVl (N : Nm) : List Addr → Hp → PV → V → Prop := fun ρ H v x => RV N ρ H v x
abbrev RVls (N : Nm) : List Addr → Hp → List PV → List V → Prop := fun ρ H v x => RVs N ρ H v x
abbrev REq {α : Type} : List Addr → Hp → α → α → Prop := fun _ _ a b => b = a
/-- the readings -/
def tE (N : Nm) (n : Nat) (W : WX) (f : Ev → Store → Res PV) : TE := fun σ H Q => ∃ ρ S ps, Rel N ρ H S ∧ SlR N ρ H ps σ ∧ Post N n (RVl N) (fun c d H => W c d σ H) Q ρ S H (f ps S)
def tT (N : Nm) (n : Nat) (W : WX) (f : Ev → Store → Res Bool) : TT := fun σ H Q => ∃ ρ S ps, Rel N ρ H S ∧ SlR N ρ H ps σ ∧ Post N n REq (fun c d H => W c d σ H) Q ρ S H (f ps S)
def tA (N : Nm) (n : Nat) (W : WX) (f : Ev → Store → Res (List PV)) : TA := fun σ H Q => ∃ ρ S ps, Rel N ρ H S ∧ SlR N ρ H ps σ ∧ Post N n (RVls N) (fun c d H => W c d σ H) Q ρ S H (f ps S)
theorem _root_.L2.PE.imp {X : Cx} {e : Expr} {t t' : TE} (h : PE X e t) (i : ∀ σ H Q, t' σ H Q → t σ H Q) : PE X e t' := ⟨fun pins s σ H Q I q => h.run pins s σ H Q I (i _ _ _ q)⟩
theorem _root_.L2.PT.imp {X : Cx} {e : Expr} {t t' : TT} (h : PT X e t) (i : ∀ σ H Q, t' σ H Q → t σ H Q) : PT X e t' := ⟨fun pins s σ H Q I q => h.run pins s σ H Q I (i _ _ _ q)⟩
theorem _root_.L2.PW.imp {X : Cx} {e : Expr} {t t' : TT} (h : PW X e t) (i : ∀ σ H Q, t' σ H Q → t σ H Q) : PW X e t' := ⟨fun wh pins s σ H Q I q => h.run wh pins s σ H Q I (i _ _ _ q)⟩
theorem _root_.L2.PA.imp {X : Cx} {e : List Expr} {t t' : TA} (h : PA X e t) (i : ∀ σ H Q, t' σ H Q → t σ H Q) : PA X e t' := ⟨fun pos pins s σ H Q I q => h.run pos pins s σ H Q I (i _ _ _ q)⟩
theorem _root_.L2.PS.imp {X : Cx} {e : Stmt} {t t' : TS} (h : PS X e t) (i : ∀ D σ H, t' D σ H → t D σ H) : PS X e t' := ⟨fun pins s σ H D I q => h.run pins s σ H D I (i _ _ _ q)⟩
theorem _root_.L2.PSs.imp {X : Cx} {e : List Stmt} {t t' : TS} (h : PSs X e t) (i : ∀ D σ H, t' D σ H → t D σ H) : PSs X e t' := ⟨fun pins s σ H D I q => h.run pins s σ H D I (i _ _ _ q)⟩
/-! ### values, looked at -/
section
variable {N : Nm} {ρ : List Addr} {S : Store} {H : Hp}
theorem RV.int_iff {i : Int} {x : V} : RV N ρ H (.int i) x ↔ x = .int i := by simp [RV]
theorem RV.bl_iff {i : Bool} {x : V} : RV N ρ H (.bl i) x ↔ x = .bl i := by simp [RV]
theorem RV.non_iff {x : V} : RV N ρ H .non x ↔ x = .non := by simp [RV]
theorem RV.str_iff {s : Str} {x : V} : RV N ρ H (.str s) x ↔ x = .str s ∧ s.length ≤ sizeLine := by simp [RV]
/-- the tuple of a value -/
theorem RV.tupT {xs : List PV} {x : V} (h : RV N ρ H (.tup xs) x) : ∃ a ys, x = .ref a ∧ SqT N.K H a ys ∧ RVs N ρ H xs ys ∧ xs.length ≤ sizeLine := by
  simp only [RV] at h
  obtain ⟨a, ys, e, _, h1, h2, h3⟩ := h
  exact ⟨a, ys, e, .inl (.inl h1), h2, h3⟩
theorem RV.lstL {xs : List PV} {x : V} (h : RV N ρ H (.lst xs) x) : ∃ a ys, x = .ref a ∧ Off N ρ a ∧ H a = some (.lst ys) ∧ RVs N ρ H xs ys ∧ xs.length ≤ sizeLine := by
  simpa only [RV] using h
/-- the items of a list or tuple -/
theorem RV.items {v : PV} {xs : List PV} {x : V} (R : Rel N ρ H S) (h : RV N ρ H v x) (e : itemsOf v S = some xs) : ∃ a ys, x = .ref a ∧ (H a = some (.lst ys) ∨ SqT N.K H a ys) ∧ RVs N ρ H xs ys ∧ xs.length ≤ sizeLine := by
  unfold itemsOf at e
  split at e
  · cases e
    obtain ⟨a, ys, e1, e2, e3⟩ := h.tupT
    exact ⟨a, ys, e1, .inr e2, e3⟩
  · cases e
    obtain ⟨a, ys, e1, _, e2, e3⟩ := h.lstL
    exact ⟨a, ys, e1, .inl e2, e3⟩
  · rename_i l
    split at e
    · rename_i zs hs
      cases e
      simp only [RV] at h
      obtain ⟨a, h1, h2⟩ := h
      obtain ⟨ys, q1, q2, q3⟩ := R.obj l _ a hs h1
      exact ⟨a, ys, h2, .inl q1, q2, q3⟩
    · cases e
  · cases e
theorem sqOr {K : PySem.W.Frag} {a : Addr} {ys : List V} (h : H a = some (.lst ys) ∨ SqT K H a ys) : SqL K H a ys ∨ SqT K H a ys := h.imp (fun q => .inl (.inl q)) id
/-- a new tuple -/
theorem Post.newTup {n : Nat} {W : WK} {Q : VK} {xs : List PV} {ys : List V} (h : Post N n (RVl N) W Q ρ S H (.ok (.tup xs) S)) (R : Rel N ρ H S) (hr : RVs N ρ H xs ys) (hz : xs.length ≤ sizeLine) : ∀ p, H p = none → Q (.ref p) (upd H p (.tup ys)) := fun p hp => by
  have st := Stp.laid (n := n) R (u := .tup ys) hp
  refine h ρ _ _ st ?_
  simp only [RV]
  exact ⟨p, ys, rfl, R.fresh hp, upd_same, hr.stp st, hz⟩
theorem Post.newLst {n : Nat} {W : WK} {Q : VK} {xs : List PV} {ys : List V} (h : Post N n (RVl N) W Q ρ S H (.ok (.lst xs) S)) (R : Rel N ρ H S) (hr : RVs N ρ H xs ys) (hz : xs.length ≤ sizeLine) : ∀ p, H p = none → Q (.ref p) (upd H p (.lst ys)) := fun p hp => by
  have st := Stp.laid (n := n) R (u := .lst ys) hp
  refine h ρ _ _ st ?_
  simp only [RV]
  exact ⟨p, ys, rfl, R.fresh hp, upd_same, hr.stp st, hz⟩
/-- .. of either kind -/
theorem Post.newL {n : Nat} {W : WK} {Q : VK} {fr : Bool} {xs : List PV} {ys : List V} (h : Post N n (RVl N) W Q ρ S H (mkL fr xs S)) (R : Rel N ρ H S) (hr : RVs N ρ H xs ys) (hz : xs.length ≤ sizeLine) : ∀ p, H p = none → Q (.ref p) (upd H p (.lst ys)) := by
  cases fr with
  | true => exact Post.newLst h R hr hz
  | false =>
    intro p hp
    have st : Stp N n ρ S H (ρ ++ [p]) (S ++ [.lst xs]) (upd H p (.lst ys)) := by
      refine Stp.alloc R hp ⟨ys, upd_same, RVs.stay ⟨List.prefix_append _ _, fun a ha => ?_, fun a w h _ => .inl (by rw [upd_ne (ne_of_none h hp)]; exact h)⟩ hr, hz⟩ (fun _ _ e => by cases e)
      rcases List.mem_append.mp ha with h | h
      · exact .inl h
      · simp at h; subst h; exact .inr hp
    refine h _ _ _ st ?_
    simp only [RV]
    exact ⟨p, by rw [← R.len]; simp, rfl⟩
end
/-! ### operators -/
def rBin (N : Nm) (n : Nat) (W : WK) (op : Operator) : R2 := fun x y H Q => ∃ ρ S a b, Rel N ρ H S ∧ RV N ρ H a x ∧ RV N ρ H b y ∧ Post N n (RVl N) W Q ρ S H (binop op a b S)
theorem Post.guard {α β : Type} {N : Nm} {n : Nat} {R : List Addr → Hp → α → β → Prop} {W : WK} {Q : β → Hp → Prop} {ρ : List Addr} {S : Store} {H : Hp} {c : Bool} {r : Res α} (h : Post N n R W Q ρ S H (guardR c r)) : c = true ∧ Post N n R W Q ρ S H r := by
  unfold guardR at h
  by_cases e : c = true
  · rw [if_pos e] at h; exact ⟨e, h⟩
  · rw [if_neg e] at h; exact h.elim
theorem RVs.rep {N : Nm} {ρ : List Addr} {H : Hp} {xs : List PV} {ys : List V} (h : RVs N ρ H xs ys) : ∀ k : Nat, RVs N ρ H (List.replicate k xs).flatten (List.replicate k ys).flatten
  | 0 => by simp [RVs]
  | k + 1 => by
    rw [List.replicate_succ, List.replicate_succ, List.flatten_cons, List.flatten_cons]
    exact h.append (RVs.rep h k)
theorem length_rep {α : Type} (xs : List α) : ∀ k : Nat, (List.replicate k xs).flatten.length = xs.length * k
  | 0 => by simp
  | k + 1 => by rw [List.replicate_succ, List.flatten_cons, List.length_append, length_rep xs k, Nat.mul_succ]; omega
theorem op_bin {X : Cx} {N : Nm} (hK : X.K = N.K) {n : Nat} {W : WK} (op : Operator) : OpR X (binaryOp op) (rBin N n W op) := by
  intro pins s σ H x y v u Q I rx ry h
  obtain ⟨ρ, S, a, b, R, ra, rb, h⟩ := h
  unfold binop at h
  split at h
  · cases RV.int_iff.mp ra; cases RV.int_iff.mp rb
    exact op_add pins s σ H _ _ v u Q I rx ry ⟨_, _, rfl, rfl, h.ok R (RV.int_iff.mpr rfl)⟩
  · cases RV.int_iff.mp ra; cases RV.int_iff.mp rb
    exact op_sub pins s σ H _ _ v u Q I rx ry ⟨_, _, rfl, rfl, h.ok R (RV.int_iff.mpr rfl)⟩
  · cases RV.int_iff.mp ra; cases RV.int_iff.mp rb
    obtain ⟨g, h⟩ := h.guard
    rename_i i j
    have q := h.ok R (RV.int_iff.mpr rfl)
    simp only [mulOk, Bool.or_eq_true, decide_eq_true_eq] at g
    rcases g with (g | g) | g
    · exact op_mul pins s σ H _ _ v u Q I rx ry ⟨_, _, rfl, rfl, .inl ⟨by omega, by omega⟩, q⟩
    · exact op_mul pins s σ H _ _ v u Q I rx ry ⟨_, _, rfl, rfl, .inr ⟨by omega, by omega⟩, q⟩
    · exact op_mulW pins s σ H _ _ v u Q I rx ry ⟨_, _, rfl, rfl, g, q⟩
  · cases RV.int_iff.mp ra; cases RV.int_iff.mp rb
    obtain ⟨g, h⟩ := h.guard
    simp only [Bool.and_eq_true, decide_eq_true_eq] at g
    exact op_fdivW pins s σ H _ _ v u Q I rx ry ⟨_, _, rfl, rfl, g, h.ok R (RV.int_iff.mpr rfl)⟩
  · cases RV.int_iff.mp ra; cases RV.int_iff.mp rb
    obtain ⟨g, h⟩ := h.guard
    simp only [decide_eq_true_eq] at g
    exact op_mod pins s σ H _ _ v u Q I rx ry ⟨_, _, rfl, rfl, g, h.ok R (RV.int_iff.mpr rfl)⟩
  · cases RV.int_iff.mp ra; cases RV.int_iff.mp rb
    obtain ⟨g, h⟩ := h.guard
    simp only [Bool.and_eq_true, decide_eq_true_eq] at g
    exact op_pow pins s σ H _ _ v u Q I rx ry ⟨_, _, rfl, rfl, ⟨g.1.1, g.1.2, g.2⟩, h.ok R (RV.int_iff.mpr rfl)⟩
  · rename_i xx yy
    obtain ⟨e1, z1⟩ := RV.str_iff.mp ra
    obtain ⟨e2, z2⟩ := RV.str_iff.mp rb
    subst e1; subst e2
    obtain ⟨g, h⟩ := h.guard
    simp only [decide_eq_true_eq] at g
    exact op_add_str pins s σ H _ _ v u Q I rx ry ⟨_, _, rfl, rfl, g, h.ok R (RV.str_iff.mpr ⟨rfl, by
      have e : (xx ++ yy).length = xx.length + yy.length := Array.size_append
      rw [e]; exact g⟩)⟩
  · obtain ⟨a1, ys1, e1, t1, r1, z1⟩ := ra.tupT
    obtain ⟨a2, ys2, e2, t2, r2, z2⟩ := rb.tupT
    subst e1; subst e2
    obtain ⟨g, h⟩ := h.guard
    simp only [decide_eq_true_eq] at g
    rw [← hK] at t1 t2
    refine op_catA pins s σ H _ _ v u Q I rx ry ⟨_, _, ys1, ys2, rfl, rfl, t1, t2, by rw [← r1.length, ← r2.length]; exact g, fun e => ?_, fun _ e => ?_, fun _ _ p hp => ?_⟩
    · subst e
      have := r1.length
      rename_i xs ys _
      have e : xs = [] := List.eq_nil_of_length_eq_zero this
      subst e
      exact h.ok R rb
    · subst e
      have := r2.length
      rename_i xs ys _ _
      have e : ys = [] := List.eq_nil_of_length_eq_zero this
      subst e
      rw [List.append_nil] at h
      exact h.ok R ra
    · exact h.newTup R (r1.append r2) (by simpa using g) p hp
  · obtain ⟨a1, ys1, e1, _, t1, r1, z1⟩ := ra.lstL
    obtain ⟨a2, ys2, e2, _, t2, r2, z2⟩ := rb.lstL
    subst e1; subst e2
    obtain ⟨g, h⟩ := h.guard
    simp only [decide_eq_true_eq] at g
    exact op_cat pins s σ H _ _ v u Q I rx ry ⟨_, _, ys1, ys2, rfl, rfl, t1, t2, by rw [← r1.length, ← r2.length]; exact g, fun p hp => h.newLst R (r1.append r2) (by simpa using g) p hp⟩
  · obtain ⟨a1, ys1, e1, _, t1, r1, z1⟩ := ra.lstL
    cases RV.int_iff.mp rb
    subst e1
    obtain ⟨g, h⟩ := h.guard
    simp only [Bool.and_eq_true, decide_eq_true_eq] at g
    refine op_rep pins s σ H _ _ v u Q I rx ry ⟨_, _, ys1, rfl, rfl, t1, g.1.2, g.2, by rw [← r1.length]; exact g.1.1, fun p hp => ?_⟩
    exact h.newLst R (r1.rep _) (by unfold rep; rw [length_rep]; exact g.1.1) p hp
  · rename_i xs k
    obtain ⟨a1, ys1, e1, t1, r1, z1⟩ := ra.tupT
    cases RV.int_iff.mp rb
    subst e1
    obtain ⟨g, h⟩ := h.guard
    simp only [Bool.and_eq_true, decide_eq_true_eq, Bool.not_eq_true'] at g
    rw [← hK] at t1
    have hk : k.toNat ≤ 1000 := by have := g.1.2; omega
    refine op_repT pins s σ H _ _ v u Q I rx ry ⟨_, _, ys1, rfl, rfl, t1, fun e => ?_, g.1.1.2, g.1.2, by rw [← r1.length]; exact g.1.1.1, fun p hp => ?_⟩
    · subst e
      have this := r1.length
      have e : xs = [] := List.eq_nil_of_length_eq_zero this
      rw [e] at g
      simp at g
    · refine h.newTup R (r1.rep _) ?_ p hp
      unfold rep; rw [length_rep]
      have h2 : xs.length * k.toNat ≤ 1000 * 1000 := Nat.mul_le_mul g.1.1.1 hk
      rw [sizeLine_eq]
      omega
  · exact h.elim
end PyI
set_option Elab.async false
set_option linter.all false
set_option maxRecDepth 100000
set_option maxHeartbeats 2000000
/-! PyE: comparisons, subscripts, truth, built-ins by values -/
namespace PyI
open PySem PySem.Spec PyProof.Rows L2
section
variable {N : Nm} {ρ : List Addr} {S : Store} {H : Hp}
mutual
theorem RV.toD : ∀ {v : PV} {x : V} {d : PyData}, RV N ρ H v x → v.toD = some d → Dp N.K H x d
  | .non, x, d, h, e => by cases RV.non_iff.mp h; simp [PV.toD] at e; subst e; exact .non
  | .bl b, x, d, h, e => by cases RV.bl_iff.mp h; simp [PV.toD] at e; subst e; exact .bl b
  | .int i, x, d, h, e => by cases RV.int_iff.mp h; simp [PV.toD] at e; subst e; exact .int i
  | .str s, x, d, h, e => by
    obtain ⟨e1, _⟩ := RV.str_iff.mp h
    subst e1
    simp [PV.toD] at e; subst e; exact .str s
  | .tup xs, x, d, h, e => by
    rw [PV.toD, Option.map_eq_some_iff] at e
    obtain ⟨ds, e1, e2⟩ := e
    subst e2
    obtain ⟨a, ys, e3, t, r, _⟩ := h.tupT
    subst e3
    exact .tup t (RVs.toDs r e1)
  | .lst xs, x, d, h, e => by
    rw [PV.toD, Option.map_eq_some_iff] at e
    obtain ⟨ds, e1, e2⟩ := e
    subst e2
    obtain ⟨a, ys, e3, _, t, r, _⟩ := h.lstL
    subst e3
    exact .lst (.inl (.inl t)) (RVs.toDs r e1)
  | .dct _ _, x, d, h, e => by simp [PV.toD] at e
  | .ins _ _ _, x, d, h, e => by simp [PV.toD] at e
  | .ref _, x, d, h, e => by simp [PV.toD] at e
  | .cls _, x, d, h, e => by simp [PV.toD] at e
  | .scr _, x, d, h, e => by simp [PV.toD] at e
  | .wtp _, x, d, h, e => by simp [PV.toD] at e
theorem RVs.toDs : ∀ {vs : List PV} {xs : List V} {ds : List PyData}, RVs N ρ H vs xs → PV.toDs vs = some ds → DpAll N.K H xs ds
  | [], xs, ds, h, e => by rw [RVs.nil_iff] at h; subst h; simp [PV.toDs] at e; subst e; exact .nil
  | v :: r, xs, ds, h, e => by
    obtain ⟨y, t, e1, h1, h2⟩ := h.cons_inv
    subst e1
    rw [PV.toDs, Option.bind_eq_some_iff] at e
    obtain ⟨d, e2, e3⟩ := e
    rw [Option.map_eq_some_iff] at e3
    obtain ⟨ds', e4, e5⟩ := e3
    subst e5
    exact .cons (RV.toD h1 e2) (RVs.toDs h2 e4)
end
theorem RV.toDS (R : Rel N ρ H S) {v : PV} {x : V} {d : PyData} (h : RV N ρ H v x) (e : toDS v S = some d) : Dp N.K H x d := by
  unfold PyI.toDS at e
  split at e
  · rename_i l
    split at e
    · rename_i xs hs
      simp only [RV] at h
      obtain ⟨a, h1, h2⟩ := h
      subst h2
      obtain ⟨ys, q1, q2, _⟩ := R.obj l _ a hs h1
      rw [Option.map_eq_some_iff] at e
      obtain ⟨ds, e1, e2⟩ := e
      subst e2
      exact .lst (.inl (.inl q1)) (RVs.toDs q2 e1)
    · cases e
  · exact h.toD e
theorem flat_V {v : PV} {x : V} (h : RV N ρ H v x) (f : v.flat = true) : flatV x = true := by
  cases v <;> simp [PV.flat] at f
  · cases RV.non_iff.mp h; rfl
  · cases RV.bl_iff.mp h; rfl
  · cases RV.int_iff.mp h; rfl
  · obtain ⟨e, _⟩ := RV.str_iff.mp h; subst e; rfl
theorem flat_all : ∀ {vs : List PV} {xs : List V}, RVs N ρ H vs xs → vs.all PV.flat = true → xs.all flatV = true
  | [], xs, h, f => by rw [RVs.nil_iff] at h; subst h; rfl
  | v :: r, xs, h, f => by
    obtain ⟨y, t, e, h1, h2⟩ := h.cons_inv
    subst e
    simp only [List.all_cons, Bool.and_eq_true] at f ⊢
    exact ⟨flat_V h1 f.1, flat_all h2 f.2⟩
theorem eqV_eqv {v w : PV} {x y : V} {d e : PyData} (hv : RV N ρ H v x) (hw : RV N ρ H w y) (fv : v.flat = true) (fw : w.flat = true) (dv : v.toD = some d) (dw : w.toD = some e) : eqV x y = PyData.eqv d e := by
  cases v <;> simp [PV.flat] at fv <;> cases w <;> simp [PV.flat] at fw
  all_goals first
    | (simp only [RV] at hv hw; simp only [PV.toD, Option.some.injEq] at dv dw; subst dv; subst dw
       first
       | (subst hv; subst hw; simp [eqV, PyData.eqv]; done)
       | (subst hv; obtain ⟨hw, _⟩ := hw; subst hw; simp [eqV, PyData.eqv]; done)
       | (subst hw; obtain ⟨hv, _⟩ := hv; subst hv; simp [eqV, PyData.eqv]; done)
       | (obtain ⟨hv, _⟩ := hv; obtain ⟨hw, _⟩ := hw; subst hv; subst hw; simp [eqV, PyData.eqv]; done))
theorem inV_any {v : PV} {x : V} {d : PyData} (hv : RV N ρ H v x) (fv : v.flat = true) (dv : v.toD = some d) : ∀ {vs : List PV} {xs : List V} {ds : List PyData}, RVs N ρ H vs xs → vs.all PV.flat = true → PV.toDs vs = some ds →
    inV x xs = ds.any fun z => PyData.eqv z d
  | [], xs, ds, h, f, e => by rw [RVs.nil_iff] at h; subst h; simp [PV.toDs] at e; subst e; rfl
  | w :: r, xs, ds, h, f, e => by
    obtain ⟨y, t, e1, h1, h2⟩ := h.cons_inv
    subst e1
    simp only [List.all_cons, Bool.and_eq_true] at f
    rw [PV.toDs, Option.bind_eq_some_iff] at e
    obtain ⟨dw, e2, e3⟩ := e
    rw [Option.map_eq_some_iff] at e3
    obtain ⟨ds', e4, e5⟩ := e3
    subst e5
    have ih := inV_any hv fv dv h2 f.2 e4
    unfold inV at ih ⊢
    rw [List.any_cons, List.any_cons, ih, eqV_eqv h1 hv f.1 fv e2 dv]
theorem flat_toDS {v : PV} (f : v.flat = true) : toDS v S = v.toD := by
  cases v <;> simp [PV.flat] at f <;> rfl
/-! ### keys -/
theorem key_pv {v : PV} {k : DKey} (h : v.key = some k) : v = k.pv := by
  cases v with
  | int n => simp [PV.key] at h; subst h; rfl
  | str x => simp [PV.key] at h; subst h; rfl
  | tup xs =>
    simp only [PV.key, Option.map_eq_some_iff] at h
    obtain ⟨ks, h1, h2⟩ := h
    subst h2
    have : ∀ {xs : List PV} {ks : List (Sum Int Str)}, keys1 xs = some ks → xs = ks.map pv1 := by
      intro xs
      induction xs with
      | nil => intro ks h; simp [keys1] at h; subst h; rfl
      | cons x r ih =>
        intro ks h
        rw [keys1, Option.bind_eq_some_iff] at h
        obtain ⟨q, h1, h2⟩ := h
        rw [Option.map_eq_some_iff] at h2
        obtain ⟨t, h3, h4⟩ := h2
        subst h4
        rw [ih h3, List.map_cons]
        congr 1
        cases x <;> simp [key1] at h1 <;> subst h1 <;> rfl
    rw [this h1]
    rfl
  | _ => simp [PV.key] at h
theorem rv_key1 : ∀ {ks : List Key} {ys : List V}, RVs N ρ H (ks.map pv1) ys → ys = ks.map kV
  | [], ys, h => by simpa [RVs] using h
  | k :: ks, ys, h => by
    obtain ⟨y, t, e, h1, h2⟩ := h.cons_inv
    subst e
    rw [rv_key1 h2, List.map_cons]
    congr 1
    cases k with
    | inl n => exact RV.int_iff.mp h1
    | inr x => exact (RV.str_iff.mp h1).1
/-- a key's value: a scalar, or a tuple that stands in the heap -/
theorem RV.asKey {k : DKey} {x : V} (h : RV N ρ H k.pv x) : (∃ q : Key, k = dk1 q ∧ x = kV q) ∨ (∃ ks b, k = .t ks ∧ x = .ref b ∧ Off N ρ b ∧ H b = some (.tup (ks.map kV))) := by
  cases k with
  | i n => exact .inl ⟨.inl n, rfl, RV.int_iff.mp h⟩
  | s z => exact .inl ⟨.inr z, rfl, (RV.str_iff.mp h).1⟩
  | t ks =>
    have h : RV N ρ H (.tup (ks.map pv1)) x := h
    simp only [RV] at h
    obtain ⟨a, ys, e, h1, h2, h3, h4⟩ := h
    rw [rv_key1 h3] at h2
    exact .inr ⟨ks, a, rfl, e, h1, h2⟩
/-! ### dicts -/
theorem dk1_inj {p q : Key} (h : dk1 p = dk1 q) : p = q := by
  cases p <;> cases q <;> simp [dk1] at h <;> rw [h]
theorem valV_look {κ : Type} [DecidableEq κ] (f : κ → DKey) (hf : ∀ p q, f p = f q → p = q) (k : κ) : ∀ kvs : List (κ × V), valV kvs k = look (kvs.map fun p => f p.1) (kvs.map (·.2)) (f k)
  | [] => rfl
  | p :: r => by
    rw [List.map_cons, List.map_cons, look]
    by_cases e : p.1 = k
    · rw [valV_pos e, if_pos (by rw [e])]
    · rw [valV_neg e, if_neg (fun h => e (hf _ _ h))]
      exact valV_look f hf k r
theorem putK_keys {κ : Type} [DecidableEq κ] (f : κ → DKey) (hf : ∀ p q, f p = f q → p = q) (k : κ) (v : V) : ∀ kvs : List (κ × V), (kvs.map (·.1)).Nodup → (putK kvs k v).map (fun p => f p.1) = putKs (kvs.map fun p => f p.1) (f k) ∧ (putK kvs k v).map (·.2) = putVs (kvs.map fun p => f p.1) (kvs.map (·.2)) (f k) v
  | [], _ => by simp [putK, putKs, putVs]
  | p :: r, nd => by
    have nd2 := (List.nodup_cons.mp (show (p.1 :: r.map (·.1)).Nodup from nd))
    have ih := putK_keys f hf k v r nd2.2
    by_cases e : p.1 = k
    · subst e
      have none' : ∀ q ∈ r, ¬ q.1 = p.1 := fun q hq z => nd2.1 (z ▸ List.mem_map_of_mem hq)
      have e1 : putK (p :: r) p.1 v = (p.1, v) :: r := by
        unfold putK
        rw [if_pos (by simp)]
        rw [List.map_cons, if_pos rfl]
        congr 1
        conv => rhs; rw [← List.map_id r]
        exact List.map_congr_left fun q hq => by rw [if_neg (none' q hq)]; rfl
      rw [e1]
      simp [putKs, putVs]
    · have e1 : putK (p :: r) k v = p :: putK r k v := by
        unfold putK
        rw [List.any_cons, decide_eq_false e, Bool.false_or]
        by_cases hany : (r.any fun kv => decide (kv.1 = k)) = true
        · rw [if_pos hany, if_pos hany, List.map_cons, if_neg e]
        · rw [if_neg hany, if_neg hany, List.cons_append]
      rw [e1]
      simp only [List.map_cons, putKs, putVs]
      have ne : ¬ f p.1 = f k := fun h => e (hf _ _ h)
      rw [if_neg ne, if_neg ne, ih.1, ih.2]
      exact ⟨rfl, rfl⟩
theorem RVs.look : ∀ {ks : List DKey} {vs : List PV} {ys : List V} {k : DKey}, RVs N ρ H vs ys →
    (PyI.look ks vs k = none ∧ PyI.look ks ys k = none) ∨ ∃ v y, PyI.look ks vs k = some v ∧ PyI.look ks ys k = some y ∧ RV N ρ H v y
  | [], vs, ys, k, h => by
    left
    constructor <;> rfl
  | q :: ks, [], ys, k, h => by rw [RVs.nil_iff] at h; subst h; exact .inl ⟨rfl, rfl⟩
  | q :: ks, v :: vs, ys, k, h => by
    obtain ⟨y, t, e, h1, h2⟩ := h.cons_inv
    subst e
    simp only [PyI.look]
    by_cases e : q = k
    · rw [if_pos e, if_pos e]; exact .inr ⟨v, y, rfl, rfl, h1⟩
    · rw [if_neg e, if_neg e]; exact RVs.look h2
theorem RVs.putVs : ∀ {ks : List DKey} {vs : List PV} {ys : List V} {k : DKey} {v : PV} {y : V}, RVs N ρ H vs ys → RV N ρ H v y → RVs N ρ H (PyI.putVs ks vs k v) (PyI.putVs ks ys k y)
  | [], vs, ys, k, v, y, h, r => by
    cases vs <;> (first | (rw [RVs.nil_iff] at h; subst h) | obtain ⟨_, _, e, _, _⟩ := h.cons_inv; subst e) <;> exact .cons r (by simp [RVs])
  | q :: ks, [], ys, k, v, y, h, r => by rw [RVs.nil_iff] at h; subst h; exact .cons r (by simp [RVs])
  | q :: ks, w :: vs, ys, k, v, y, h, r => by
    obtain ⟨z, t, e, h1, h2⟩ := h.cons_inv
    subst e
    simp only [PyI.putVs]
    by_cases e : q = k
    · rw [if_pos e, if_pos e]; exact .cons r h2
    · rw [if_neg e, if_neg e]; exact .cons h1 (RVs.putVs h2 r)
theorem putKs_mem {k : DKey} : ∀ {ks : List DKey} {q : DKey}, q ∈ putKs ks k → q ∈ ks ∨ q = k
  | [], q, h => by simp [putKs] at h; exact .inr h
  | p :: ks, q, h => by
    unfold putKs at h
    split at h
    · exact .inl h
    · rcases List.mem_cons.mp h with e | h
      · exact .inl (by simp [e])
      · rcases putKs_mem h with e | e
        · exact .inl (List.mem_cons_of_mem _ e)
        · exact .inr e
theorem putKs_nodup {k : DKey} : ∀ {ks : List DKey}, ks.Nodup → (putKs ks k).Nodup
  | [], _ => by simp [putKs]
  | p :: ks, h => by
    unfold putKs
    split
    · exact h
    · rename_i ne
      obtain ⟨h1, h2⟩ := List.nodup_cons.mp h
      refine List.nodup_cons.mpr ⟨fun q => ?_, putKs_nodup h2⟩
      rcases putKs_mem q with e | e
      · exact h1 e
      · exact ne e
theorem putKs_length {k : DKey} : ∀ {ks : List DKey}, (putKs ks k).length ≤ ks.length + 1
  | [] => by simp [putKs]
  | p :: ks => by
    unfold putKs
    split
    · simp
    · have := putKs_length (k := k) (ks := ks)
      simp only [List.length_cons]; omega
theorem putKs_ne {k : DKey} : ∀ {ks : List DKey}, putKs ks k ≠ []
  | [] => by simp [putKs]
  | p :: ks => by unfold putKs; split <;> simp
theorem nodup_fst {κ : Type} (f : κ → DKey) {kvs : List (κ × V)} (h : (kvs.map fun p => f p.1).Nodup) : (kvs.map (·.1)).Nodup := by
  have e : (kvs.map fun p => f p.1) = (kvs.map (·.1)).map f := by rw [List.map_map]; rfl
  rw [e] at h
  exact List.Pairwise.of_map f (fun a b h e => h (by rw [e])) h
/-- an empty dict, taken as one with tuples for keys -/
theorem Inv.emp {X : Cx} {pins : List (Addr × Obj)} {σ : L2.St} {s : Shared} {a : Addr} (I : L2.Inv X pins σ H s) (h : H a = some (.dK [])) : L2.Inv X pins σ (upd H a (.dT [])) s := by
  have x := I.hok a _ h
  obtain ⟨z, nm, vs, kv, o, es, ep, e, ex, hd, _, pr, _⟩ := x
  have ev : vs = [] := by cases kv; rfl
  subst ev
  have ees : es.toList = [] := by
    cases hE : es.toList with
    | nil => rfl
    | cons p r => rw [hE] at pr; cases pr
  exact I.write (x := a) (e := a) (t' := s.toks) (h' := s.heap) (by rw [h]; trivial) (.inl rfl) (fun b v _ q => q) ⟨o, e⟩ ⟨z, nm, [], .nil, o, es, ep, e, ex, hd, by rw [ees]; rfl, List.nodup_nil⟩
theorem Inv.unemp {X : Cx} {pins : List (Addr × Obj)} {σ : L2.St} {s : Shared} {a : Addr} (I : L2.Inv X pins σ (upd H a (.dT [])) s) (h : H a = some (.dK [])) : L2.Inv X pins σ H s := by
  have x := I.hok a _ upd_same
  obtain ⟨z, nm, xs, kv, o, es, ep, e, ex, hd, pr, _⟩ := x
  have ev : xs = [] := by cases kv; rfl
  subst ev
  have ees : es = #[] := by cases es with | mk l => simp at pr; subst pr; rfl
  subst ees
  have J : L2.Inv X pins σ (upd (upd H a (.dT [])) a (.dK [])) s := I.write (x := a) (e := a) (t' := s.toks) (h' := s.heap) (by rw [upd_same]; trivial) (.inl rfl) (fun b v _ q => q) ⟨o, e⟩
    ⟨z, nm, [], .nil, o, #[], ep, e, ex, hd, (fun en hen => by simp at hen), by constructor, List.nodup_nil⟩
  have e2 : upd (upd H a (.dT [])) a (.dK []) = H := by
    funext b
    by_cases hb : b = a
    · subst hb; rw [upd_same, h]
    · rw [upd_ne hb, upd_ne hb]
  rw [e2] at J
  exact J
theorem RV.dict (R : Rel N ρ H S) {v : PV} {x : V} {ks : List DKey} {vs : List PV} (h : RV N ρ H v x) (e : dictOf v S = some (ks, vs)) :
    ∃ a ys o, x = .ref a ∧ DC ks ys o ∧ Rd H a o ∧ RVs N ρ H vs ys ∧ (ks = [] → H a = some o) := by
  unfold dictOf at e
  split at e
  · cases e
    simp only [RV] at h
    obtain ⟨a, ys, o, h1, _, h2, h3, h4, h5⟩ := h
    exact ⟨a, ys, o, h1, h2, h3, h4, h5⟩
  · rename_i l
    simp only [RV] at h
    obtain ⟨a, h1, h2⟩ := h
    split at e
    · rename_i hs
      cases e
      obtain ⟨ys, o, d, q1, q2⟩ := R.obj l _ a hs h1
      exact ⟨a, ys, o, h2, d, .inl q1, q2, fun _ => q1⟩
    · rename_i hs
      cases e
      obtain ⟨ys, o, od, d, q1, q2⟩ := R.obj l _ a hs h1
      exact ⟨a, ys, o, h2, d, .inr ⟨od, q1⟩, q2, fun e => by cases e⟩
    · cases e
  · cases e
theorem dk1_isT (q : Key) : (dk1 q).isT = false := by cases q <;> rfl
theorem dict_read {X : Cx} {pins : List (Addr × Obj)} {σ : L2.St} {s : Shared} {a : Addr} {ks : List DKey} {ys : List V} {o : HO} {k : DKey} {x : V} (I : L2.Inv X pins σ H s) (d : DC ks ys o) (rd : Rd H a o) (h0 : ks = [] → H a = some o)
    (hk : kindOk ks k = true) (h : RV N ρ H k.pv x) : ∃ H1, L2.Inv X pins σ H1 s ∧ DGet H1 a x (PyI.look ks ys k) ∧ (∀ s', L2.Inv X pins σ H1 s' → L2.Inv X pins σ H s') := by
  rcases h.asKey with ⟨q, e1, e2⟩ | ⟨q, b, e1, e2, _, hb⟩
  · subst e1; subst e2
    cases d with
    | k kvs h1 h2 _ _ _ =>
      refine ⟨H, I, .inl ⟨kvs, q, rd, rfl, ?_⟩, fun _ z => z⟩
      rw [valV_look dk1 (fun _ _ => dk1_inj), ← h1, ← h2]
    | t kvs h1 h2 _ _ _ h6 =>
      cases kvs with
      | nil => exact (h6 (by rw [h1]; rfl)).elim
      | cons p r =>
        rw [h1, List.map_cons] at hk
        simp only [kindOk, dk1_isT] at hk
        cases hk
  · subst e1; subst e2
    cases d with
    | k kvs h1 h2 _ _ _ =>
      cases kvs with
      | nil =>
        have e0 : ks = [] := by rw [h1]; rfl
        have ha := h0 e0
        refine ⟨_, Inv.emp I ha, .inr ⟨[], q, b, .inl upd_same, rfl, ?_, ?_⟩, fun s' z => Inv.unemp z ha⟩
        · rw [upd_ne (fun z => by rw [z, ha] at hb; cases hb)]; exact hb
        · rw [e0]; rfl
      | cons p r =>
        rw [h1, List.map_cons] at hk
        simp only [kindOk, dk1_isT] at hk
        cases hk
    | t kvs h1 h2 _ _ _ h6 =>
      refine ⟨H, I, .inr ⟨kvs, q, b, rd, rfl, hb, ?_⟩, fun _ z => z⟩
      rw [valV_look DKey.t (fun _ _ h => by injection h), ← h1, ← h2]
/-! ### comparisons -/
def rCmp (N : Nm) (op : CmpOp) : R2 := fun x y H Q => ∃ ρ S a b c, Rel N ρ H S ∧ RV N ρ H a x ∧ RV N ρ H b y ∧ cmpD op a b S = some c ∧ Q (.bl c) H
theorem isN_of {v : PV} {x : V} (h : RV N ρ H v x) : decide (x = V.non) = v.isNon := by
  cases v <;> simp only [RV] at h
  case non => subst h; rfl
  case bl => subst h; rfl
  case int => subst h; rfl
  case str => rw [h.1]; rfl
  case tup => obtain ⟨_, _, e, _⟩ := h; subst e; rfl
  case lst => obtain ⟨_, _, e, _⟩ := h; subst e; rfl
  case dct => obtain ⟨_, _, _, e, _⟩ := h; subst e; rfl
  case ins => obtain ⟨_, _, _, e, _⟩ := h; subst e; rfl
  case ref => obtain ⟨_, _, e⟩ := h; subst e; rfl
  case cls => subst h; rfl
  case scr => obtain ⟨_, e, _⟩ := h; subst e; rfl
  case wtp => obtain ⟨_, e, _⟩ := h; subst e; rfl
theorem eq_ok {X : Cx} (hK : X.K = N.K) (hu : X.A.units + 64 < cLine) (R : Rel N ρ H S) {a b : PV} {x y : V} {c : Bool} (ra : RV N ρ H a x) (rb : RV N ρ H b y) (e : eqG a b S = some c) :
    (scal x y = true ∧ c = decide (x = y)) ∨ ∃ d f, Dp X.K H x d ∧ Dp X.K H y f ∧ SeqAt.shaped d = true ∧ SeqAt.shaped f = true ∧ c = PyData.eqv d f := by
  unfold eqG at e
  split at e
  · rename_i c' hs
    cases e
    left
    unfold scalEq at hs
    split at hs
    · cases RV.int_iff.mp ra; cases RV.int_iff.mp rb; cases hs; simp [scal]
    · obtain ⟨e1, _⟩ := RV.str_iff.mp ra; obtain ⟨e2, _⟩ := RV.str_iff.mp rb; subst e1; subst e2; cases hs; simp [scal]
    · cases RV.bl_iff.mp ra; cases RV.bl_iff.mp rb; cases hs; simp [scal]
    · cases hs
  · right
    rw [Option.bind_eq_some_iff] at e
    obtain ⟨d, e1, e⟩ := e
    rw [Option.bind_eq_some_iff] at e
    obtain ⟨f, e2, e⟩ := e
    split at e
    · rename_i hsh
      simp only [Bool.and_eq_true] at hsh
      cases e
      rw [hK]
      exact ⟨d, f, ra.toDS R e1, rb.toDS R e2, hsh.1, hsh.2, rfl⟩
    · cases e
theorem RV.isTup {v : PV} {x : V} {xs : List PV} (h : RV N ρ H v x) (e : itemsOf v S = some xs) (l : isLst v = false) : ∃ a ys, x = .ref a ∧ H a = some (.tup ys) := by
  unfold itemsOf at e
  split at e
  · simp only [RV] at h
    obtain ⟨a, ys, e1, _, e2, _⟩ := h
    exact ⟨a, ys, e1, e2⟩
  · cases l
  · cases l
  · cases e
theorem RV.isList (R : Rel N ρ H S) {v : PV} {x : V} {xs : List PV} (h : RV N ρ H v x) (e : itemsOf v S = some xs) (l : isLst v = true) : ∃ a ys, x = .ref a ∧ H a = some (.lst ys) ∧ RVs N ρ H xs ys := by
  unfold itemsOf at e
  split at e
  · cases l
  · cases e
    obtain ⟨a, ys, e1, _, e2, e3, _⟩ := h.lstL
    exact ⟨a, ys, e1, e2, e3⟩
  · rename_i l'
    split at e
    · rename_i zs hs
      cases e
      simp only [RV] at h
      obtain ⟨a, h1, h2⟩ := h
      obtain ⟨ys, q1, q2, q3⟩ := R.obj l' _ a hs h1
      exact ⟨a, ys, h2, q1, q2⟩
    · cases e
  · cases e
end
section
variable {X : Cx} {N : Nm}
theorem in_ok (hK : X.K = N.K) (hu : X.A.units + 65 < cLine) {neg : Bool} {pins : List (Addr × Obj)} {s : Shared} {σ : L2.St} {H : Hp} {x y : V} {v u : Value} {Q : VK} {ρ : List Addr} {S : Store} {a b : PV} {c : Bool}
    (I : L2.Inv X pins σ H s) (rx : RelV x v) (ry : RelV y u) (R : Rel N ρ H S) (ra : RV N ρ H a x) (rb : RV N ρ H b y) (e : isInG a b S = some c) (q : Q (.bl (if neg then !c else c)) H) :
    wpAny (model X.prog X.w) X.A (compareOp (if neg then .NotIn else .In) v u) (EP X pins σ Q) X.xe s := by
  unfold isInG at e
  split at e
  · rename_i ks vs hd
    rw [Option.bind_eq_some_iff] at e
    obtain ⟨k, e1, e⟩ := e
    rw [Option.map_eq_some_iff] at e
    obtain ⟨r, e2, e3⟩ := e
    unfold lookD at e2
    split at e2
    · rename_i hk
      cases e2
      obtain ⟨p, ys, o, ey, d, rd, rvs, h0⟩ := rb.dict R hd
      subst ey
      cases ry
      rw [key_pv e1] at ra
      obtain ⟨H1, I1, g, back⟩ := dict_read I d rd h0 hk ra
      have ec : c = (PyI.look ks ys k).isSome := by
        rcases rvs.look (ks := ks) (k := k) with ⟨h1, h2⟩ | ⟨v', y', h1, h2, _⟩
        · rw [← e3, h1, h2]; rfl
        · rw [← e3, h1, h2]; rfl
      cases neg with
      | false => exact d_in (Nat.lt_of_le_of_lt (by omega) hu) I1 g rx fun s' I' => ⟨.bl _, H, back _ I', rfl, by rw [← ec]; exact q⟩
      | true => exact d_notIn (Nat.lt_of_le_of_lt (by omega) hu) I1 g rx fun s' I' => ⟨.bl _, H, back _ I', rfl, by rw [← ec]; exact q⟩
    · cases e2
  · split at e
    · obtain ⟨e1, _⟩ := RV.str_iff.mp ra
      obtain ⟨e2, _⟩ := RV.str_iff.mp rb
      subst e1; subst e2
      cases e
      cases neg with
      | false => exact op_in_str pins s σ H _ _ v u Q I rx ry ⟨_, _, rfl, rfl, q⟩
      | true => exact op_notIn_str pins s σ H _ _ v u Q I rx ry ⟨_, _, rfl, rfl, q⟩
    · rw [Option.bind_eq_some_iff] at e
      obtain ⟨xs, e1, e⟩ := e
      unfold inG at e
      rw [Option.bind_eq_some_iff] at e
      obtain ⟨d, e2, e⟩ := e
      rw [Option.bind_eq_some_iff] at e
      obtain ⟨ds, e3, e⟩ := e
      split at e
      · rename_i g
        cases e
        simp only [Bool.or_eq_true, Bool.and_eq_true] at g
        rcases g with ⟨g1, g2⟩ | ⟨⟨g1, g2⟩, g3⟩
        · obtain ⟨p, ys, ey, sq, rvs, _⟩ := rb.items R e1
          subst ey
          rw [flat_toDS g1] at e2
          have ev := inV_any ra g1 e2 rvs g2 e3
          have sq' : SqL X.K H p ys ∨ SqT X.K H p ys := by rw [hK]; exact sqOr sq
          cases neg with
          | false => exact op_in_seq pins s σ H _ _ v u Q I rx ry ⟨p, ys, rfl, sq', flat_V ra g1, flat_all rvs g2, by rw [if_neg (by simp), ev]; exact q⟩
          | true => exact op_notIn_seq pins s σ H _ _ v u Q I rx ry ⟨p, ys, rfl, sq', flat_V ra g1, flat_all rvs g2, by rw [if_pos rfl, ev]; exact q⟩
        · obtain ⟨p, ys, ey, hp, rvs⟩ := rb.isList R e1 g1
          subst ey
          have dl : Dp X.K H (.ref p) (.list ds) := by rw [hK]; exact .lst (.inl (.inl hp)) (rvs.toDs e3)
          have dd : Dp X.K H x d := by rw [hK]; exact ra.toDS R e2
          cases neg with
          | false => exact op_inD hu pins s σ H _ _ v u Q I rx ry ⟨d, ds, dd, dl, g2, g3, q⟩
          | true => exact op_notInD hu pins s σ H _ _ v u Q I rx ry ⟨d, ds, dd, dl, g2, g3, q⟩
      · cases e
theorem op_cmp (hK : X.K = N.K) (hu : X.A.units + 65 < cLine) (op : CmpOp) : OpR X (compareOp op) (rCmp N op) := by
  intro pins s σ H x y v u Q I rx ry h
  obtain ⟨ρ, S, a, b, c, R, ra, rb, e, q⟩ := h
  have hu64 : X.A.units + 64 < cLine := Nat.lt_of_le_of_lt (by omega) hu
  cases op with
  | Eq =>
    rcases eq_ok hK hu64 R ra rb e with ⟨h1, h2⟩ | ⟨d, f, h1, h2, h3, h4, h5⟩
    · exact op_eq pins s σ H x y v u Q I rx ry ⟨h1, by rw [← h2]; exact q⟩
    · exact op_eqD hu64 pins s σ H x y v u Q I rx ry ⟨d, f, h1, h2, h3, h4, by rw [← h5]; exact q⟩
  | NotEq =>
    simp only [cmpD, Option.map_eq_some_iff] at e
    obtain ⟨c', e, e'⟩ := e
    rcases eq_ok hK hu64 R ra rb e with ⟨h1, h2⟩ | ⟨d, f, h1, h2, h3, h4, h5⟩
    · exact op_ne pins s σ H x y v u Q I rx ry ⟨h1, by rw [← h2, e']; exact q⟩
    · exact op_neD hu64 pins s σ H x y v u Q I rx ry ⟨d, f, h1, h2, h3, h4, by rw [← h5, e']; exact q⟩
  | Lt =>
    simp only [cmpD] at e
    split at e
    · cases RV.int_iff.mp ra; cases RV.int_iff.mp rb; cases e
      exact op_lt pins s σ H _ _ v u Q I rx ry ⟨_, _, rfl, rfl, q⟩
    · obtain ⟨e1, _⟩ := RV.str_iff.mp ra; obtain ⟨e2, _⟩ := RV.str_iff.mp rb; subst e1; subst e2; cases e
      exact op_lt_str pins s σ H _ _ v u Q I rx ry ⟨_, _, rfl, rfl, q⟩
    · cases e
  | LtE =>
    simp only [cmpD] at e
    split at e
    · cases RV.int_iff.mp ra; cases RV.int_iff.mp rb; cases e
      exact op_le pins s σ H _ _ v u Q I rx ry ⟨_, _, rfl, rfl, q⟩
    · cases e
  | Gt =>
    simp only [cmpD] at e
    split at e
    · cases RV.int_iff.mp ra; cases RV.int_iff.mp rb; cases e
      exact op_gt pins s σ H _ _ v u Q I rx ry ⟨_, _, rfl, rfl, q⟩
    · cases e
  | GtE =>
    simp only [cmpD] at e
    split at e
    · cases RV.int_iff.mp ra; cases RV.int_iff.mp rb; cases e
      exact op_ge pins s σ H _ _ v u Q I rx ry ⟨_, _, rfl, rfl, q⟩
    · cases e
  | Is =>
    simp only [cmpD] at e
    split at e
    · cases RV.non_iff.mp rb
      cases e
      exact op_isN pins s σ H _ _ v u Q I rx ry ⟨rfl, by rw [isN_of ra]; exact q⟩
    · split at e
      · cases RV.bl_iff.mp ra; cases RV.bl_iff.mp rb; cases e
        exact op_isBl pins s σ H _ _ v u Q I rx ry ⟨_, _, rfl, rfl, q⟩
      · cases e
    · cases e
  | IsNot =>
    simp only [cmpD] at e
    split at e
    · cases RV.non_iff.mp rb
      cases e
      exact op_notN pins s σ H _ _ v u Q I rx ry ⟨rfl, by rw [isN_of ra]; exact q⟩
    · split at e
      · cases RV.bl_iff.mp ra; cases RV.bl_iff.mp rb; cases e
        exact op_notBl pins s σ H _ _ v u Q I rx ry ⟨_, _, rfl, rfl, q⟩
      · cases e
    · cases e
  | In => exact in_ok (neg := false) hK hu I rx ry R ra rb e q
  | NotIn =>
    simp only [cmpD, Option.map_eq_some_iff] at e
    obtain ⟨c', e, e'⟩ := e
    refine in_ok (neg := true) hK hu I rx ry R ra rb e ?_
    rw [if_pos rfl, show (!c') = c from e']
    exact q
end
end PyI
set_option Elab.async false
set_option linter.all false
set_option maxRecDepth 100000
set_option maxHeartbeats 2000000
/-! PyF: expressions -/
namespace PyI
open PySem PySem.Spec PyProof.Rows L2
structure Good (N : Nm) (X : Cx) (W : WX) (k : Nat) : Prop where
  hK : X.K = N.K
  calm : X.calm = true
  nd : X.N.Nodup
  room : Room k X.A
  guards : X.A.guards = some []
  takes : Takes X W
section
variable {N : Nm} {X : Cx} {W : WX} {k : Nat} {n : Nat}
theorem Good.hu (g : Good N X W k) : X.A.units + 65 < cLine := by have := g.room.un; omega
theorem Good.hu64 (g : Good N X W k) : X.A.units + 64 < cLine := by have := g.room.un; omega
theorem Good.hu1 (g : Good N X W k) : X.A.units + 1 < cLine := by have := g.room.un; omega
theorem _root_.L2.PE.or {e : Expr} {t t' : TE} (h : PE X e t) (h' : PE X e t') : PE X e (fun σ H Q => t σ H Q ∨ t' σ H Q) :=
  ⟨fun pins s σ H Q I q => q.elim (h.run pins s σ H Q I) (h'.run pins s σ H Q I)⟩
/-! ### names and constants -/
def fVar (i : Nat) : Ev → Store → Res PV := fun ps S => match ps[i]? with
  | some (some v) => .ok v S
  | _ => .stuck
theorem e_var {i : Nat} {x : Str} {pos : Pos} (hN : X.N[i]? = some x) (hv : Vis X.env.scope x) (hd : (x == ("__debug__" : Str)) = false) (hcd : (x == ("__classdict__" : Str)) = false) : PE X (.Name x pos) (tE N n W (fVar i)) := by
  refine (pe_var hN hv hd hcd).imp fun σ H Q h => ?_
  obtain ⟨ρ, S, ps, R, sl, p⟩ := h
  unfold fVar at p
  split at p
  · rename_i v e
    obtain ⟨x, e1, rv⟩ := sl.2 i v e
    exact ⟨x, e1, p.ok R rv⟩
  · exact p.elim
/-- a value that needs no heap -/
theorem e_cst {e : Expr} {v : V} {pv : PV} (h : PE X e (tC v)) (rv : ∀ ρ H, RV N ρ H pv v) : PE X e (tE N n W fun _ S => .ok pv S) := by
  refine h.imp fun σ H Q h => ?_
  obtain ⟨ρ, S, ps, R, sl, p⟩ := h
  exact p.ok R (rv _ _)
/-! ### two in a row -/
/-- the reading of two expressions -/
theorem read2 {f g : Ev → Store → Res PV} {α β : Type} {RR : List Addr → Hp → α → β → Prop} {k : PV → PV → Store → Res α} {σ : L2.St} {H : Hp} {Q : β → Hp → Prop} {C : V → V → Hp → Prop}
    (h : ∃ ρ S ps, Rel N ρ H S ∧ SlR N ρ H ps σ ∧ Post N n RR (fun c d H => W c d σ H) Q ρ S H ((f ps S).bind fun x S1 => (g ps S1).bind fun y S2 => k x y S2))
    (hC : ∀ ρ S H2 a b x y, Rel N ρ H2 S → RV N ρ H2 a x → RV N ρ H2 b y → Post N n RR (fun c d H => W c d σ H) Q ρ S H2 (k a b S) → C x y H2) :
    tE N n W f σ H fun x H1 => tE N n W g σ H1 fun y H2 => C x y H2 := by
  obtain ⟨ρ, S, ps, R, sl, p⟩ := h
  refine ⟨ρ, S, ps, R, sl, (Post.bind (R := RVl N) p).mono fun x H1 ⟨ρ1, a, S1, st, ra, p1⟩ => ?_⟩
  refine ⟨ρ1, S1, ps, st.rel, sl.stp st, (Post.bind (R := RVl N) p1).mono fun y H2 ⟨ρ2, b, S2, st2, rb, p2⟩ => ?_⟩
  exact hC ρ2 S2 H2 a b x y st2.rel (ra.stp st2) rb p2
theorem e_bin (g : Good N X W k) {a b : Expr} {f h : Ev → Store → Res PV} {op : Operator} {pos : Pos} (ha : PE X a (tE N n W f)) (hb : PE X b (tE N n W h)) :
    PE X (.BinOp a op b pos) (tE N n W fun ps S => (f ps S).bind fun x S1 => (h ps S1).bind fun y S2 => binop op x y S2) := by
  refine ⟨fun pins s σ H Q I hq => ?_⟩
  have := (pe_op (pos := pos) (op_bin (W := fun c d H => W c d σ H) (n := n) g.hK op) ha hb).run pins s σ H Q I
  exact this (read2 hq fun ρ S H2 a b x y R ra rb p => ⟨ρ, S, a, b, R, ra, rb, p⟩)
/-- a comparison whose operator calls nothing, as a value -/
theorem Post.ofO {α β : Type} {RR : List Addr → Hp → α → β → Prop} {Wk : WK} {Q : β → Hp → Prop} {ρ : List Addr} {S : Store} {H : Hp} {o : Option α} (h : Post N n RR Wk Q ρ S H (PyI.ofO o S)) : ∃ v, o = some v ∧ Post N n RR Wk Q ρ S H (.ok v S) := by
  cases o with
  | none => exact h.elim
  | some v => exact ⟨v, rfl, h⟩
/-! ### comparisons -/
section
variable (G : Tab) (call : Nat → Nat → List PV → Store → Res PV)
def rCmpR (N : Nm) (n : Nat) (W : WK) (op : CmpOp) : R2 := fun x y H Q => ∃ ρ S a b, Rel N ρ H S ∧ RV N ρ H a x ∧ RV N ρ H b y ∧ Post N n REq W (fun c H' => Q (.bl c) H') ρ S H (cmpR G call op a b S)
end
variable {G : Tab} {call : Nat → Nat → List PV → Store → Res PV}
/-- behind a truth value -/
theorem Post.bl {Wk : WK} {Q : VK} {ρ : List Addr} {S : Store} {H : Hp} {r : Res Bool} (h : Post N n (RVl N) Wk Q ρ S H (r.bind fun c S' => .ok (.bl c) S')) : Post N n REq Wk (fun c H' => Q (.bl c) H') ρ S H r := by
  cases r with
  | ok c S' =>
    refine fun ρ' H' x st e => ?_
    have e' : x = c := e
    subst e'
    exact h ρ' H' _ st (RV.bl_iff.mpr rfl)
  | exn e S' => exact h
  | stuck => exact h
def CmpOk (G : Tab) (call : Nat → Nat → List PV → Store → Res PV) (N : Nm) (n : Nat) (X : Cx) (W : WX) (op : CmpOp) : Prop := ∀ σ : L2.St, OpR X (compareOp op) (rCmpR G call N n (fun c d H => W c d σ H) op)
theorem e_cmp (g : Good N X W k) {a b : Expr} {f h : Ev → Store → Res PV} {op : CmpOp} {pos : Pos} (hop : CmpOk G call N n X W op) (ha : PE X a (tE N n W f)) (hb : PE X b (tE N n W h)) (hm : behindInMarks op b = false) :
    PE X (.Compare a [op] [b] pos) (tE N n W fun ps S => (f ps S).bind fun x S1 => (h ps S1).bind fun y S2 => (cmpR G call op x y S2).bind fun c S3 => .ok (.bl c) S3) := by
  refine ⟨fun pins s σ H Q I hq => ?_⟩
  have := (pe_cmpR (pos := pos) (hop σ) ha hb hm).run pins s σ H Q I
  exact this (read2 hq fun ρ S H2 a b x y R ra rb p => ⟨ρ, S, a, b, R, ra, rb, p.bl⟩)
/-- an end that is a truth value, as a test -/
theorem Post.tst {Wk : WK} {Q : Bool → Hp → Prop} {ρ : List Addr} {S : Store} {H : Hp} {r : Res Bool} (h : Post N n REq Wk Q ρ S H ((r.bind fun c S' => .ok (PV.bl c) S').bind fun v S1 => PyI.ofO (v.truth S1) S1)) : Post N n REq Wk Q ρ S H r := by
  cases r with
  | ok c S' => exact h
  | exn e S' => exact h
  | stuck => exact h
theorem bind_assoc' {α β γ : Type} (r : Res α) (f : α → Store → Res β) (h : β → Store → Res γ) : (r.bind f).bind h = r.bind fun a S => (f a S).bind h := by
  cases r <;> rfl
theorem Post.bind2 {α β γ δ ε : Type} {R1 : List Addr → Hp → β → γ → Prop} {R2' : List Addr → Hp → δ → ε → Prop} {Wk : WK} {Q : ε → Hp → Prop} {Q' : γ → Hp → Prop} {ρ : List Addr} {S : Store} {H : Hp} {r : Res α} {k : α → Store → Res δ} {k' : α → Store → Res β}
    (h : Post N n R2' Wk Q ρ S H (r.bind k)) (hk : ∀ a S1, Post N n R2' Wk Q ρ S H (k a S1) → Post N n R1 Wk Q' ρ S H (k' a S1)) : Post N n R1 Wk Q' ρ S H (r.bind k') := by
  cases r with
  | ok a S1 => exact hk a S1 h
  | exn e S1 => exact h
  | stuck => exact h
theorem t_cmp (g : Good N X W k) {a b : Expr} {f h : Ev → Store → Res PV} {op : CmpOp} {pos : Pos} (hop : CmpOk G call N n X W op) (ha : PE X a (tE N n W f)) (hb : PE X b (tE N n W h)) (hm : behindInMarks op b = false) :
    PT X (.Compare a [op] [b] pos) (tT N n W fun ps S => ((f ps S).bind fun x S1 => (h ps S1).bind fun y S2 => (cmpR G call op x y S2).bind fun c S3 => (.ok (.bl c) S3 : Res PV)).bind fun v S1 => PyI.ofO (v.truth S1) S1) := by
  refine ⟨fun pins s σ H Q I hq => ?_⟩
  have := (pt_cmpR (pos := pos) (hop σ) ha hb hm).run pins s σ H Q I
  refine this ?_
  simp only [tT, bind_assoc'] at hq
  unfold tTest tOp
  refine read2 hq fun ρ S H2 a b x y R ra rb p => ⟨ρ, S, a, b, R, ra, rb, ?_⟩
  have p2 : Post N n REq (fun c d H => W c d σ H) Q ρ S H2 (cmpR G call op a b S) := by
    cases hc : cmpR G call op a b S with
    | ok c S' => rw [hc] at p; exact p
    | exn e S' => rw [hc] at p; exact p
    | stuck => rw [hc] at p; exact p
  exact p2.mono fun c H' q => ⟨c, rfl, q⟩
/-! ### truth -/
theorem _root_.PyI.RVs.empty {ρ : List Addr} {H : Hp} {xs : List PV} {ys : List V} (r : RVs N ρ H xs ys) : xs.isEmpty = ys.isEmpty := by
  cases xs with
  | nil => rw [RVs.nil_iff] at r; subst r; rfl
  | cons x t => obtain ⟨_, _, e, _⟩ := r.cons_inv; subst e; rfl
theorem truth_ok (g : Good N X W k) {pins : List (Addr × Obj)} {s : Shared} {σ : L2.St} {H : Hp} {x : V} {v : Value} {Q : Bool → Hp → Prop} {ρ : List Addr} {S : Store} {a : PV} {c : Bool} (I : L2.Inv X pins σ H s) (rx : RelV x v) (R : Rel N ρ H S) (ra : RV N ρ H a x)
    (e : a.truth S = some c) (q : Q c H) : wpAny (model X.prog X.w) X.A (truthy v) (TP X pins σ Q) X.xe s := by
  refine tru_ok pins s σ H x v Q I rx ⟨c, ?_, q⟩
  unfold PV.truth at e
  split at e
  · cases e; cases RV.non_iff.mp ra; rfl
  · cases e; cases RV.bl_iff.mp ra; rfl
  · cases e; cases RV.int_iff.mp ra; rfl
  · cases e
    obtain ⟨e1, z⟩ := RV.str_iff.mp ra
    subst e1
    refine ⟨z, ?_⟩
    rename_i y
    rw [Bool.eq_iff_iff]
    simp
  · cases e
    obtain ⟨p, ys, e1, t, r, _⟩ := ra.tupT
    subst e1
    refine .inr (.inl ⟨ys, by rw [g.hK]; exact t, ?_⟩)
    rw [r.empty]
  · cases e
    obtain ⟨p, ys, e1, _, t, r, _⟩ := ra.lstL
    subst e1
    refine .inl ⟨ys, .inl (.inl t), ?_⟩
    rw [r.empty]
  · rename_i l
    split at e
    · rename_i xs hs
      cases e
      simp only [RV] at ra
      obtain ⟨p, h1, h2⟩ := ra
      subst h2
      obtain ⟨ys, q1, r, _⟩ := R.obj l _ p hs h1
      refine .inl ⟨ys, .inl (.inl q1), ?_⟩
      rw [r.empty]
    · cases e
  · cases e
/-- any expression as a test -/
theorem t_any (g : Good N X W k) {e : Expr} {f : Ev → Store → Res PV} (he : PE X e (tE N n W f)) (hw : ∀ whole, PySem.isTrue e X.env whole = (do let v ← whole; standAt e.pos; holding [v] (truthy v))) :
    PT X e (tT N n W fun ps S => (f ps S).bind fun v S1 => PyI.ofO (v.truth S1) S1) := by
  refine ⟨fun pins s σ H Q I hq => ?_⟩
  obtain ⟨ρ, S, ps, R, sl, p⟩ := hq
  have rd : tE N n W f σ H fun x H1 => ∃ ρ1 a S1, Rel N ρ1 H1 S1 ∧ RV N ρ1 H1 a x ∧ Post N n REq (fun c d H => W c d σ H) Q ρ1 S1 H1 (PyI.ofO (a.truth S1) S1) :=
    ⟨ρ, S, ps, R, sl, (Post.bind (R := RVl N) p).mono fun x H1 ⟨ρ1, a, S1, st, ra, p1⟩ => ⟨ρ1, a, S1, st.rel, ra, p1⟩⟩
  refine isTrue_plain (thn (he.run pins s σ H _ I rd) fun v s1 ⟨x, H1, I1, r1, ρ1, a, S1, R1, ra, p1⟩ => ?_) (hw _)
  obtain ⟨c, e1, p2⟩ := p1.ofO
  exact truth_ok g I1 r1 R1 ra e1 (p2.ok R1 rfl)
/-! ### not, and, or, if-else -/
theorem e_not (g : Good N X W k) {e : Expr} {f : Ev → Store → Res PV} {pos : Pos} (he : PE X e (tE N n W f)) :
    PE X (.UnaryOp .Not e pos) (tE N n W fun ps S => (f ps S).bind fun v S1 => (match v.truth S1 with
      | some b => .ok (.bl (!b)) S1
      | none => .stuck)) := by
  refine ⟨fun pins s σ H Q I hq => ?_⟩
  obtain ⟨ρ, S, ps, R, sl, p⟩ := hq
  have rd : tE N n W f σ H fun x H1 => ∃ ρ1 a S1, Rel N ρ1 H1 S1 ∧ RV N ρ1 H1 a x ∧ Post N n (RVl N) (fun c d H => W c d σ H) Q ρ1 S1 H1 (match a.truth S1 with
      | some b => .ok (.bl (!b)) S1
      | none => .stuck) :=
    ⟨ρ, S, ps, R, sl, (Post.bind (R := RVl N) p).mono fun x H1 ⟨ρ1, a, S1, st, ra, p1⟩ => ⟨ρ1, a, S1, st.rel, ra, p1⟩⟩
  refine UnaryOp_ (thn (he.run pins s σ H _ I rd) fun v s1 ⟨x, H1, I1, r1, ρ1, a, S1, R1, ra, p1⟩ => ?_)
  split at p1
  · rename_i b hb
    refine not_of (thn (truth_ok g I1 r1 R1 ra hb (Q := fun c H' => c = b ∧ H' = H1) ⟨rfl, rfl⟩) fun c s2 ⟨H2, I2, e1, e2⟩ => ?_)
    subst e1; subst e2
    exact ⟨.bl _, H2, I2, rfl, p1.ok R1 (RV.bl_iff.mpr rfl)⟩
  · exact p1.elim
theorem t_not {e : Expr} {f : Ev → Store → Res PV} {pos : Pos} (he : PT X e (tT N n W fun ps S => (f ps S).bind fun v S1 => PyI.ofO (v.truth S1) S1)) :
    PT X (.UnaryOp .Not e pos) (tT N n W fun ps S => ((f ps S).bind fun v S1 => (match v.truth S1 with
      | some b => (.ok (.bl (!b)) S1 : Res PV)
      | none => .stuck)).bind fun v S1 => PyI.ofO (v.truth S1) S1) := by
  refine (pt_not he).imp fun σ H Q hq => ?_
  obtain ⟨ρ, S, ps, R, sl, p⟩ := hq
  refine ⟨ρ, S, ps, R, sl, ?_⟩
  dsimp only at p
  rw [bind_assoc'] at p
  refine Post.bind2 p fun v S1 p => ?_
  cases ht : v.truth S1 with
  | none => rw [ht] at p; exact p
  | some b =>
    rw [ht] at p
    refine fun ρ' H' x st e => ?_
    have e' : x = b := e
    subst e'
    exact p ρ' H' (!x) st rfl
theorem e_ife {c a b : Expr} {fc fa fb : Ev → Store → Res PV} {pos : Pos} (hc : PT X c (tT N n W fun ps S => (fc ps S).bind fun v S1 => PyI.ofO (v.truth S1) S1)) (ha : PE X a (tE N n W fa)) (hb : PE X b (tE N n W fb)) :
    PE X (.IfExp c a b pos) (tE N n W fun ps S => (fc ps S).bind fun v S1 => (match v.truth S1 with
      | some true => fa ps S1
      | some false => fb ps S1
      | none => .stuck)) := by
  refine (pe_ifExp hc ha hb).imp fun σ H Q hq => ?_
  obtain ⟨ρ, S, ps, R, sl, p⟩ := hq
  refine ⟨ρ, S, ps, R, sl, ?_⟩
  refine Post.bind2 p fun v S1 p => ?_
  cases ht : v.truth S1 with
  | none => rw [ht] at p; exact p
  | some t =>
    rw [ht] at p
    refine fun ρ' H' x st e => ?_
    · have e' : x = t := e
      subst e'
      cases x with
      | true => exact iteT ⟨ρ', S1, ps, st.rel, sl.stp st, Post.from p st⟩
      | false => exact iteF ⟨ρ', S1, ps, st.rel, sl.stp st, Post.from p st⟩
/-- an if-else as a test: isTrue takes the branches' tests -/
theorem t_ife {c a b : Expr} {fc fa fb : Ev → Store → Res PV} {pos : Pos} (hc : PT X c (tT N n W fun ps S => (fc ps S).bind fun v S1 => PyI.ofO (v.truth S1) S1))
    (ha : PT X a (tT N n W fun ps S => (fa ps S).bind fun v S1 => PyI.ofO (v.truth S1) S1)) (hb : PT X b (tT N n W fun ps S => (fb ps S).bind fun v S1 => PyI.ofO (v.truth S1) S1)) :
    PT X (.IfExp c a b pos) (tT N n W fun ps S => ((fc ps S).bind fun v S1 => (match v.truth S1 with
      | some true => fa ps S1
      | some false => fb ps S1
      | none => .stuck)).bind fun v S1 => PyI.ofO (v.truth S1) S1) := by
  refine ⟨fun pins s σ H Q I hq => ?_⟩
  obtain ⟨ρ, S, ps, R, sl, p⟩ := hq
  dsimp only at p
  rw [bind_assoc'] at p
  have e1 : PySem.isTrue (.IfExp c a b pos) X.env (PySem.eval (.IfExp c a b pos) X.env) = (do if ← PySem.isTrue c X.env (PySem.eval c X.env) then PySem.isTrue a X.env (PySem.eval a X.env) else PySem.isTrue b X.env (PySem.eval b X.env)) := rfl
  rw [e1]
  refine wpAny_bind (thn (hc.run pins s σ H (fun t H1 => if t = true then tT N n W (fun ps S => (fa ps S).bind fun v S1 => PyI.ofO (v.truth S1) S1) σ H1 Q else tT N n W (fun ps S => (fb ps S).bind fun v S1 => PyI.ofO (v.truth S1) S1) σ H1 Q) I
    ⟨ρ, S, ps, R, sl, Post.bind2 p fun v S1 p => ?_⟩) fun t s1 ⟨H1, I1, q1⟩ => ?_)
  · cases ht : v.truth S1 with
    | none => rw [ht] at p; exact p
    | some t =>
      rw [ht] at p
      refine fun ρ' H' x st e => ?_
      · have e' : x = t := e
        subst e'
        cases x with
        | true => exact iteT ⟨ρ', S1, ps, st.rel, sl.stp st, Post.from p st⟩
        | false => exact iteF ⟨ρ', S1, ps, st.rel, sl.stp st, Post.from p st⟩
  · cases t with
    | true => exact ha.run pins s1 σ H1 Q I1 q1
    | false => exact hb.run pins s1 σ H1 Q I1 q1
end
end PyI
set_option Elab.async false
set_option linter.all false
set_option maxRecDepth 100000
set_option maxHeartbeats 2000000
/-! PyG: more expressions -/
namespace PyI
open PySem PySem.Spec PyProof.Rows L2
section
variable {N : Nm} {X : Cx} {W : WX} {k : Nat} {n : Nat} {G : Tab} {call : Nat → Nat → List PV → Store → Res PV}
theorem truV_of (g : Good N X W k) {H : Hp} {x : V} {ρ : List Addr} {S : Store} {a : PV} {c : Bool} (R : Rel N ρ H S) (ra : RV N ρ H a x) (e : a.truth S = some c) : TruV X.K x H c := by
  unfold PV.truth at e
  split at e
  · cases e; cases RV.non_iff.mp ra; rfl
  · cases e; cases RV.bl_iff.mp ra; rfl
  · cases e; cases RV.int_iff.mp ra; rfl
  · cases e
    obtain ⟨e1, z⟩ := RV.str_iff.mp ra
    subst e1
    refine ⟨z, ?_⟩
    rw [Bool.eq_iff_iff]
    simp
  · cases e
    obtain ⟨p, ys, e1, t, r, _⟩ := ra.tupT
    subst e1
    refine .inr (.inl ⟨ys, by rw [g.hK]; exact t, ?_⟩)
    rw [r.empty]
  · cases e
    obtain ⟨p, ys, e1, _, t, r, _⟩ := ra.lstL
    subst e1
    refine .inl ⟨ys, .inl (.inl t), ?_⟩
    rw [r.empty]
  · rename_i l
    split at e
    · rename_i xs hs
      cases e
      simp only [RV] at ra
      obtain ⟨p, h1, h2⟩ := ra
      subst h2
      obtain ⟨ys, q1, r, _⟩ := R.obj l _ p hs h1
      refine .inl ⟨ys, .inl (.inl q1), ?_⟩
      rw [r.empty]
    · cases e
  · cases e
/-- one behind another, the first one's end looked at -/
theorem read1 {f : Ev → Store → Res PV} {α β : Type} {RR : List Addr → Hp → α → β → Prop} {kk : PV → Store → Ev → Res α} {σ : L2.St} {H : Hp} {Q : β → Hp → Prop} {C : V → Hp → Prop}
    (h : ∃ ρ S ps, Rel N ρ H S ∧ SlR N ρ H ps σ ∧ Post N n RR (fun c d H => W c d σ H) Q ρ S H ((f ps S).bind fun x S1 => kk x S1 ps))
    (hC : ∀ ρ S H2 a x ps, Rel N ρ H2 S → SlR N ρ H2 ps σ → RV N ρ H2 a x → Post N n RR (fun c d H => W c d σ H) Q ρ S H2 (kk a S ps) → C x H2) :
    tE N n W f σ H C := by
  obtain ⟨ρ, S, ps, R, sl, p⟩ := h
  exact ⟨ρ, S, ps, R, sl, (Post.bind (R := RVl N) p).mono fun x H1 ⟨ρ1, a, S1, st, ra, p1⟩ => hC ρ1 S1 H1 a x ps st.rel (sl.stp st) ra p1⟩
theorem e_one {a : Expr} {f : Ev → Store → Res PV} {op : PySem.BoolOp} {pos : Pos} (ha : PE X a (tE N n W f)) : PE X (.BoolOp op [a] pos) (tE N n W f) := pe_one ha
theorem e_and (g : Good N X W k) {a b : Expr} {rest : List Expr} {f h : Ev → Store → Res PV} {pos : Pos} (ha : PE X a (tE N n W f)) (hb : PE X (.BoolOp .And (b :: rest) pos) (tE N n W h)) :
    PE X (.BoolOp .And (a :: b :: rest) pos) (tE N n W fun ps S => (f ps S).bind fun v S1 => (match v.truth S1 with
      | some true => h ps S1
      | some false => .ok v S1
      | none => .stuck)) := by
  refine (pe_andT ha hb).imp fun σ H Q hq => ?_
  refine read1 (kk := fun v S1 ps => (match v.truth S1 with
      | some true => h ps S1
      | some false => .ok v S1
      | none => .stuck)) hq fun ρ S H2 v x ps R sl ra p => ?_
  split at p
  · rename_i e; exact ⟨true, truV_of g R ra e, iteT ⟨ρ, S, ps, R, sl, p⟩⟩
  · rename_i e; exact ⟨false, truV_of g R ra e, iteF (p.ok R ra)⟩
  · exact p.elim
theorem e_or (g : Good N X W k) {a b : Expr} {rest : List Expr} {f h : Ev → Store → Res PV} {pos : Pos} (ha : PE X a (tE N n W f)) (hb : PE X (.BoolOp .Or (b :: rest) pos) (tE N n W h)) :
    PE X (.BoolOp .Or (a :: b :: rest) pos) (tE N n W fun ps S => (f ps S).bind fun v S1 => (match v.truth S1 with
      | some false => h ps S1
      | some true => .ok v S1
      | none => .stuck)) := by
  refine (pe_orT ha hb).imp fun σ H Q hq => ?_
  refine read1 (kk := fun v S1 ps => (match v.truth S1 with
      | some false => h ps S1
      | some true => .ok v S1
      | none => .stuck)) hq fun ρ S H2 v x ps R sl ra p => ?_
  split at p
  · rename_i e; exact ⟨false, truV_of g R ra e, iteF ⟨ρ, S, ps, R, sl, p⟩⟩
  · rename_i e; exact ⟨true, truV_of g R ra e, iteT (p.ok R ra)⟩
  · exact p.elim
/-- a test of an expression's value -/
def tst (f : Ev → Store → Res PV) : Ev → Store → Res Bool := fun ps S => (f ps S).bind fun v S1 => PyI.ofO (v.truth S1) S1
theorem w_and1 {a : Expr} {f : Ev → Store → Res PV} {pos : Pos} (ha : PT X a (tT N n W (tst f))) : PW X (.BoolOp .And [a] pos) (tT N n W (tst f)) := pw_and1 ha
theorem w_or1 {a : Expr} {f : Ev → Store → Res PV} {pos : Pos} (ha : PT X a (tT N n W (tst f))) : PW X (.BoolOp .Or [a] pos) (tT N n W (tst f)) := pw_or1 ha
theorem w_and {a b : Expr} {rest : List Expr} {f h : Ev → Store → Res PV} {pos : Pos} (ha : PT X a (tT N n W (tst f))) (hb : PW X (.BoolOp .And (b :: rest) pos) (tT N n W (tst h))) :
    PW X (.BoolOp .And (a :: b :: rest) pos) (tT N n W (tst fun ps S => (f ps S).bind fun v S1 => (match v.truth S1 with
      | some true => h ps S1
      | some false => .ok v S1
      | none => .stuck))) := by
  refine (pw_and ha hb).imp fun σ H Q hq => ?_
  obtain ⟨ρ, S, ps, R, sl, p⟩ := hq
  refine ⟨ρ, S, ps, R, sl, ?_⟩
  unfold tst at p ⊢
  rw [bind_assoc'] at p
  refine Post.bind2 p fun v S1 p => ?_
  cases ht : v.truth S1 with
  | none => rw [ht] at p; exact p
  | some t =>
    rw [ht] at p
    refine fun ρ' H' x st e => ?_
    have e' : x = t := e
    subst e'
    cases x with
    | true => exact iteT ⟨ρ', S1, ps, st.rel, sl.stp st, Post.from p st⟩
    | false =>
      have p : Post N n REq _ Q ρ S H (PyI.ofO (v.truth S1) S1) := p
      rw [ht] at p
      exact iteF (p ρ' H' false st rfl)
theorem w_or {a b : Expr} {rest : List Expr} {f h : Ev → Store → Res PV} {pos : Pos} (ha : PT X a (tT N n W (tst f))) (hb : PW X (.BoolOp .Or (b :: rest) pos) (tT N n W (tst h))) :
    PW X (.BoolOp .Or (a :: b :: rest) pos) (tT N n W (tst fun ps S => (f ps S).bind fun v S1 => (match v.truth S1 with
      | some false => h ps S1
      | some true => .ok v S1
      | none => .stuck))) := by
  refine (pw_or ha hb).imp fun σ H Q hq => ?_
  obtain ⟨ρ, S, ps, R, sl, p⟩ := hq
  refine ⟨ρ, S, ps, R, sl, ?_⟩
  unfold tst at p ⊢
  rw [bind_assoc'] at p
  refine Post.bind2 p fun v S1 p => ?_
  cases ht : v.truth S1 with
  | none => rw [ht] at p; exact p
  | some t =>
    rw [ht] at p
    refine fun ρ' H' x st e => ?_
    have e' : x = t := e
    subst e'
    cases x with
    | false => exact iteF ⟨ρ', S1, ps, st.rel, sl.stp st, Post.from p st⟩
    | true =>
      have p : Post N n REq _ Q ρ S H (PyI.ofO (v.truth S1) S1) := p
      rw [ht] at p
      exact iteT (p ρ' H' true st rfl)
/-! ### chains -/
def fChain (G : Tab) (call : Nat → Nat → List PV → Store → Res PV) (op op' : CmpOp) (f h j : Ev → Store → Res PV) : Ev → Store → Res PV := fun ps S => (f ps S).bind fun x S1 => (h ps S1).bind fun y S2 => (cmpR G call op x y S2).bind fun c S3 =>
      if c = true then (j ps S3).bind fun z S4 => (cmpR G call op' y z S4).bind fun c' S5 => .ok (.bl c') S5 else .ok (.bl false) S3
theorem chain_read {α β : Type} {RR : List Addr → Hp → α → β → Prop} {σ : L2.St} {H : Hp} {Q : β → Hp → Prop} {op op' : CmpOp} {f h j : Ev → Store → Res PV} {kk : PV → Store → Res α} {Q' : VK}
    (hq : ∃ ρ S ps, Rel N ρ H S ∧ SlR N ρ H ps σ ∧ Post N n RR (fun c d H => W c d σ H) Q ρ S H ((fChain G call op op' f h j ps S).bind kk))
    (hk : ∀ ρ S H2 c, Rel N ρ H2 S → Post N n RR (fun c d H => W c d σ H) Q ρ S H2 (kk (.bl c) S) → Q' (.bl c) H2) :
    tChain (rCmpR G call N n (fun c d H => W c d σ H) op) (rCmpR G call N n (fun c d H => W c d σ H) op') (tE N n W f) (tE N n W h) (tE N n W j) σ H Q' := by
  obtain ⟨ρ, S, ps, R, sl, p⟩ := hq
  unfold fChain at p
  rw [bind_assoc'] at p
  refine ⟨ρ, S, ps, R, sl, (Post.bind (R := RVl N) p).mono fun x H1 ⟨ρ1, a, S1, st, ra, p1⟩ => ?_⟩
  rw [bind_assoc'] at p1
  refine ⟨ρ1, S1, ps, st.rel, sl.stp st, (Post.bind (R := RVl N) p1).mono fun y H2 ⟨ρ2, b, S2, st2, rb, p2⟩ => ?_⟩
  rw [bind_assoc'] at p2
  refine ⟨ρ2, S2, a, b, st2.rel, ra.stp st2, rb, (Post.bind (R := REq) p2).mono fun c H3 ⟨ρ3, c', S3, st3, ec, p3⟩ => ⟨c, rfl, ?_⟩⟩
  have ec' : c = c' := ec
  subst ec'
  cases c with
  | false => exact iteF (hk _ _ _ false st3.rel p3)
  | true =>
    refine iteT ?_
    have p3 : Post N n RR (fun c d H => W c d σ H) Q ρ3 S3 H3 (((j ps S3).bind fun z S4 => (cmpR G call op' b z S4).bind fun c' S5 => .ok (PV.bl c') S5).bind kk) := p3
    rw [bind_assoc'] at p3
    refine ⟨ρ3, S3, ps, st3.rel, ((sl.stp st).stp st2).stp st3, (Post.bind (R := RVl N) p3).mono fun z H4 ⟨ρ4, d, S4, st4, rd, p4⟩ => ?_⟩
    rw [bind_assoc'] at p4
    refine ⟨ρ4, S4, b, d, st4.rel, (rb.stp st3).stp st4, rd, ?_⟩
    exact (Post.bind (R := REq) p4).mono fun c2 H5 ⟨ρ5, c3, S5, st5, ec, p5⟩ => by
      have ec' : c2 = c3 := ec
      subst ec'
      exact hk _ _ _ c2 st5.rel p5
theorem bind_ok' {α : Type} (r : Res α) : r.bind (fun v S => .ok v S) = r := by cases r <;> rfl
theorem e_chain {a b c : Expr} {f h j : Ev → Store → Res PV} {op op' : CmpOp} {pos : Pos} (hop : CmpOk G call N n X W op) (hop' : CmpOk G call N n X W op')
    (ha : PE X a (tE N n W f)) (hb : PE X b (tE N n W h)) (hc : PE X c (tE N n W j)) (hm : lastMarks [op, op'] [b, c] = false) : PE X (.Compare a [op, op'] [b, c] pos) (tE N n W (fChain G call op op' f h j)) := by
  refine ⟨fun pins s σ H Q I hq => ?_⟩
  refine (pe_chain (pos := pos) (hop σ) (hop' σ) ha hb hc hm).run pins s σ H Q I ?_
  obtain ⟨ρ, S, ps, R, sl, p⟩ := hq
  rw [← bind_ok' (fChain G call op op' f h j ps S)] at p
  exact chain_read (kk := fun v S => .ok v S) ⟨ρ, S, ps, R, sl, p⟩ fun ρ S H2 c R p => p.ok R (RV.bl_iff.mpr rfl)
theorem t_chain {a b c : Expr} {f h j : Ev → Store → Res PV} {op op' : CmpOp} {pos : Pos} (hop : CmpOk G call N n X W op) (hop' : CmpOk G call N n X W op')
    (ha : PE X a (tE N n W f)) (hb : PE X b (tE N n W h)) (hc : PE X c (tE N n W j)) (hm : lastMarks [op, op'] [b, c] = false) : PT X (.Compare a [op, op'] [b, c] pos) (tT N n W (tst (fChain G call op op' f h j))) := by
  refine ⟨fun pins s σ H Q I hq => ?_⟩
  refine (pt_chain (pos := pos) (hop σ) (hop' σ) ha hb hc hm).run pins s σ H Q I ?_
  exact chain_read (kk := fun v S1 => PyI.ofO (v.truth S1) S1) hq fun ρ S H2 c R p => ⟨c, rfl, p.ok R rfl⟩
/-! ### argument lists -/
def aCons (f : Ev → Store → Res PV) (h : Ev → Store → Res (List PV)) : Ev → Store → Res (List PV) := fun ps S => (f ps S).bind fun v S1 => (h ps S1).bind fun vs S2 => .ok (v :: vs) S2
theorem a_nil : PA X [] (tA N n W fun _ S => .ok [] S) := pa_nil.imp fun σ H Q hq => by
  obtain ⟨ρ, S, ps, R, sl, p⟩ := hq
  exact p.ok R (by simp [RVs])
theorem a_cons {e : Expr} {es : List Expr} {f : Ev → Store → Res PV} {h : Ev → Store → Res (List PV)} (he : PE X e (tE N n W f)) (hr : PA X es (tA N n W h)) (hs : starEach (e :: es) X.env = (false, PySem.eval e X.env) :: starEach es X.env) :
    PA X (e :: es) (tA N n W (aCons f h)) := by
  refine (pa_cons he hr hs).imp fun σ H Q hq => ?_
  refine read1 (kk := fun v S1 ps => (h ps S1).bind fun vs S2 => .ok (v :: vs) S2) hq fun ρ S H2 v x ps R sl ra p => ?_
  exact ⟨ρ, S, ps, R, sl, (Post.bind (R := RVls N) p).mono fun ys H3 ⟨ρ1, vs, S1, st, rs, p1⟩ => p1.ok st.rel (.cons (ra.stp st) rs)⟩
theorem e_tup {es : List Expr} {h : Ev → Store → Res (List PV)} {x1 : Nat} {pos : Pos} (hs : PA X es (tA N n W h)) : PE X (.Tuple es x1 pos) (tE N n W fun ps S => (h ps S).bind fun vs S1 => guardR (decide (vs.length ≤ sizeLine)) (.ok (.tup vs) S1)) := by
  refine (pe_tup hs).imp fun σ H Q hq => ?_
  obtain ⟨ρ, S, ps, R, sl, p⟩ := hq
  refine ⟨ρ, S, ps, R, sl, (Post.bind (R := RVls N) p).mono fun xs H1 ⟨ρ1, vs, S1, st, rs, p1⟩ => ?_⟩
  obtain ⟨gd, p1⟩ := p1.guard
  have hz := of_decide_eq_true gd
  exact ⟨by rw [← rs.length]; exact hz, p1.newTup st.rel rs hz⟩
theorem e_lst {fr : Bool} {es : List Expr} {h : Ev → Store → Res (List PV)} {pos : Pos} (hs : PA X es (tA N n W h)) : PE X (.List es pos) (tE N n W fun ps S => (h ps S).bind fun vs S1 => guardR (decide (vs.length ≤ sizeLine)) (mkL fr vs S1)) := by
  refine (pe_lst hs).imp fun σ H Q hq => ?_
  obtain ⟨ρ, S, ps, R, sl, p⟩ := hq
  refine ⟨ρ, S, ps, R, sl, (Post.bind (R := RVls N) p).mono fun xs H1 ⟨ρ1, vs, S1, st, rs, p1⟩ => ?_⟩
  obtain ⟨gd, p1⟩ := p1.guard
  have hz := of_decide_eq_true gd
  exact ⟨by rw [← rs.length]; exact hz, p1.newL st.rel rs hz⟩
/-! ### subscripts -/
theorem RVs.atI {ρ : List Addr} {H : Hp} {xs : List PV} {ys : List V} {i : Int} {v : PV} (r : RVs N ρ H xs ys) (e : atI xs i = some v) : ∃ y, atI ys i = some y ∧ RV N ρ H v y := by
  unfold L2.atI at e ⊢
  rw [Option.bind_eq_some_iff] at e
  obtain ⟨j, e1, e2⟩ := e
  obtain ⟨y, h1, h2⟩ := r.get e2
  exact ⟨y, by rw [← r.length, e1]; exact h1, h2⟩
theorem look_none_nil {α : Type} {ks : List DKey} {ys : List α} {k : DKey} {y : α} (h : look ks ys k = some y) : ks ≠ [] := by
  intro e; subst e; cases h
theorem dict_get {ρ : List Addr} {H : Hp} {a : Addr} {ks : List DKey} {ys : List V} {o : HO} {k : DKey} {x : V} {y : V} (d : DC ks ys o) (rd : Rd H a o) (hk : kindOk ks k = true) (h : RV N ρ H k.pv x) (e : look ks ys k = some y) : DGet H a x (some y) := by
  rcases h.asKey with ⟨q, e1, e2⟩ | ⟨q, b, e1, e2, _, hb⟩
  · subst e1; subst e2
    cases d with
    | k kvs h1 h2 _ _ _ =>
      refine .inl ⟨kvs, q, rd, rfl, ?_⟩
      rw [valV_look dk1 (fun _ _ => dk1_inj), ← h1, ← h2, e]
    | t kvs h1 h2 _ _ _ h6 =>
      cases kvs with
      | nil => exact (h6 (by rw [h1]; rfl)).elim
      | cons p r =>
        rw [h1, List.map_cons] at hk
        simp only [kindOk, dk1_isT] at hk
        cases hk
  · subst e1; subst e2
    cases d with
    | k kvs h1 h2 _ _ _ =>
      cases kvs with
      | nil => exact (look_none_nil e (by rw [h1]; rfl)).elim
      | cons p r =>
        rw [h1, List.map_cons] at hk
        simp only [kindOk, dk1_isT] at hk
        cases hk
    | t kvs h1 h2 _ _ _ h6 =>
      refine .inr ⟨kvs, q, b, rd, rfl, hb, ?_⟩
      rw [valV_look DKey.t (fun _ _ h => by injection h), ← h1, ← h2, e]
theorem getIx_dict {o i v : PV} {S : Store} {ks : List DKey} {vs : List PV} (e : getIx o i S = some v) (hd : dictOf o S = some (ks, vs)) : ∃ k, i.key = some k ∧ kindOk ks k = true ∧ look ks vs k = some v := by
  unfold getIx at e
  rw [hd] at e
  simp only [Option.bind_eq_some_iff, id] at e
  obtain ⟨k, e1, r, e2, e3⟩ := e
  unfold lookD at e2
  split at e2
  · rename_i hk
    cases e2
    exact ⟨k, e1, hk, e3⟩
  · cases e2
def rIxP (N : Nm) : R2 := fun x y H Q => ∃ ρ S a b v, Rel N ρ H S ∧ RV N ρ H a x ∧ RV N ρ H b y ∧ getIx a b S = some v ∧ ∀ z, RV N ρ H v z → Q z H
theorem op_ix (g : Good N X W k) : IxR X (rIxP N) := by
  intro value slice pins s σ H x y v u Q I rx ry h hs
  obtain ⟨ρ, S, a, b, z, R, ra, rb, e, q⟩ := h
  cases hd : dictOf a S with
  | some kv =>
    obtain ⟨ks, vs⟩ := kv
    obtain ⟨kk, e1, hk, e2⟩ := getIx_dict e hd
    obtain ⟨p, ys, o, ey, d, rd, rvs, h0⟩ := ra.dict R hd
    subst ey
    cases rx
    rw [key_pv e1] at rb
    rcases rvs.look (ks := ks) (k := kk) with ⟨h1, _⟩ | ⟨v', y', h1, h2, h3⟩
    · rw [h1] at e2; cases e2
    · rw [h1] at e2; cases e2
      have gd := dict_get d rd hk rb h2
      exact tail_any (dict_typeIs I gd) PySem.F.slot_dict_getitem.lookup (d_getItem g.hu1 I gd ry fun w' s' I' rw' => ⟨y', H, I', rw', q _ h3⟩) hs
  | none =>
    unfold getIx at e
    rw [hd] at e
    dsimp only at e
    split at e
    · rename_i m
      cases RV.int_iff.mp rb
      split at e
      · obtain ⟨e1, hz⟩ := RV.str_iff.mp ra
        subst e1
        rw [Option.map_eq_some_iff] at e
        obtain ⟨c, e1, e2⟩ := e
        subst e2
        exact ix_str value slice pins s σ H _ _ v u Q I rx ry ⟨_, _, c, rfl, rfl, hz, e1, q _ (RV.str_iff.mpr ⟨rfl, by rw [sizeLine_eq]; show 1 ≤ _; omega⟩)⟩ hs
      · rename_i ns
        simp only [RV] at ra
        obtain ⟨p, e1, e2, hz⟩ := ra
        subst e1
        rw [Option.map_eq_some_iff] at e
        obtain ⟨c, e3, e4⟩ := e
        subst e4
        refine ix_list value slice pins s σ H _ _ v u Q I rx ry ⟨p, ns.map V.int, m, .int c, rfl, rfl, by rw [g.hK]; exact e2.sq, ?_, q _ (RV.int_iff.mpr rfl)⟩ hs
        unfold L2.atI at e3 ⊢
        rw [List.length_map]
        rw [Option.bind_eq_some_iff] at e3 ⊢
        obtain ⟨j, h1, h2⟩ := e3
        exact ⟨j, h1, by rw [List.getElem?_map, h2]; rfl⟩
      · rw [Option.bind_eq_some_iff] at e
        obtain ⟨xs, e1, e2⟩ := e
        obtain ⟨p, ys, ey, sq, rvs, _⟩ := ra.items R e1
        subst ey
        obtain ⟨w', e3, e4⟩ := RVs.atI rvs e2
        rcases sq with sq | sq
        · exact ix_list value slice pins s σ H _ _ v u Q I rx ry ⟨p, ys, m, w', rfl, rfl, .inl (.inl sq), e3, q _ e4⟩ hs
        · exact ix_tup value slice pins s σ H _ _ v u Q I rx ry ⟨p, ys, m, w', rfl, rfl, by rw [g.hK]; exact sq, e3, q _ e4⟩ hs
    · cases e
theorem e_sub (g : Good N X W k) {a b : Expr} {f h : Ev → Store → Res PV} {pos : Pos} (ha : PE X a (tE N n W f)) (hb : PE X b (tE N n W h)) (hs : PlainIx b) :
    PE X (.Subscript a b pos) (tE N n W fun ps S => (f ps S).bind fun x S1 => (h ps S1).bind fun y S2 => PyI.ofO (getIx x y S2) S2) := by
  refine (pe_ix (pos := pos) (op_ix g) ha hb hs).imp fun σ H Q hq => ?_
  refine read2 hq fun ρ S H2 a b x y R ra rb p => ?_
  obtain ⟨v, e, p⟩ := p.ofO
  exact ⟨ρ, S, a, b, v, R, ra, rb, e, fun z rz => p.ok R rz⟩
/-! ### slices -/
theorem cut_eq {ρ : List Addr} {H : Hp} {xs : List PV} {ys : List V} (r : RVs N ρ H xs ys) (lo hi : Option Int) : RVs N ρ H (cutL xs lo hi) (cutV ys lo hi) := by
  unfold cutL cutV
  rw [r.length]
  exact (r.drop _).take _
theorem cutL_length {α : Type} (xs : List α) (lo hi : Option Int) : (cutL xs lo hi).length ≤ xs.length := by
  unfold cutL
  rw [List.length_take, List.length_drop]
  omega
def rSlP (N : Nm) (n : Nat) (W : WK) : V → Option Int → Option Int → Hp → VK → Prop := fun x lo hi H Q => ∃ ρ S a, Rel N ρ H S ∧ RV N ρ H a x ∧ Post N n (RVl N) W Q ρ S H (PyI.ofO (getSl a lo hi S) S)
theorem op_sl (g : Good N X W k) {Wk : WK} : L2.SlR X (rSlP N n Wk) := by
  intro pins s σ H x v vl vu lo hi sl Q I rx hs pl pu h
  obtain ⟨ρ, S, a, R, ra, p0⟩ := h
  have p1 := p0.ofO
  clear p0
  obtain ⟨z, e, p⟩ := p1
  unfold getSl at e
  split at e
  · cases e
    obtain ⟨e1, hz⟩ := RV.str_iff.mp ra
    subst e1
    rename_i y
    refine sl_str pins s σ H _ v vl vu lo hi sl Q I rx hs pl pu ⟨y, rfl, hz, p.ok R (RV.str_iff.mpr ⟨?_, ?_⟩)⟩
    · have hl : y.cps.toList.length = y.length := by simp [Str.length]
      unfold cutL cutS
      rw [hl]
    · have h1 := cutL_length y.cps.toList lo hi
      have hl : y.cps.toList.length = y.length := by simp [Str.length]
      show (cutL y.cps.toList lo hi).toArray.size ≤ _
      simp only [List.size_toArray]
      omega
  · cases e
    rename_i ns
    simp only [RV] at ra
    obtain ⟨q, e1, e2, hz⟩ := ra
    subst e1
    refine sl_list pins s σ H _ v vl vu lo hi sl Q I rx hs pl pu ⟨q, ns.map V.int, rfl, by rw [g.hK]; exact e2.sq, p.newLst R ?_ ?_⟩
    · have e3 : cutV (ns.map V.int) lo hi = (cutL ns lo hi).map V.int := by unfold cutV cutL; rw [List.map_take, List.map_drop, List.length_map]
      rw [e3]
      have : ∀ ms : List Int, RVs N ρ H (ms.map PV.int) (ms.map V.int) := fun ms => by
        induction ms with
        | nil => simp [RVs]
        | cons m t ih => exact .cons (RV.int_iff.mpr rfl) ih
      exact this _
    · rw [List.length_map]
      exact Nat.le_trans (cutL_length _ _ _) hz
  · cases e
    obtain ⟨q, ys, e1, t, r, hz⟩ := ra.tupT
    have ra' := ra
    subst e1
    rename_i xs
    refine sl_tupA pins s σ H _ v vl vu lo hi sl Q I rx hs pl pu ⟨q, ys, rfl, by rw [g.hK]; exact t, fun e => ?_, fun _ p' hp => ?_⟩
    · have e3 : cutL xs lo hi = xs := by
        unfold cutL
        rw [← r.length] at e
        rw [e.1, e.2, Nat.sub_zero, List.drop_zero, List.take_length]
      rw [e3] at p
      exact p.ok R ra'
    · exact p.newTup R (cut_eq r lo hi) (Nat.le_trans (cutL_length _ _ _) hz) p' hp
  · cases e
    obtain ⟨q, ys, e1, _, t, r, hz⟩ := ra.lstL
    subst e1
    exact sl_list pins s σ H _ v vl vu lo hi sl Q I rx hs pl pu ⟨q, ys, rfl, .inl (.inl t), p.newLst R (cut_eq r lo hi) (Nat.le_trans (cutL_length _ _ _) hz)⟩
  · rename_i l
    split at e
    · rename_i xs hs'
      cases e
      simp only [RV] at ra
      obtain ⟨q, h1, h2⟩ := ra
      subst h2
      obtain ⟨ys, q1, r, hz⟩ := R.obj l _ q hs' h1
      exact sl_list pins s σ H _ v vl vu lo hi sl Q I rx hs pl pu ⟨q, ys, rfl, .inl (.inl q1), p.newLst R (cut_eq r lo hi) (Nat.le_trans (cutL_length _ _ _) hz)⟩
    · cases e
  · cases e
/-- a part of a slice -/
def tP (N : Nm) (n : Nat) (W : WX) (f : Ev → Store → Res PV) : TO := tPart (tE N n W f)
theorem e_slc (g : Good N X W k) {a : Expr} {f : Ev → Store → Res PV} {pos p2 : Pos} {lo hi : Option Expr} {l h : Option Int} {tl th : TO} (ha : PE X a (tE N n W f)) (hl : L2.PO X lo tl) (hh : L2.PO X hi th)
    (el : ∀ σ H Q, Q l H → tl σ H Q) (eh : ∀ σ H Q, Q h H → th σ H Q) : PE X (.Subscript a (.Slice lo hi none p2) pos) (tE N n W fun ps S => (f ps S).bind fun x S1 => PyI.ofO (getSl x l h S1) S1) := by
  refine ⟨fun pins s σ H Q I hq => ?_⟩
  refine (pe_slice (pos := pos) (op_sl (n := n) (Wk := fun c d H => W c d σ H) g) ha hl hh).run pins s σ H Q I ?_
  refine read1 (kk := fun x S1 _ => PyI.ofO (getSl x l h S1) S1) hq fun ρ S H2 a x ps R sl ra p => ?_
  exact el _ _ _ (eh _ _ _ ⟨ρ, S, a, R, ra, p⟩)
theorem Post.intO {α β : Type} {RR : List Addr → Hp → α → β → Prop} {Wk : WK} {Q : β → Hp → Prop} {ρ : List Addr} {S : Store} {H : Hp} {v : PV} {kk : Int → Option α} {x : V} (h : Post N n RR Wk Q ρ S H (PyI.ofO ((intO v).bind kk) S)) (rv : RV N ρ H v x) :
    ∃ i, v = .int i ∧ x = .int i ∧ Post N n RR Wk Q ρ S H (PyI.ofO (kk i) S) := by
  cases v <;> first | exact (show False from h).elim | skip
  rename_i i
  exact ⟨i, rfl, RV.int_iff.mp rv, h⟩
theorem e_sl1 (g : Good N X W k) {a lo : Expr} {f fl : Ev → Store → Res PV} {pos p2 : Pos} (ha : PE X a (tE N n W f)) (hl : PE X lo (tE N n W fl)) :
    PE X (.Subscript a (.Slice (some lo) none none p2) pos) (tE N n W fun ps S => (f ps S).bind fun x S1 => (fl ps S1).bind fun y S2 => PyI.ofO ((intO y).bind fun i => getSl x (some i) none S2) S2) := by
  refine ⟨fun pins s σ H Q I hq => ?_⟩
  refine (pe_slice (pos := pos) (op_sl (n := n) (Wk := fun c d H => W c d σ H) g) ha (po_some hl) po_none).run pins s σ H Q I ?_
  refine read2 (k := fun x y S2 => PyI.ofO ((intO y).bind fun i => getSl x (some i) none S2) S2) hq fun ρ S H2 a b x y R ra rb p => ?_
  obtain ⟨i, e1, e2, p⟩ := p.intO rb
  exact ⟨i, e2, ρ, S, a, R, ra, p⟩
theorem e_sl2 (g : Good N X W k) {a hi : Expr} {f fl : Ev → Store → Res PV} {pos p2 : Pos} (ha : PE X a (tE N n W f)) (hl : PE X hi (tE N n W fl)) :
    PE X (.Subscript a (.Slice none (some hi) none p2) pos) (tE N n W fun ps S => (f ps S).bind fun x S1 => (fl ps S1).bind fun y S2 => PyI.ofO ((intO y).bind fun i => getSl x none (some i) S2) S2) := by
  refine ⟨fun pins s σ H Q I hq => ?_⟩
  refine (pe_slice (pos := pos) (op_sl (n := n) (Wk := fun c d H => W c d σ H) g) ha po_none (po_some hl)).run pins s σ H Q I ?_
  refine read2 (k := fun x y S2 => PyI.ofO ((intO y).bind fun i => getSl x none (some i) S2) S2) hq fun ρ S H2 a b x y R ra rb p => ?_
  obtain ⟨i, e1, e2, p⟩ := p.intO rb
  exact ⟨i, e2, ρ, S, a, R, ra, p⟩
theorem e_sl3 (g : Good N X W k) {a lo hi : Expr} {f fl fh : Ev → Store → Res PV} {pos p2 : Pos} (ha : PE X a (tE N n W f)) (hl : PE X lo (tE N n W fl)) (hh : PE X hi (tE N n W fh)) :
    PE X (.Subscript a (.Slice (some lo) (some hi) none p2) pos) (tE N n W fun ps S => (f ps S).bind fun x S1 => (fl ps S1).bind fun y S2 => (match intO y with
      | some i => (fh ps S2).bind fun z S3 => PyI.ofO ((intO z).bind fun j => getSl x (some i) (some j) S3) S3
      | none => .stuck)) := by
  refine ⟨fun pins s σ H Q I hq => ?_⟩
  refine (pe_slice (pos := pos) (op_sl (n := n) (Wk := fun c d H => W c d σ H) g) ha (po_some hl) (po_some hh)).run pins s σ H Q I ?_
  obtain ⟨ρ, S, ps, R, sl, p⟩ := hq
  refine ⟨ρ, S, ps, R, sl, (Post.bind (R := RVl N) p).mono fun x H1 ⟨ρ1, a, S1, st, ra, p1⟩ => ?_⟩
  refine ⟨ρ1, S1, ps, st.rel, sl.stp st, (Post.bind (R := RVl N) p1).mono fun y H2 ⟨ρ2, b, S2, st2, rb, p2⟩ => ?_⟩
  cases b <;> first | exact (show False from p2).elim | skip
  rename_i i
  refine ⟨i, RV.int_iff.mp rb, ρ2, S2, ps, st2.rel, (sl.stp st).stp st2, (Post.bind (R := RVl N) p2).mono fun z H3 ⟨ρ3, c, S3, st3, rc, p3⟩ => ?_⟩
  obtain ⟨j, e1, e2, p3⟩ := p3.intO rc
  exact ⟨j, e2, ρ3, S3, a, st3.rel, (ra.stp st2).stp st3, p3⟩
end
end PyI
set_option Elab.async false
set_option linter.all false
set_option maxRecDepth 100000
set_option maxHeartbeats 2000000
/-! PyH: built-in functions by their values -/
namespace PyI
open PySem PySem.Spec PyProof.Rows L2
section
variable {N : Nm} {X : Cx} {W : WX} {k : Nat} {n : Nat}
theorem RVs.ints {ρ : List Addr} {H : Hp} : ∀ {ns : List Int} {ys : List V}, RVs N ρ H (ns.map PV.int) ys → ys = ns.map V.int
  | [], ys, h => by simpa [RVs] using h
  | m :: r, ys, h => by
    obtain ⟨y, t, e, h1, h2⟩ := h.cons_inv
    subst e
    rw [RVs.ints h2, RV.int_iff.mp h1]; rfl
theorem RVs.bls {ρ : List Addr} {H : Hp} : ∀ {ns : List Bool} {ys : List V}, RVs N ρ H (ns.map PV.bl) ys → ys = ns.map V.bl
  | [], ys, h => by simpa [RVs] using h
  | m :: r, ys, h => by
    obtain ⟨y, t, e, h1, h2⟩ := h.cons_inv
    subst e
    rw [RVs.bls h2, RV.bl_iff.mp h1]; rfl
theorem RVs.strs {ρ : List Addr} {H : Hp} : ∀ {ns : List Str} {ys : List V}, RVs N ρ H (ns.map PV.str) ys → ys = ns.map V.str ∧ ∀ s ∈ ns, s.length ≤ sizeLine
  | [], ys, h => ⟨by simpa [RVs] using h, fun _ h => by cases h⟩
  | m :: r, ys, h => by
    obtain ⟨y, t, e, h1, h2⟩ := h.cons_inv
    subst e
    obtain ⟨q1, q2⟩ := RVs.strs h2
    obtain ⟨e1, z1⟩ := RV.str_iff.mp h1
    refine ⟨by rw [q1, e1]; rfl, fun s hs => ?_⟩
    rcases List.mem_cons.mp hs with e | hs
    · rw [e]; exact z1
    · exact q2 s hs
theorem RVs.one {ρ : List Addr} {H : Hp} {v : PV} {xs : List V} (h : RVs N ρ H [v] xs) : ∃ x, xs = [x] ∧ RV N ρ H v x := by
  obtain ⟨y, t, e, h1, h2⟩ := h.cons_inv
  rw [RVs.nil_iff] at h2
  subst e; subst h2
  exact ⟨y, rfl, h1⟩
theorem RVs.two {ρ : List Addr} {H : Hp} {v u : PV} {xs : List V} (h : RVs N ρ H [v, u] xs) : ∃ x y, xs = [x, y] ∧ RV N ρ H v x ∧ RV N ρ H u y := by
  obtain ⟨y, t, e, h1, h2⟩ := h.cons_inv
  obtain ⟨x, e2, h3⟩ := h2.one
  subst e; subst e2
  exact ⟨_, _, rfl, h1, h3⟩
/-- sum of a tuple of whole numbers -/
theorem cr_sumT (hc : X.calm = true) : CallR X (.builtin "sum") (fun vs H Q => ∃ (a : Addr) (ns : List Int), vs = [V.ref a] ∧ SqT X.K H a (ns.map V.int) ∧ Q (.int ns.sum) H) := by
  intro pins s σ H vs us Q I r h
  obtain ⟨a, ns, rfl, hs, q⟩ := h
  obtain ⟨its, rv, hl, _⟩ := I.tuple hs
  rw [Vals.ref1 r]
  have hi := rv.ints
  obtain ⟨xs, e⟩ := hi.allInts.items
  have hn : numsOf (intItems xs).toList = ns := by rw [← e]; exact hi.numsOf
  rw [nums_intItems] at hn
  rw [e] at hl
  have ht : s.heap.IsTuple a (intItems xs) := by
    obtain ⟨o, h1, h2, m, h3⟩ := hl
    exact ⟨o, h1, h2, m, h3⟩
  refine PySem.W.ktm_sumG (I.ok.hd hc) ht fun h' tk t' hk => ?_
  rw [preSum_eq, List.take_of_length_le (by simp), hn]
  exact ⟨.int _, H, I.kept hk, ⟨_, rfl⟩, q⟩
theorem foldl_min : ∀ (r : List Int) (x : Int), (∀ y ∈ x :: r, r.foldl (fun a b => if b < a then b else a) x ≤ y) ∧ r.foldl (fun a b => if b < a then b else a) x ∈ x :: r
  | [], x => ⟨fun y hy => by simp at hy; subst hy; exact Int.le_refl _, by simp⟩
  | z :: r, x => by
    obtain ⟨h1, h2⟩ := foldl_min r (if z < x then z else x)
    rw [List.foldl_cons]
    generalize r.foldl (fun a b => if b < a then b else a) (if z < x then z else x) = M at h1 h2 ⊢
    refine ⟨fun y hy => ?_, ?_⟩
    · have hm := h1 (if z < x then z else x) (by simp)
      rcases List.mem_cons.mp hy with e | hy
      · subst e; split at hm <;> omega
      · rcases List.mem_cons.mp hy with e | hy
        · subst e; split at hm <;> omega
        · exact h1 y (by simp [hy])
    · rcases List.mem_cons.mp h2 with e | h2
      · rw [e]; split <;> simp
      · simp [h2]
theorem foldl_max : ∀ (r : List Int) (x : Int), (∀ y ∈ x :: r, y ≤ r.foldl (fun a b => if a < b then b else a) x) ∧ r.foldl (fun a b => if a < b then b else a) x ∈ x :: r
  | [], x => ⟨fun y hy => by simp at hy; subst hy; exact Int.le_refl _, by simp⟩
  | z :: r, x => by
    obtain ⟨h1, h2⟩ := foldl_max r (if x < z then z else x)
    rw [List.foldl_cons]
    generalize r.foldl (fun a b => if a < b then b else a) (if x < z then z else x) = M at h1 h2 ⊢
    refine ⟨fun y hy => ?_, ?_⟩
    · have hm := h1 (if x < z then z else x) (by simp)
      rcases List.mem_cons.mp hy with e | hy
      · subst e; split at hm <;> omega
      · rcases List.mem_cons.mp hy with e | hy
        · subst e; split at hm <;> omega
        · exact h1 y (by simp [hy])
    · rcases List.mem_cons.mp h2 with e | h2
      · rw [e]; split <;> simp
      · simp [h2]
theorem minI_eq {ns : List Int} {m i : Int} (h : minI ns = some m) (h1 : i ∈ ns) (h2 : ∀ y ∈ ns, i ≤ y) : i = m := by
  cases ns with
  | nil => cases h
  | cons x r =>
    simp only [minI, Option.some.injEq] at h
    obtain ⟨q1, q2⟩ := foldl_min r x
    rw [h] at q1 q2
    have := q1 i h1
    have := h2 m q2
    omega
theorem maxI_eq {ns : List Int} {m i : Int} (h : maxI ns = some m) (h1 : i ∈ ns) (h2 : ∀ y ∈ ns, y ≤ i) : i = m := by
  cases ns with
  | nil => cases h
  | cons x r =>
    simp only [maxI, Option.some.injEq] at h
    obtain ⟨q1, q2⟩ := foldl_max r x
    rw [h] at q1 q2
    have := q1 i h1
    have := h2 m q2
    omega
mutual
theorem Dp.noD {K : PySem.W.Frag} {H : Hp} : ∀ (d : PyData) {v : V}, Dp K H v d → d.hasDict = false
  | .none, _, _ | .bool _, _, _ | .int _, _, _ | .str _, _, _ => by simp [PyData.hasDict]
  | .list ds, _, h => by
    cases h with
    | lst _ ha => rw [PyData.hasDict]; exact DpAll.noD ds ha
  | .tuple ds, _, h => by
    cases h with
    | tup _ ha => rw [PyData.hasDict]; exact DpAll.noD ds ha
  | .dict _, _, h => by cases h
theorem DpAll.noD {K : PySem.W.Frag} {H : Hp} : ∀ (ds : List PyData) {vs : List V}, DpAll K H vs ds → PyData.hasDictAll ds = false
  | [], _, _ => by simp [PyData.hasDictAll]
  | d :: ds, _, h => by
    cases h with
    | cons h1 h2 => rw [PyData.hasDictAll, Dp.noD d h1, DpAll.noD ds h2]; rfl
end
/-- repr of plain data -/
theorem cr_repr (g : Good N X W k) : CallR X (.builtin "repr") (fun vs H Q => ∃ x d, vs = [x] ∧ Dp X.K H x d ∧ PyData.showable d = true ∧ (PyData.shown d).length ≤ sizeLine ∧ PyData.depth d < 60 ∧ Q (.str (PyData.shown d)) H) := by
  intro pins s σ H vs us Q I r h
  obtain ⟨x, d, rfl, dp, h1, h2, h3, q⟩ := h
  obtain ⟨u, rfl, rx⟩ := vals1 r
  cases dp with
  | non => cases rx; exact PySem.P.repr_of_none ⟨.str _, H, I.tok _, ⟨_, rfl⟩, q⟩
  | bl b => cases rx; exact PySem.P.repr_of_bool ⟨.str _, H, I.tok _, ⟨_, rfl⟩, q⟩
  | int i =>
    obtain ⟨t, rfl⟩ := rx
    exact PySem.P.repr_of_int (of_decide_eq_true (by simpa [PyData.showable] using h1)) ⟨.str _, H, I.tok _, ⟨_, rfl⟩, q⟩
  | str z =>
    obtain ⟨t, rfl⟩ := rx
    exact PySem.P.repr_of_str ⟨.str _, H, I.tok _, ⟨_, rfl⟩, q⟩ h2
  | @lst a xs ds hs ha =>
    have dp : Dp X.K H (.ref a) (.list ds) := .lst hs ha
    obtain ⟨as, rd⟩ := Dp.reads I _ _ _ dp rx
    cases rx
    exact repr_of_reads' rd h1 (fun h => by rw [Dp.noD _ dp] at h; cases h) g.guards (by have := g.room.un; omega) (fun _ _ e => e) (fun h' u tk hk => ⟨.str _, H, I.kept hk, ⟨_, rfl⟩, q⟩) h2
  | @tup a xs ds hs ha =>
    have dp : Dp X.K H (.ref a) (.tuple ds) := .tup hs ha
    obtain ⟨as, rd⟩ := Dp.reads I _ _ _ dp rx
    cases rx
    exact repr_of_reads' rd h1 (fun h => by rw [Dp.noD _ dp] at h; cases h) g.guards (by have := g.room.un; omega) (fun _ _ e => e) (fun h' u tk hk => ⟨.str _, H, I.kept hk, ⟨_, rfl⟩, q⟩) h2
/-! ### all of them -/
def bvOf : BF → Value
  | .len => .builtin "len"
  | .tuple => .type "tuple"
  | .list => .type "list"
  | .all => .builtin "all"
  | .any => .builtin "any"
  | .sum => .builtin "sum"
  | .min => .builtin "min"
  | .max => .builtin "max"
  | .abs => .builtin "abs"
  | .int => .type "int"
  | .str => .type "str"
  | .repr => .builtin "repr"
  | .bool => .type "bool"
  | .sorted => .builtin "sorted"
  | .divmod => .builtin "divmod"
  | .dict => .type "dict"
def PV.scal : PV → Bool
  | .lst _ => false
  | .dct _ _ => false
  | _ => true
theorem mkV_scal {fr : Bool} {v : PV} {S : Store} (h : v.scal = true) : mkV fr v S = .ok v S := by
  cases fr
  · cases v <;> first | rfl | cases h
  · rfl
theorem lstOf_eq {v : PV} {S : Store} {xs : List PV} (h : lstOf v S = some xs) : isLst v = true ∧ itemsOf v S = some xs := by
  unfold lstOf at h
  split at h
  · rename_i e; exact ⟨e, h⟩
  · cases h
theorem lst_ints {ρ : List Addr} {S : Store} {H : Hp} {v : PV} {x : V} {xs : List PV} {ns : List Int} (R : Rel N ρ H S) (rv : RV N ρ H v x) (e1 : lstOf v S = some xs) (e2 : asInts xs = some ns) : ∃ a, x = .ref a ∧ SqL X.K H a (ns.map V.int) := by
  obtain ⟨l, e⟩ := lstOf_eq e1
  obtain ⟨a, ys, ex, hh, rs⟩ := RV.isList R rv e l
  rw [asInts_eq e2] at rs
  rw [RVs.ints rs] at hh
  exact ⟨a, ex, .inl (.inl hh)⟩
theorem lst_bls {ρ : List Addr} {S : Store} {H : Hp} {v : PV} {x : V} {xs : List PV} {ns : List Bool} (R : Rel N ρ H S) (rv : RV N ρ H v x) (e1 : lstOf v S = some xs) (e2 : asBls xs = some ns) : ∃ a, x = .ref a ∧ SqL X.K H a (ns.map V.bl) := by
  obtain ⟨l, e⟩ := lstOf_eq e1
  obtain ⟨a, ys, ex, hh, rs⟩ := RV.isList R rv e l
  rw [asBls_eq e2] at rs
  rw [RVs.bls rs] at hh
  exact ⟨a, ex, .inl (.inl hh)⟩
theorem minI_some {ns : List Int} {m : Int} (h : minI ns = some m) : 0 < ns.length := by
  cases ns with
  | nil => cases h
  | cons _ _ => simp
theorem maxI_some {ns : List Int} {m : Int} (h : maxI ns = some m) : 0 < ns.length := by
  cases ns with
  | nil => cases h
  | cons _ _ => simp
def rBfD (N : Nm) (n : Nat) (W : WK) (f : BF) (fr : Bool) : List V → Hp → VK → Prop := fun xs H Q => ∃ ρ S vs r, Rel N ρ H S ∧ RVs N ρ H vs xs ∧ bfun f vs S = some r ∧ Post N n (RVl N) W Q ρ S H (mkV fr r S)
theorem call_len_dT' {X : Cx} : CallR X (.builtin "len") (fun xs H Q => ∃ (p : Addr) (kvs : List (List Key × V)), xs = [.ref p] ∧ Rd H p (.dT kvs) ∧ Q (.int ((kvs.length : Nat) : Int)) H) := by
  intro pins s σ H xs us Q I r h
  obtain ⟨p, kvs, rfl, hp, q⟩ := h
  obtain ⟨u, rfl, rx⟩ := vals1 r
  obtain rfl : u = .ref p := rx
  obtain ⟨z, hd, ys, rel, dd⟩ := dt_rd I.hok hp
  have hl : kvs.length = ys.length := Paired.length rel
  refine PySem.call_len_dictH hd dd (by rw [← hl]; rw [sizeLine_eq] at z; omega) ?_
  rw [← hl]
  exact ⟨.int ((kvs.length : Nat) : Int), H, I.tok _, ⟨_, rfl⟩, q⟩
theorem cr_data (g : Good N X W k) {Wk : WK} (f : BF) (fr : Bool) : CallR X (bvOf f) (rBfD N n Wk f fr) := by
  intro pins s σ H xs us Q I r h
  obtain ⟨ρ, S, vs, rr, R, rs, e, p⟩ := h
  unfold bfun at e
  split at e
  · -- len
    rename_i v
    obtain ⟨x, ex, rv⟩ := rs.one
    subst ex
    rw [Option.map_eq_some_iff] at e
    obtain ⟨m, e, e2⟩ := e
    subst e2
    rw [mkV_scal rfl] at p
    have q := p.ok R (RV.int_iff.mpr rfl)
    unfold lenOf at e
    split at e
    · cases e
      obtain ⟨e1, hz⟩ := RV.str_iff.mp rv
      subst e1
      exact call_len_str pins s σ H _ us Q I r ⟨_, rfl, hz, q⟩
    · cases e
      simp only [RV] at rv
      obtain ⟨a, e1, e2, hz⟩ := rv
      subst e1
      refine call_len_seq pins s σ H _ us Q I r ⟨a, _, rfl, .inl (by rw [g.hK]; exact e2.sq), ?_⟩
      rw [List.length_map]; exact q
    · split at e
      · rename_i ks vs' hd
        cases e
        obtain ⟨a, ys, o, ex, d, rd, rvs, h0⟩ := rv.dict R hd
        subst ex
        cases d with
        | k kvs h1 h2 _ _ _ =>
          obtain ⟨u, eu, ru⟩ := vals1 r
          subst eu
          cases ru
          refine d_len I rd fun t s' I' => ⟨.int _, H, I', ⟨_, rfl⟩, ?_⟩
          rw [h1, List.length_map] at q
          exact q
        | t kvs h1 h2 _ _ _ h6 =>
          rw [h1, List.length_map] at q
          exact call_len_dT' pins s σ H _ us Q I r ⟨a, kvs, rfl, rd, q⟩
      · rw [Option.map_eq_some_iff] at e
        obtain ⟨zs, e, e2⟩ := e
        obtain ⟨a, ys, ex, sq, rvs, hz⟩ := rv.items R e
        subst ex
        refine call_len_seq pins s σ H _ us Q I r ⟨a, ys, rfl, by rw [g.hK]; exact sqOr sq, ?_⟩
        rw [← rvs.length, e2]; exact q
  · -- tuple
    rename_i v
    obtain ⟨x, ex, rv⟩ := rs.one
    subst ex
    rw [Option.map_eq_some_iff] at e
    obtain ⟨zs, e, e2⟩ := e
    subst e2
    rw [mkV_scal rfl] at p
    obtain ⟨a, ys, ex, sq, rvs, hz⟩ := rv.items R e
    subst ex
    cases hl : isLst v with
    | true =>
      obtain ⟨b, ws, e1, hh, rs'⟩ := RV.isList R rv e hl
      cases e1
      exact call_tuple_of pins s σ H _ us Q I r ⟨a, ws, rfl, .inl ⟨.inl (.inl hh), p.newTup R rs' hz⟩⟩
    | false =>
      refine call_tuple_of pins s σ H _ us Q I r ⟨a, ys, rfl, ?_⟩
      have e0 := e
      unfold itemsOf at e
      split at e
      · cases e
        rcases sq with sq | sq
        · obtain ⟨b, ws, e1, hh⟩ := RV.isTup rv e0 hl
          cases e1
          rw [hh] at sq; cases sq
        · exact .inr ⟨by rw [g.hK]; exact sq, p.ok R rv⟩
      · cases hl
      · cases hl
      · cases e
  · -- list
    rename_i v
    obtain ⟨x, ex, rv⟩ := rs.one
    subst ex
    rw [Option.map_eq_some_iff] at e
    obtain ⟨zs, e, e2⟩ := e
    subst e2
    obtain ⟨a, ys, ex, sq, rvs, hz⟩ := rv.items R e
    subst ex
    exact call_list_of pins s σ H _ us Q I r ⟨a, ys, rfl, by rw [g.hK]; exact sqOr sq, Post.newL (fr := fr) p R rvs hz⟩
  · -- all
    obtain ⟨x, ex, rv⟩ := rs.one
    subst ex
    rw [Option.bind_eq_some_iff] at e
    obtain ⟨zs, e, e2⟩ := e
    rw [Option.map_eq_some_iff] at e2
    obtain ⟨bs, e2, e3⟩ := e2
    subst e3
    rw [mkV_scal rfl] at p
    obtain ⟨a, ex, sq⟩ := lst_bls (X := X) R rv e e2
    subst ex
    exact cr_all g.calm pins s σ H _ us Q I r ⟨a, bs, rfl, sq, p.ok R (RV.bl_iff.mpr rfl)⟩
  · -- any
    obtain ⟨x, ex, rv⟩ := rs.one
    subst ex
    rw [Option.bind_eq_some_iff] at e
    obtain ⟨zs, e, e2⟩ := e
    rw [Option.map_eq_some_iff] at e2
    obtain ⟨bs, e2, e3⟩ := e2
    subst e3
    rw [mkV_scal rfl] at p
    obtain ⟨a, ex, sq⟩ := lst_bls (X := X) R rv e e2
    subst ex
    exact cr_any g.calm pins s σ H _ us Q I r ⟨a, bs, rfl, sq, p.ok R (RV.bl_iff.mpr rfl)⟩
  · -- sum
    obtain ⟨x, ex, rv⟩ := rs.one
    subst ex
    rw [Option.bind_eq_some_iff] at e
    obtain ⟨zs, e, e2⟩ := e
    rw [Option.map_eq_some_iff] at e2
    obtain ⟨ns, e2, e3⟩ := e2
    subst e3
    rw [mkV_scal rfl] at p
    have q := p.ok R (RV.int_iff.mpr rfl)
    obtain ⟨a, ys, ex, sq, rvs, hz⟩ := rv.items R e
    subst ex
    rw [asInts_eq e2] at rvs
    rw [RVs.ints rvs] at sq
    rcases sq with sq | sq
    · exact cr_sum g.calm pins s σ H _ us Q I r ⟨a, ns, rfl, .inl (.inl sq), q⟩
    · exact cr_sumT g.calm pins s σ H _ us Q I r ⟨a, ns, rfl, by rw [g.hK]; exact sq, q⟩
  · -- min
    obtain ⟨x, ex, rv⟩ := rs.one
    subst ex
    rw [Option.bind_eq_some_iff] at e
    obtain ⟨zs, e, e2⟩ := e
    rw [Option.bind_eq_some_iff] at e2
    obtain ⟨ns, e2, e3⟩ := e2
    rw [Option.map_eq_some_iff] at e3
    obtain ⟨m, e3, e4⟩ := e3
    subst e4
    rw [mkV_scal rfl] at p
    obtain ⟨a, ex, sq⟩ := lst_ints (X := X) R rv e e2
    subst ex
    exact cr_min g.calm pins s σ H _ us Q I r ⟨a, ns, rfl, sq, minI_some e3, fun i h1 h2 => by rw [minI_eq e3 h1 h2]; exact p.ok R (RV.int_iff.mpr rfl)⟩
  · -- max
    obtain ⟨x, ex, rv⟩ := rs.one
    subst ex
    rw [Option.bind_eq_some_iff] at e
    obtain ⟨zs, e, e2⟩ := e
    rw [Option.bind_eq_some_iff] at e2
    obtain ⟨ns, e2, e3⟩ := e2
    rw [Option.map_eq_some_iff] at e3
    obtain ⟨m, e3, e4⟩ := e3
    subst e4
    rw [mkV_scal rfl] at p
    obtain ⟨a, ex, sq⟩ := lst_ints (X := X) R rv e e2
    subst ex
    exact cr_max g.calm pins s σ H _ us Q I r ⟨a, ns, rfl, sq, maxI_some e3, fun i h1 h2 => by rw [maxI_eq e3 h1 h2]; exact p.ok R (RV.int_iff.mpr rfl)⟩
  · obtain ⟨x, y, ex, r1, r2⟩ := rs.two
    subst ex
    cases RV.int_iff.mp r1; cases RV.int_iff.mp r2
    cases e
    rw [mkV_scal rfl] at p
    exact call_min2 g.calm pins s σ H _ us Q I r ⟨_, _, rfl, p.ok R (RV.int_iff.mpr rfl)⟩
  · obtain ⟨x, y, ex, r1, r2⟩ := rs.two
    subst ex
    cases RV.int_iff.mp r1; cases RV.int_iff.mp r2
    cases e
    rw [mkV_scal rfl] at p
    exact call_max2 g.calm pins s σ H _ us Q I r ⟨_, _, rfl, p.ok R (RV.int_iff.mpr rfl)⟩
  · obtain ⟨x, ex, rv⟩ := rs.one
    subst ex
    cases RV.int_iff.mp rv
    cases e
    rw [mkV_scal rfl] at p
    exact call_abs pins s σ H _ us Q I r ⟨_, rfl, p.ok R (RV.int_iff.mpr rfl)⟩
  · obtain ⟨x, ex, rv⟩ := rs.one
    subst ex
    cases RV.int_iff.mp rv
    cases e
    rw [mkV_scal rfl] at p
    exact call_int1 pins s σ H _ us Q I r (.inl ⟨_, rfl, p.ok R (RV.int_iff.mpr rfl)⟩)
  · obtain ⟨x, ex, rv⟩ := rs.one
    subst ex
    cases RV.bl_iff.mp rv
    cases e
    rw [mkV_scal rfl] at p
    exact call_int1 pins s σ H _ us Q I r (.inr ⟨_, rfl, p.ok R (RV.int_iff.mpr rfl)⟩)
  · obtain ⟨x, ex, rv⟩ := rs.one
    subst ex
    cases RV.int_iff.mp rv
    cases e
    rw [mkV_scal rfl] at p
    exact call_bool1 pins s σ H _ us Q I r (.inl ⟨_, rfl, p.ok R (RV.bl_iff.mpr rfl)⟩)
  · obtain ⟨x, ex, rv⟩ := rs.one
    subst ex
    cases RV.bl_iff.mp rv
    cases e
    rw [mkV_scal rfl] at p
    exact call_bool1 pins s σ H _ us Q I r (.inr ⟨_, rfl, p.ok R (RV.bl_iff.mpr rfl)⟩)
  · obtain ⟨x, ex, rv⟩ := rs.one
    subst ex
    cases RV.int_iff.mp rv
    split at e
    · rename_i hs
      cases e
      rw [mkV_scal rfl] at p
      have hs' := of_decide_eq_true hs
      exact call_str_int pins s σ H _ us Q I r ⟨_, rfl, hs', p.ok R (RV.str_iff.mpr ⟨rfl, int_text_fits hs'⟩)⟩
    · cases e
  · obtain ⟨x, ex, rv⟩ := rs.one
    subst ex
    rw [Option.bind_eq_some_iff] at e
    obtain ⟨d, e, e2⟩ := e
    split at e2
    · rename_i hs
      cases e2
      rw [mkV_scal rfl] at p
      simp only [Bool.and_eq_true, decide_eq_true_eq] at hs
      exact cr_repr g pins s σ H _ us Q I r ⟨_, d, rfl, by rw [g.hK]; exact RV.toDS R rv e, hs.1.1, hs.1.2, hs.2, p.ok R (RV.str_iff.mpr ⟨rfl, hs.1.2⟩)⟩
    · cases e2
  · obtain ⟨x, y, ex, r1, r2⟩ := rs.two
    subst ex
    cases RV.int_iff.mp r1; cases RV.int_iff.mp r2
    split at e
    · rename_i hs
      cases e
      rw [mkV_scal rfl] at p
      exact call_divmod pins s σ H _ us Q I r ⟨_, _, rfl, hs, p.newTup R (.cons (RV.int_iff.mpr rfl) (.cons (RV.int_iff.mpr rfl) (by simp [RVs]))) (by rw [sizeLine_eq]; simp)⟩
    · cases e
  · cases e
end
end PyI
set_option Elab.async false
set_option linter.all false
set_option maxRecDepth 100000
set_option maxHeartbeats 2000000
/-! PyJ: calls of built-ins, methods, displays -/
namespace PyI
open PySem PySem.Spec PyProof.Rows L2
section
variable {N : Nm} {X : Cx} {W : WX} {k : Nat} {n : Nat} {G : Tab} {call : Nat → Nat → List PV → Store → Res PV}
/-! ### built-in functions -/
theorem RV.insO {ρ : List Addr} {S : Store} {H : Hp} (R : Rel N ρ H S) {v : PV} {x : V} {c : Nat} {fs : List Nat} {vs : List PV} (h : RV N ρ H v x) (e : insOf v S = some (c, fs, vs)) :
    ∃ a dx ys, x = .ref a ∧ H a = some (.ins (N.ca c) dx ((fs.map N.fld).zip ys)) ∧ RVs N ρ H vs ys ∧ fs.length = vs.length ∧ ∀ i ∈ fs, i < N.nf := by
  unfold insOf at e
  split at e
  · cases e
    simp only [RV] at h
    obtain ⟨a, dx, ys, e1, _, h1, h2, h3, h4⟩ := h
    exact ⟨a, dx, ys, e1, h1, h2, h3, h4⟩
  · split at e
    · rename_i l _ _ _ hs
      cases e
      simp only [RV] at h
      obtain ⟨a, h1, h2⟩ := h
      obtain ⟨dx, ys, q1, q2, q3, q4⟩ := R.obj _ _ a hs h1
      exact ⟨a, dx, ys, h2, q1, q2, q3, q4⟩
    · cases e
  · cases e
/-- of an own object: its class's method -/
def ownF (kd : ClsDef) : BF → Option Nat
  | .str => kd.strm
  | .repr => kd.reprm
  | .len => kd.lenm
  | _ => none
def rOwnF (G : Tab) (call : Nat → Nat → List PV → Store → Res PV) (N : Nm) (n : Nat) (W : WK) (f : BF) : List V → Hp → VK → Prop := fun xs H Q => ∃ ρ S v c fs vs kd m x, xs = [x] ∧ Rel N ρ H S ∧ RV N ρ H v x ∧ insOf v S = some (c, fs, vs) ∧ G.cls[c]? = some kd ∧ ownF kd f = some m ∧ Post N n (RVl N) W Q ρ S H (call m S.length [v] S).strO
def OwnOk (G : Tab) (call : Nat → Nat → List PV → Store → Res PV) (N : Nm) (n : Nat) (X : Cx) (W : WX) (f : BF) : Prop := ∀ σ : L2.St, CallR X (bvOf f) (rOwnF G call N n (fun c d H => W c d σ H) f)
theorem own_no {f : BF} (h : ∀ kd, ownF kd f = none) : OwnOk G call N n X W f := fun σ pins s σ' H xs us Q I r q => by
  obtain ⟨_, _, _, _, _, _, kd, _, _, _, _, _, _, _, e, _⟩ := q
  rw [h kd] at e; cases e
def rBfR (G : Tab) (call : Nat → Nat → List PV → Store → Res PV) (N : Nm) (n : Nat) (W : WK) (f : BF) (fr : Bool) : List V → Hp → VK → Prop := fun xs H Q => ∃ ρ S vs, Rel N ρ H S ∧ RVs N ρ H vs xs ∧ Post N n (RVl N) W Q ρ S H (bfunR G call f fr vs S)
/-- pairs of a list -/
theorem asPairs_rel {ρ : List Addr} {H : Hp} : ∀ {xs : List PV} {prs : List (DKey × PV)} {ys : List V}, asPairs xs = some prs → prs.all (fun p => !p.1.isT) = true → RVs N ρ H xs ys →
    ∃ (ps : List Addr) (kvs : List (Key × V)), ys = ps.map V.ref ∧ Paired (fun p kv => SqT N.K H p [kV kv.1, kv.2]) ps kvs ∧ prs.map (·.1) = kvs.map (fun p => dk1 p.1) ∧ RVs N ρ H (prs.map (·.2)) (kvs.map (·.2)) ∧ (∀ p ∈ kvs, (dk1 p.1).okL)
  | [], prs, ys, e, _, h => by
    simp [asPairs] at e; subst e
    rw [RVs.nil_iff] at h; subst h
    exact ⟨[], [], rfl, .nil, rfl, by simp [RVs], fun _ h => by cases h⟩
  | x :: r, prs, ys, e, ha, h => by
    unfold asPairs at e
    split at e
    · cases ‹x :: r = []›
    · rename_i k v r' ee
      cases ee
      rw [Option.bind_eq_some_iff] at e
      obtain ⟨q, e1, e2⟩ := e
      rw [Option.map_eq_some_iff] at e2
      obtain ⟨prs', e3, e4⟩ := e2
      subst e4
      rw [List.all_cons, Bool.and_eq_true] at ha
      obtain ⟨y, t, ey, h1, h2⟩ := h.cons_inv
      subst ey
      obtain ⟨ps, kvs, q1, q2, q3, q4, q5⟩ := asPairs_rel e3 ha.2 h2
      obtain ⟨a, zs, ea, sq, rz, _⟩ := h1.tupT
      obtain ⟨z1, z2, ez, r1, r2⟩ := rz.two
      rw [key_pv e1] at r1
      have hT : q.isT = false := by simpa using ha.1
      rcases r1.asKey with ⟨w, e5, e6⟩ | ⟨w, b, e5, _⟩
      · subst e5; subst e6; subst ea; subst ez
        refine ⟨a :: ps, (w, z2) :: kvs, by rw [q1]; rfl, .cons sq q2, by simp [q3], .cons r2 q4, fun p hp => ?_⟩
        rcases List.mem_cons.mp hp with e | hp
        · rw [e]
          cases w with
          | inl i => exact True.intro
          | inr s =>
            simp only [dk1, DKey.pv] at r1
            exact (RV.str_iff.mp r1).2
        · exact q5 p hp
      · subst e5; cases hT
    · cases e
theorem putK_fst {κ α : Type} [DecidableEq κ] (kvs : List (κ × α)) : (kvs.map fun p => (p.1, p.2)) = kvs := by simp
/-- merging, both ways -/
theorem merge_rel {ρ : List Addr} {H : Hp} : ∀ {prs : List (DKey × PV)} {kvs : List (Key × V)} {ks : List DKey} {vs : List PV} {acc : List (Key × V)}, prs.map (·.1) = kvs.map (fun p => dk1 p.1) → RVs N ρ H (prs.map (·.2)) (kvs.map (·.2)) → (∀ p ∈ kvs, (dk1 p.1).okL) →
    ks = acc.map (fun p => dk1 p.1) → RVs N ρ H vs (acc.map (·.2)) → ks.Nodup → (∀ k ∈ ks, k.okL) →
    (mergeD prs ks vs).1 = (mergeK acc kvs).map (fun p => dk1 p.1) ∧ RVs N ρ H (mergeD prs ks vs).2 ((mergeK acc kvs).map (·.2)) ∧ (mergeD prs ks vs).1.Nodup ∧ (∀ k ∈ (mergeD prs ks vs).1, k.okL)
  | [], kvs, ks, vs, acc, e1, r1, o1, e2, r2, nd, o2 => by
    cases kvs with
    | cons _ _ => cases e1
    | nil => exact ⟨e2, r2, nd, o2⟩
  | (k, v) :: prs, kvs, ks, vs, acc, e1, r1, o1, e2, r2, nd, o2 => by
    cases kvs with
    | nil => cases e1
    | cons p kvs =>
      simp only [List.map_cons, List.cons.injEq] at e1
      obtain ⟨e1, e1'⟩ := e1
      simp only [List.map_cons] at r1
      obtain ⟨y, t, ey, ra, rb⟩ := r1.cons_inv
      simp only [List.cons.injEq] at ey
      obtain ⟨ey1, ey2⟩ := ey
      have hnd : (acc.map (·.1)).Nodup := nodup_fst dk1 (by rw [← e2]; exact nd)
      obtain ⟨q1, q2⟩ := putK_keys dk1 (fun _ _ => dk1_inj) p.1 p.2 acc hnd
      show (mergeD prs (putKs ks k) (putVs ks vs k v)).1 = (mergeK (putK acc p.1 p.2) kvs).map _ ∧ _
      refine merge_rel (prs := prs) (kvs := kvs) e1' (by rw [ey2]; exact rb) (fun z hz => o1 z (List.mem_cons_of_mem _ hz)) ?_ ?_ (putKs_nodup nd) ?_
      · rw [q1, e2, e1]
      · rw [q2, ← e2, ← e1]
        have := RVs.putVs (ks := ks) (k := k) r2 (show RV N ρ H v p.2 by rw [ey1]; exact ra)
        rw [e1]; rw [e1] at this
        exact this
      · intro z hz
        rcases putKs_mem hz with h | h
        · exact o2 z h
        · rw [h, e1]; exact o1 p (by simp)
/-- a new dict -/
theorem Post.newD {W' : WK} {Q : VK} {fr : Bool} {ρ : List Addr} {S : Store} {H : Hp} {ks : List DKey} {vs : List PV} {ys : List V} {o : HO} (h : Post N n (RVl N) W' Q ρ S H (mkD fr ks vs S)) (R : Rel N ρ H S) (d : DC ks ys o) (hr : RVs N ρ H vs ys) : ∀ p, H p = none → Q (.ref p) (upd H p o) := by
  cases fr with
  | true =>
    intro p hp
    have st := Stp.laid (n := n) R (u := o) hp
    refine h ρ _ _ st ?_
    simp only [RV]
    exact ⟨p, ys, o, rfl, R.fresh hp, d, .inl upd_same, hr.stp st, fun _ => upd_same⟩
  | false =>
    intro p hp
    have st : Stp N n ρ S H (ρ ++ [p]) (S ++ [.dct ks vs]) (upd H p o) := by
      refine Stp.alloc R hp ⟨ys, o, d, upd_same, RVs.stay ⟨List.prefix_append _ _, fun a ha => ?_, fun a w h _ => .inl (by rw [upd_ne (ne_of_none h hp)]; exact h)⟩ hr⟩ (fun _ _ e => by cases e)
      rcases List.mem_append.mp ha with h | h
      · exact .inl h
      · simp at h; subst h; exact .inr hp
    refine h _ _ _ st ?_
    simp only [RV]
    exact ⟨p, by rw [← R.len]; simp, rfl⟩
theorem bfun_str_scal {v z : PV} {S : Store} (e : bfun .str [v] S = some z) : z.scal = true := by
  cases v <;> simp [bfun] at e
  obtain ⟨_, e⟩ := e
  subst e; rfl
theorem cr_bfR (g : Good N X W k) {σ0 : L2.St} (f : BF) (fr : Bool) (own : OwnOk G call N n X W f) : CallR X (bvOf f) (rBfR G call N n (fun c d H => W c d σ0 H) f fr) := by
  intro pins s σ H xs us Q I r h
  obtain ⟨ρ, S, vs, R, rs, p⟩ := h
  have ow : ∀ {v : PV} {c : Nat} {fs : List Nat} {ws : List PV} {m : Nat}, insOf v S = some (c, fs, ws) → (G.cls[c]?).bind (fun kd => ownF kd f) = some m → vs = [v] → Post N n (RVl N) (fun c d H => W c d σ0 H) Q ρ S H (call m S.length [v] S).strO →
      wpAny (model X.prog X.w) X.A (PySem.call (bvOf f) us) (EP X pins σ Q) X.xe s := by
    intro v c fs ws m e1 e2 e3 p'
    subst e3
    rw [Option.bind_eq_some_iff] at e2
    obtain ⟨kd, e2, e3⟩ := e2
    obtain ⟨x, ex, rv⟩ := rs.one
    exact own σ0 pins s σ H xs us Q I r ⟨ρ, S, v, c, fs, ws, kd, m, x, ex, R, rv, e1, e2, e3, p'⟩
  unfold bfunR at p
  split at p
  · split at p
    · obtain ⟨x, ex, rv⟩ := rs.one
      subst ex
      obtain ⟨e1, hz⟩ := RV.str_iff.mp rv
      subst e1
      exact SkE.call_str_str pins s σ H _ us Q I r ⟨_, rfl, p.ok R rv⟩
    · split at p
      · rename_i e1
        split at p
        · rename_i e2
          exact ow e1 e2 rfl p
        · exact p.elim
      · obtain ⟨z, e, p⟩ := p.ofO
        refine cr_data g (Wk := fun c d H => W c d σ0 H) (n := n) .str fr pins s σ H xs us Q I r ⟨ρ, S, _, z, R, rs, e, ?_⟩
        rw [mkV_scal (bfun_str_scal e)]; exact p
  · split at p
    · rename_i e1
      split at p
      · rename_i e2
        exact ow e1 e2 rfl p
      · exact p.elim
    · obtain ⟨z, e, p⟩ := p.ofO
      refine cr_data g (Wk := fun c d H => W c d σ0 H) (n := n) .repr fr pins s σ H xs us Q I r ⟨ρ, S, _, z, R, rs, e, ?_⟩
      have : z.scal = true := by
        simp only [bfun, Option.bind_eq_some_iff] at e
        obtain ⟨d, _, e⟩ := e
        split at e <;> cases e
        rfl
      rw [mkV_scal this]; exact p
  · split at p
    · rename_i e1
      split at p
      · rename_i e2
        exact ow e1 e2 rfl p
      · exact p.elim
    · obtain ⟨z, e, p⟩ := p.ofO
      refine cr_data g (Wk := fun c d H => W c d σ0 H) (n := n) .len fr pins s σ H xs us Q I r ⟨ρ, S, _, z, R, rs, e, ?_⟩
      have : z.scal = true := by
        simp only [bfun, Option.map_eq_some_iff] at e
        obtain ⟨d, _, e⟩ := e
        subst e
        rfl
      rw [mkV_scal this]; exact p
  · rename_i v
    split at p
    · rename_i xs' e1
      split at p
      · rename_i prs e2
        split at p
        · rename_i ha
          obtain ⟨x, ex, rv⟩ := rs.one
          subst ex
          obtain ⟨hl, e1⟩ := lstOf_eq e1
          obtain ⟨a, ys, e3, hh, rys⟩ := RV.isList R rv e1 hl
          subst e3
          obtain ⟨ps, kvs, q1, q2, q3, q4, q5⟩ := asPairs_rel e2 ha rys
          subst q1
          obtain ⟨m1, m2, m3, m4⟩ := merge_rel (ks := []) (vs := []) (acc := []) q3 q4 q5 rfl (by simp [RVs]) List.nodup_nil (fun _ h => by cases h)
          refine call_dictP g.calm pins s σ H _ us Q I r ⟨a, ps, kvs, rfl, .inl (.inl hh), by rw [g.hK]; exact q2, ?_⟩
          have hz : (mergeD prs [] []).1.length ≤ sizeLine := by
            rw [m1, List.length_map]
            refine Nat.le_trans (length_mergeK kvs []) ?_
            rw [List.length_nil, Nat.zero_add, q2.length.symm]
            have : ps.length = (ps.map V.ref).length := by simp
            rw [this]
            exact (show ObjOk X.prog X.w H s.heap a (.lst (ps.map V.ref)) from I.hok a _ hh).1
          exact Post.newD p R (.k _ m1 rfl m4 m3 hz) m2
        · exact p.elim
      · exact p.elim
    · exact p.elim
  · cases hb : bfun f vs S with
    | none => rw [hb] at p; exact p.elim
    | some z =>
      rw [hb] at p
      exact cr_data g (Wk := fun c d H => W c d σ0 H) (n := n) f fr pins s σ H xs us Q I r ⟨ρ, S, vs, z, R, rs, hb, p⟩
/-- f(..), f a built-in function or type -/
theorem e_bfF (g : Good N X W k) {f : BF} {fr : Bool} {x : Str} {p pos : Pos} {e : Expr} {es : List Expr} {id : String} {h : Ev → Store → Res (List PV)} (own : OwnOk G call N n X W f) (hf : bvOf f = .builtin id) (hg : Gl X x) (hm : X.mg x = none) (hv : bootBuiltins x = some (.builtin id)) (ha : PA X (e :: es) (tA N n W h))
    (hn : x ≠ "__name__") (hdb : (x == ("__debug__" : Str)) = false) (he : starEach (e :: es) X.env = (false, PySem.eval e X.env) :: starEach es X.env) (hpl : (backTo pos (starEach es X.env)).any (·.1) = false) :
    PE X (.Call (.Name x p) (e :: es) [] pos) (tE N n W fun ps S => (h ps S).bind fun vs S1 => bfunR G call f fr vs S1) := by
  refine ⟨fun pins s σ H Q I hq => ?_⟩
  have hc := cr_bfR g (σ0 := σ) f fr own
  rw [hf] at hc
  refine (pe_callB (p := p) (pos := pos) hc hg hm hv ha hn hdb he hpl).run pins s σ H Q I ?_
  obtain ⟨ρ, S, ps, R, sl, p⟩ := hq
  exact ⟨ρ, S, ps, R, sl, (Post.bind (R := RVls N) p).mono fun xs H1 ⟨ρ1, vs, S1, st, rs, p1⟩ => ⟨ρ1, S1, vs, st.rel, rs, p1⟩⟩
theorem e_bfT (g : Good N X W k) {f : BF} {fr : Bool} {x : Str} {p pos : Pos} {e : Expr} {es : List Expr} {T : String} {h : Ev → Store → Res (List PV)} (own : OwnOk G call N n X W f) (hf : bvOf f = .type T) (hg : Gl X x) (hm : X.mg x = none) (hv : bootBuiltins x = some (.type T)) (ha : PA X (e :: es) (tA N n W h))
    (hn : x ≠ "__name__") (hdb : (x == ("__debug__" : Str)) = false) (he : starEach (e :: es) X.env = (false, PySem.eval e X.env) :: starEach es X.env) (hpl : (backTo pos (starEach es X.env)).any (·.1) = false) :
    PE X (.Call (.Name x p) (e :: es) [] pos) (tE N n W fun ps S => (h ps S).bind fun vs S1 => bfunR G call f fr vs S1) := by
  refine ⟨fun pins s σ H Q I hq => ?_⟩
  have hc := cr_bfR g (σ0 := σ) f fr own
  rw [hf] at hc
  refine (pe_callTy (p := p) (pos := pos) hc hg hm hv ha hn hdb he hpl).run pins s σ H Q I ?_
  obtain ⟨ρ, S, ps, R, sl, p⟩ := hq
  exact ⟨ρ, S, ps, R, sl, (Post.bind (R := RVls N) p).mono fun xs H1 ⟨ρ1, vs, S1, st, rs, p1⟩ => ⟨ρ1, S1, vs, st.rel, rs, p1⟩⟩
end
end PyI
set_option Elab.async false
set_option linter.all false
set_option maxRecDepth 100000
set_option maxHeartbeats 2000000
/-! PyK: methods of built-in types, isinstance, f-strings, small forms, attributes -/
namespace PyI
open PySem PySem.Spec PyProof.Rows L2
/-! ### the written part's facts -/
def tyCV (N : Nm) : TyC → V
  | .int => .ty "int"
  | .bool => .ty "bool"
  | .str => .ty "str"
  | .tuple => .ty "tuple"
  | .list => .ty "list"
  | .dict => .ty "dict"
  | .own c => .ref (N.ca c)
def tyCU (N : Nm) : TyC → Value
  | .int => .type "int"
  | .bool => .type "bool"
  | .str => .type "str"
  | .tuple => .type "tuple"
  | .list => .type "list"
  | .dict => .type "dict"
  | .own c => .ref (N.ca c)
def tagU (N : Nm) : Option TyC → Value
  | none => .type "NoneType"
  | some t => tyCU N t
structure CFact (N : Nm) (kd : ClsDef) (C : Addr) : Prop where
  cls : Cls N.K C
  ha : PySem.W.findIn N.K (.ref C) "__class__" = some (some (.builtin "object.__class__"))
  hm : PySem.W.mroIn N.K C (.type "object") = some true
  fld : ∀ i, i < N.nf → kd.props.lookup i = none → kd.meths.lookup i = none → NoAttr N.K C (N.fld i)
structure Wd (N : Nm) (G : Tab) : Prop where
  hn : PySem.W.specialIn N.K (.builtin "object.__class__") "__get__" = some (some (.builtin "getset_descriptor.__get__"))
  htk : PySem.W.takesIn N.K (.builtin "object.__class__") = some true
  cls : ∀ c kd, G.cls[c]? = some kd → CFact N kd (N.ca c)
  isi : ∀ g t, tagIn G g = true → t.inb G = true → PySem.W.kitOne N.K (tagU N g) (tyCU N t) = some (isiT g t)
section
variable {N : Nm} {X : Cx} {W : WX} {k : Nat} {n : Nat} {G : Tab} {call : Nat → Nat → List PV → Store → Res PV}
/-! ### isinstance -/
theorem tag_ty (wd : Wd N G) {ρ : List Addr} {S : Store} {H : Hp} (R : Rel N ρ H S) {v : PV} {x : V} {t : Option TyC} (h : RV N ρ H v x) (e : tagOf v S = some t) (hin : tagIn G t = true) : TyX N.K H x (tagU N t) := by
  have own : ∀ {c : Nat} {a dx : Addr} {fs : List (Str × V)}, tagIn G (some (.own c)) = true → H a = some (.ins (N.ca c) dx fs) → TyX N.K H (.ref a) (tagU N (some (.own c))) := by
    intro c a dx fs hc ha
    have hc' : c < G.cls.length := of_decide_eq_true hc
    have f := wd.cls c G.cls[c] (by simp [hc'])
    exact .base (.ins ha f.cls f.ha wd.hn wd.htk f.hm)
  unfold tagOf at e
  split at e
  · cases e; cases RV.non_iff.mp h; exact .base .non
  · cases e; cases RV.bl_iff.mp h; exact .base (.bl _)
  · cases e; cases RV.int_iff.mp h; exact .base (.int _)
  · cases e; obtain ⟨e1, _⟩ := RV.str_iff.mp h; subst e1; exact .base (.str _)
  · cases e
    simp only [RV] at h
    obtain ⟨a, ys, e1, _, h1, _⟩ := h
    subst e1; exact .base (.tup h1)
  · cases e
    obtain ⟨a, ys, e1, _, h1, _⟩ := h.lstL
    subst e1; exact .base (.lst h1)
  · cases e
    simp only [RV] at h
    obtain ⟨a, dx, ys, e1, _, h1, _⟩ := h
    subst e1; exact own hin h1
  · simp only [RV] at h
    obtain ⟨a, h1, h2⟩ := h
    subst h2
    split at e
    · rename_i hs
      cases e
      obtain ⟨ys, q, _⟩ := R.obj _ _ a hs h1
      exact .base (.lst q)
    · rename_i hs
      cases e
      obtain ⟨ys, o, d, q, _⟩ := R.obj _ _ a hs h1
      cases d with
      | k => exact .base (.dK q)
      | t => exact .base (.dT q)
    · rename_i hs
      cases e
      obtain ⟨dx, ys, q, _⟩ := R.obj _ _ a hs h1
      exact own hin q
    · cases e
  · cases e
theorem ClsV.of (N : Nm) (t : TyC) : ClsV (tyCV N t) (tyCU N t) := by cases t <;> first | exact .ty _ | exact .own _
/-- isinstance(e, T) -/
theorem e_isi (g : Good N X W k) (wd : Wd N G) {e T : Expr} {f : Ev → Store → Res PV} {t : TyC} {p pos : Pos} (he : PE X e (tE N n W f)) (hT : PE X T (tC (tyCV N t))) (ht : t.inb G = true) (hg : Gl X "isinstance") (hm : X.mg "isinstance" = none)
    (hs : starEach [e, T] X.env = (false, PySem.eval e X.env) :: starEach [T] X.env) (hs2 : starEach [T] X.env = (false, PySem.eval T X.env) :: starEach [] X.env) (hpl : (backTo pos (starEach [T] X.env)).any (·.1) = false) :
    PE X (.Call (.Name "isinstance" p) [e, T] [] pos) (tE N n W fun ps S => (f ps S).bind fun v S1 => guardR ((tagOf v S1).all (tagIn G)) (PyI.ofO ((isiV v t S1).map PV.bl) S1)) := by
  refine (pe_callB (p := p) (pos := pos) call_isi hg hm (by rfl) (pa_cons he (pa_cons hT pa_nil hs2) hs) (by decide) (by decide) hs hpl).imp fun σ H Q hq => ?_
  refine read1 (kk := fun v S1 _ => guardR ((tagOf v S1).all (tagIn G)) (PyI.ofO ((isiV v t S1).map PV.bl) S1)) hq fun ρ S H2 v x ps R sl ra p => ?_
  obtain ⟨gd, p⟩ := p.guard
  obtain ⟨z, e1, p⟩ := p.ofO
  rw [Option.map_eq_some_iff] at e1
  obtain ⟨b, e1, e2⟩ := e1
  subst e2
  unfold isiV at e1
  rw [Option.map_eq_some_iff] at e1
  obtain ⟨tg, e1, e2⟩ := e1
  rw [e1] at gd
  have gd : tagIn G tg = true := gd
  exact ⟨x, tyCV N t, tagU N tg, tyCU N t, b, rfl, ClsV.of N t, by rw [g.hK]; exact tag_ty wd R ra e1 gd, by rw [g.hK, wd.isi tg t gd ht, e2], p.ok R (RV.bl_iff.mpr rfl)⟩
/-! ### small forms -/
theorem e_neg {a : Expr} {f : Ev → Store → Res PV} {pos : Pos} (ha : PE X a (tE N n W f)) : PE X (.UnaryOp .USub a pos) (tE N n W fun ps S => (f ps S).bind fun v S1 => (match v with
    | .int i => .ok (.int (-i)) S1
    | _ => .stuck)) := by
  refine (pe_un un_neg ha).imp fun σ H Q hq => ?_
  refine read1 (kk := fun v S1 _ => (match v with
    | .int i => .ok (PV.int (-i)) S1
    | _ => .stuck)) hq fun ρ S H2 v x ps R sl ra p => ?_
  cases v <;> first | exact (show False from p).elim | skip
  exact ⟨_, RV.int_iff.mp ra, p.ok R (RV.int_iff.mpr rfl)⟩
theorem e_rev {fr : Bool} {a : Expr} {f : Ev → Store → Res PV} {j : Nat} {p1 p2 p3 pos : Pos} (ha : PE X a (tE N n W f)) : PE X (.Subscript a (.Slice none none (some (.UnaryOp .USub (.Constant (.int 1) j p1) p2)) p3) pos) (tE N n W fun ps S => (f ps S).bind fun x S1 => (match lstOf x S1 with
    | some xs => mkL fr xs.reverse S1
    | none => .stuck)) := by
  refine (pe_revL ha).imp fun σ H Q hq => ?_
  refine read1 (kk := fun x S1 _ => (match lstOf x S1 with
    | some xs => mkL fr xs.reverse S1
    | none => .stuck)) hq fun ρ S H2 v x ps R sl ra p => ?_
  split at p
  · rename_i xs e
    obtain ⟨l, e⟩ := lstOf_eq e
    obtain ⟨a', ys, ex, hh, rs⟩ := RV.isList R ra e l
    obtain ⟨_, _, _, _, _, hz⟩ := ra.items R e
    exact ⟨a', ys, ex, .inl (.inl hh), p.newL R rs.reverse (by rw [List.length_reverse]; exact hz)⟩
  · exact p.elim
theorem e_dct0 {fr : Bool} {pos : Pos} : PE X (.Dict [] [] pos) (tE N n W fun _ S => mkD fr [] [] S) := by
  refine pe_dnewK.imp fun σ H Q hq => ?_
  obtain ⟨ρ, S, ps, R, sl, p⟩ := hq
  exact Post.newD p R (.k [] rfl rfl (fun _ h => by cases h) List.nodup_nil (Nat.zero_le _)) (by simp [RVs])
/-! ### f-strings -/
def fF (N : Nm) (n : Nat) (W : WX) (ts : List TE) (h : Str → Ev → Store → Res Str) : Prop :=
  ∀ σ H (Q : Str → Hp → Prop) acc, (∃ ρ S ps, Rel N ρ H S ∧ SlR N ρ H ps σ ∧ Post N n REq (fun c d H => W c d σ H) Q ρ S H (h acc ps S)) → tJs ts acc σ H Q
theorem fF_nil : fF N n W [] fun acc _ S => .ok acc S := fun σ H Q acc h => by
  obtain ⟨ρ, S, ps, R, sl, p⟩ := h
  exact p.ok R rfl
def fStep (f : Ev → Store → Res PV) (h : Str → Ev → Store → Res Str) : Str → Ev → Store → Res Str := fun acc ps S => (f ps S).bind fun v S1 => (match strPart v with
    | some y => if decide ((acc ++ y).length ≤ sizeLine) = true then h (acc ++ y) ps S1 else .stuck
    | none => .stuck)
theorem strPart_rel {ρ : List Addr} {H : Hp} {v : PV} {x : V} {y : Str} (h : RV N ρ H v x) (e : strPart v = some y) : (x = .str y ∧ y.length ≤ sizeLine) ∨ ∃ i : Int, x = .int i ∧ i.natAbs.log2 < 1920 ∧ y = toString i := by
  cases v <;> simp only [strPart] at e
  all_goals first | cases e | skip
  · split at e
    · rename_i hs
      cases e
      exact .inr ⟨_, RV.int_iff.mp h, of_decide_eq_true hs, rfl⟩
    · cases e
  · exact .inl (RV.str_iff.mp h)
/-- a part {e} -/
theorem fF_fmt {f : Ev → Store → Res PV} {ts : List TE} {h : Str → Ev → Store → Res Str} (hr : fF N n W ts h) : fF N n W (tFmt (tE N n W f) :: ts) (fStep f h) := fun σ H Q acc hq => by
  refine read1 (kk := fun v S1 ps => (match strPart v with
    | some y => if decide ((acc ++ y).length ≤ sizeLine) = true then h (acc ++ y) ps S1 else .stuck
    | none => .stuck)) hq fun ρ S H2 v x ps R sl ra p => ?_
  split at p
  · rename_i y e
    split at p
    · rename_i hz
      have hz' := of_decide_eq_true hz
      rcases strPart_rel ra e with ⟨e1, h1⟩ | ⟨i, e1, h1, e2⟩
      · exact .inl ⟨y, e1, h1, y, rfl, hz', hr σ H2 Q _ ⟨ρ, S, ps, R, sl, p⟩⟩
      · subst e2
        exact .inr ⟨i, e1, h1, _, rfl, hz', hr σ H2 Q _ ⟨ρ, S, ps, R, sl, p⟩⟩
    · exact p.elim
  · exact p.elim
/-- a text part -/
theorem fF_txt {y : Str} {ts : List TE} {h : Str → Ev → Store → Res Str} (hr : fF N n W ts h) : fF N n W (tC (.str y) :: ts) (fStep (fun _ S => .ok (.str y) S) h) := fun σ H Q acc hq => by
  obtain ⟨ρ, S, ps, R, sl, p⟩ := hq
  unfold fStep at p
  simp only [Res.bind_ok, strPart] at p
  split at p
  · rename_i hz
    exact ⟨y, rfl, of_decide_eq_true hz, hr σ H Q _ ⟨ρ, S, ps, R, sl, p⟩⟩
  · exact p.elim
theorem e_joined {v1 v2 : Expr} {rest : List Expr} {ts : List TE} {pos : Pos} {h : Str → Ev → Store → Res Str} (hp : PJ X (v1 :: v2 :: rest) ts) (hf : fF N n W ts h) (hz : ∀ acc ps S out S', acc.length ≤ sizeLine → h acc ps S = .ok out S' → out.length ≤ sizeLine) :
    PE X (.JoinedStr (v1 :: v2 :: rest) pos) (tE N n W fun ps S => (h Str.empty ps S).bind fun x S1 => .ok (.str x) S1) := by
  refine (pe_joined hp).imp fun σ H Q hq => ?_
  obtain ⟨ρ, S, ps, R, sl, p⟩ := hq
  refine hf σ H _ _ ⟨ρ, S, ps, R, sl, ?_⟩
  dsimp only at p
  cases e : h Str.empty ps S with
  | ok out S' =>
    rw [e] at p
    refine fun ρ' H' x st ex => ?_
    have ex' : x = out := ex
    subst ex'
    exact p ρ' H' _ st (RV.str_iff.mpr ⟨rfl, hz _ _ _ _ _ (Nat.zero_le _) e⟩)
  | exn e' S' => rw [e] at p; exact p
  | stuck => rw [e] at p; exact p
theorem fStep_z {f : Ev → Store → Res PV} {h : Str → Ev → Store → Res Str} (hz : ∀ acc ps S out S', acc.length ≤ sizeLine → h acc ps S = .ok out S' → out.length ≤ sizeLine) : ∀ acc ps S out S', acc.length ≤ sizeLine → fStep f h acc ps S = .ok out S' → out.length ≤ sizeLine := by
  intro acc ps S out S' h1 h2
  unfold fStep at h2
  cases e : f ps S with
  | ok v S1 =>
    rw [e] at h2
    simp only [Res.bind_ok] at h2
    split at h2
    · split at h2
      · rename_i hz'
        exact hz _ _ _ _ _ (of_decide_eq_true hz') h2
      · cases h2
    · cases h2
  | exn e' S1 => rw [e] at h2; cases h2
  | stuck => rw [e] at h2; cases h2
theorem e_joined1 {e : Expr} {f : Ev → Store → Res PV} {pos p2 : Pos} (he : PE X e (tE N n W f)) : PE X (.JoinedStr [.FormattedValue e (-1) none p2] pos) (tE N n W fun ps S => (fStep f (fun acc _ S => .ok acc S) Str.empty ps S).bind fun x S1 => .ok (.str x) S1) := by
  refine (pe_joined1 (pe_fmt he)).imp fun σ H Q hq => ?_
  refine read1 (kk := fun v S1 ps => (match strPart v with
    | some y => if decide ((Str.empty ++ y).length ≤ sizeLine) = true then (Res.ok (Str.empty ++ y) S1 : Res Str) else Res.stuck
    | none => (Res.stuck : Res Str)).bind fun x S1 => Res.ok (PV.str x) S1) (by
      obtain ⟨ρ, S, ps, R, sl, p⟩ := hq
      refine ⟨ρ, S, ps, R, sl, ?_⟩
      unfold fStep at p
      dsimp only at p
      rw [bind_assoc'] at p
      exact p) fun ρ S H2 v x ps R sl ra p => ?_
  have e0 : ∀ y : Str, Str.empty ++ y = y := fun y => by
    show Str.mk (#[] ++ y.cps) = y
    cases y; simp
  cases ey : strPart v with
  | none => rw [ey] at p; exact p.elim
  | some y =>
    rw [ey] at p
    dsimp only at p
    rw [e0] at p
    split at p
    · rename_i hz
      have q := p.ok R (RV.str_iff.mpr ⟨rfl, of_decide_eq_true hz⟩)
      rcases strPart_rel ra ey with ⟨e1, h1⟩ | ⟨i, e1, h1, e2⟩
      · exact .inl ⟨y, e1, h1, q⟩
      · subst e2
        exact .inr ⟨i, e1, h1, q⟩
    · exact p.elim
/-! ### methods -/
def rBmD (N : Nm) (n : Nat) (W : WK) (m : BM) (fr : Bool) : V → List V → Hp → VK → Prop := fun x xs H Q => ∃ ρ S v vs, Rel N ρ H S ∧ RV N ρ H v x ∧ RVs N ρ H vs xs ∧ Post N n (RVl N) W Q ρ S H (bmR n m fr v vs S)
theorem okS_all {l : List Str} (h : l.all okS = true) : ∀ s ∈ l, s.length ≤ sizeLine := fun s hs => of_decide_eq_true (List.all_eq_true.mp h s hs)
theorem RVs.ofStrs {ρ : List Addr} {H : Hp} : ∀ {l : List Str}, (∀ s ∈ l, s.length ≤ sizeLine) → RVs N ρ H (l.map PV.str) (l.map V.str)
  | [], _ => by simp [RVs]
  | s :: l, h => .cons (RV.str_iff.mpr ⟨rfl, h s (by simp)⟩) (RVs.ofStrs fun t ht => h t (by simp [ht]))
theorem mt_sjoin (g : Good N X W k) {Wk : WK} {fr : Bool} : MtR X "str.join" (rBmD N n Wk .join fr) := by
  intro pins s σ H x xs v us Q I rx rs h
  obtain ⟨ρ, S, o, vs, R, ro, rv, p⟩ := h
  unfold bmR at p
  dsimp only at p
  cases hb : bmeth .join o vs S with
  | none => rw [hb] at p; exact p.elim
  | some z =>
    rw [hb] at p
    simp only [ofO_some, Res.bind_ok] at p
    unfold bmeth at hb
    split at hb <;> first | (cases ‹BM.join = _›; done) | cases hb | skip
    rename_i a w _
    rw [Option.bind_eq_some_iff] at hb
    obtain ⟨ws, e1, hb⟩ := hb
    rw [Option.bind_eq_some_iff] at hb
    obtain ⟨ys, e2, hb⟩ := hb
    split at hb
    · rename_i gd
      rw [Bool.and_eq_true] at gd
      cases hb
      rw [mkV_scal rfl] at p
      obtain ⟨e3, hz⟩ := RV.str_iff.mp ro
      obtain ⟨y, ey, ry⟩ := rv.one
      subst ey; subst e3
      obtain ⟨b, zs, e4, sq, rz, _⟩ := ry.items R e1
      rw [asStrs_eq e2] at rz
      obtain ⟨e5, _⟩ := RVs.strs rz
      subst e5; subst e4
      exact mt_join pins s σ H _ _ v us Q I rx rs ⟨_, b, ys, rfl, rfl, by rw [g.hK]; exact sqOr sq, of_decide_eq_true gd.1, p.ok R (RV.str_iff.mpr ⟨rfl, of_decide_eq_true gd.2⟩)⟩
    · cases hb
theorem mt_ssplit (g : Good N X W k) {Wk : WK} {fr : Bool} : MtR X "str.split" (rBmD N n Wk .split fr) := by
  intro pins s σ H x xs v us Q I rx rs h
  obtain ⟨ρ, S, o, vs, R, ro, rv, p⟩ := h
  unfold bmR at p
  dsimp only at p
  cases hb : bmeth .split o vs S with
  | none => rw [hb] at p; exact p.elim
  | some z =>
    rw [hb] at p
    simp only [ofO_some, Res.bind_ok] at p
    unfold bmeth at hb
    split at hb <;> first | (cases ‹BM.split = _›; done) | cases hb | skip
    rename_i a b _
    split at hb
    · rename_i gd
      simp only [Bool.and_eq_true, decide_eq_true_eq] at gd
      cases hb
      obtain ⟨e3, hz⟩ := RV.str_iff.mp ro
      obtain ⟨y, ey, ry⟩ := rv.one
      obtain ⟨e4, hz4⟩ := RV.str_iff.mp ry
      subst ey; subst e3; subst e4
      have hl : ((Txt.split a b).map PV.str).length ≤ sizeLine := by
        rw [List.length_map]
        exact Nat.le_trans (PyProof.Rows.split_le a b) gd.1.2
      refine mt_split pins s σ H _ _ v us Q I rx rs ⟨a, b, rfl, rfl, by simpa using gd.1.1, gd.1.2, ?_⟩
      exact Post.newL (fr := fr) p R (RVs.ofStrs (okS_all gd.2)) hl
    · cases hb
theorem mt_spart (g : Good N X W k) {Wk : WK} {fr : Bool} : MtR X "str.partition" (rBmD N n Wk .partition fr) := by
  intro pins s σ H x xs v us Q I rx rs h
  obtain ⟨ρ, S, o, vs, R, ro, rv, p⟩ := h
  unfold bmR at p
  dsimp only at p
  cases hb : bmeth .partition o vs S with
  | none => rw [hb] at p; exact p.elim
  | some z =>
    rw [hb] at p
    simp only [ofO_some, Res.bind_ok] at p
    unfold bmeth at hb
    split at hb <;> first | (cases ‹BM.partition = _›; done) | cases hb | skip
    rename_i a b _
    split at hb
    · rename_i gd
      simp only [Bool.and_eq_true] at gd
      cases hb
      rw [mkV_scal rfl] at p
      obtain ⟨e3, hz⟩ := RV.str_iff.mp ro
      obtain ⟨y, ey, ry⟩ := rv.one
      obtain ⟨e4, hz4⟩ := RV.str_iff.mp ry
      subst ey; subst e3; subst e4
      refine mt_partition pins s σ H _ _ v us Q I rx rs ⟨a, b, rfl, rfl, by simpa using gd.1.1.1, hz, ?_⟩
      refine p.newTup R (.cons (RV.str_iff.mpr ⟨rfl, of_decide_eq_true gd.1.1.2⟩) (.cons (RV.str_iff.mpr ⟨rfl, of_decide_eq_true gd.1.2⟩) (.cons (RV.str_iff.mpr ⟨rfl, of_decide_eq_true gd.2⟩) (by simp [RVs])))) (by rw [sizeLine_eq]; simp)
    · cases hb
theorem mt_sremp (g : Good N X W k) {Wk : WK} {fr : Bool} : MtR X "str.removeprefix" (rBmD N n Wk .removeprefix fr) := by
  intro pins s σ H x xs v us Q I rx rs h
  obtain ⟨ρ, S, o, vs, R, ro, rv, p⟩ := h
  unfold bmR at p
  dsimp only at p
  cases hb : bmeth .removeprefix o vs S with
  | none => rw [hb] at p; exact p.elim
  | some z =>
    rw [hb] at p
    simp only [ofO_some, Res.bind_ok] at p
    unfold bmeth at hb
    split at hb <;> first | (cases ‹BM.removeprefix = _›; done) | cases hb | skip
    rename_i a b _
    split at hb
    · rename_i gd
      cases hb
      rw [mkV_scal rfl] at p
      obtain ⟨e3, hz⟩ := RV.str_iff.mp ro
      obtain ⟨y, ey, ry⟩ := rv.one
      obtain ⟨e4, hz4⟩ := RV.str_iff.mp ry
      subst ey; subst e3; subst e4
      exact mt_removeprefix pins s σ H _ _ v us Q I rx rs ⟨a, b, rfl, rfl, hz, p.ok R (RV.str_iff.mpr ⟨rfl, of_decide_eq_true gd⟩)⟩
    · cases hb
theorem mt_sfind (g : Good N X W k) {Wk : WK} {fr : Bool} : MtR X "str.find" (rBmD N n Wk .find fr) := by
  intro pins s σ H x xs v us Q I rx rs h
  obtain ⟨ρ, S, o, vs, R, ro, rv, p⟩ := h
  unfold bmR at p
  dsimp only at p
  cases hb : bmeth .find o vs S with
  | none => rw [hb] at p; exact p.elim
  | some z =>
    rw [hb] at p
    simp only [ofO_some, Res.bind_ok] at p
    unfold bmeth at hb
    split at hb <;> first | (cases ‹BM.find = _›; done) | cases hb | skip
    rename_i a b _
    rw [mkV_scal rfl] at p
    obtain ⟨e3, hz⟩ := RV.str_iff.mp ro
    obtain ⟨y, ey, ry⟩ := rv.one
    obtain ⟨e4, hz4⟩ := RV.str_iff.mp ry
    subst ey; subst e3; subst e4
    exact mt_find pins s σ H _ _ v us Q I rx rs ⟨a, b, rfl, rfl, p.ok R (RV.int_iff.mpr rfl)⟩
/-- lists that are written -/
theorem lst_wr {Wk : WK} {Q : VK} {ρ : List Addr} {S : Store} {H : Hp} {l : Nat} {xs xs' : List PV} {a : Addr} {ys' : List V} {w : PV} {y : V} (R : Rel N ρ H S) (hs : S[l]? = some (.lst xs)) (ha : ρ[l]? = some a) (hr : ∀ t : Stay N ρ H ρ (upd H a (.lst ys')), RVs N ρ (upd H a (.lst ys')) xs' ys')
    (hz : xs'.length ≤ sizeLine) (old : l < n → ∀ m, PV.lts m xs = true → PV.lts m xs' = true) (rw' : ∀ t : Stay N ρ H ρ (upd H a (.lst ys')), RV N ρ (upd H a (.lst ys')) w y) (p : Post N n (RVl N) Wk Q ρ S H (.ok w (S.set l (.lst xs')))) : Q y (upd H a (.lst ys')) := by
  have hm : a ∈ ρ := List.mem_of_getElem? ha
  have t : Stay N ρ H ρ (upd H a (.lst ys')) := ⟨List.prefix_rfl, fun _ h => .inl h, fun b w h hb => .inl (by rw [upd_ne (fun e => hb.1 (by rw [e]; exact hm))]; exact h)⟩
  have st : Stp N n ρ S H ρ (S.set l (.lst xs')) (upd H a (.lst ys')) := Stp.wrote R hs ha (fun t => ⟨ys', upd_same, hr t, hz⟩) (fun _ _ e => by cases e) old
  exact p ρ _ _ st (rw' t)
theorem lts_append {m : Nat} {xs ys : List PV} : PV.lts m (xs ++ ys) = (PV.lts m xs && PV.lts m ys) := by
  rw [PV.lts_eq, PV.lts_eq, PV.lts_eq, List.all_append]
theorem mt_lappend (g : Good N X W k) {Wk : WK} {fr : Bool} : MtR X "list.append" (rBmD N n Wk .append fr) := by
  intro pins s σ H x xs v us Q I rx rs h
  obtain ⟨ρ, S, o, vs, R, ro, rv, p⟩ := h
  unfold bmR bmethW at p
  dsimp only at p
  split at p
  · rename_i z S' e
    split at e <;> first | (cases ‹BM.append = _›; done) | cases e | skip
    rename_i w _
    rw [Option.map_eq_some_iff] at e
    obtain ⟨S2, e1, e2⟩ := e
    cases e2
    unfold apnd at e1
    split at e1
    · rename_i l
      split at e1
      · rename_i gd
        split at e1
        · rename_i zs hs
          split at e1
          · rename_i hz
            cases e1
            simp only [RV] at ro
            obtain ⟨a, h1, h2⟩ := ro
            subst h2
            obtain ⟨ys, q1, q2, q3⟩ := R.obj l _ a hs h1
            obtain ⟨y, ey, ry⟩ := rv.one
            subst ey
            refine mt_append pins s σ H _ _ v us Q I rx rs ⟨a, ys, y, rfl, rfl, q1, by rw [← q2.length]; exact hz, ?_⟩
            refine lst_wr R hs h1 (fun t => (q2.stay t).append (.cons (ry.stay t) (by simp [RVs]))) (by rw [List.length_append]; exact hz) (fun hl m hm => ?_) (fun t => RV.non_iff.mpr rfl) p
            rw [lts_append, hm, Bool.true_and]
            rw [Bool.or_eq_true, decide_eq_true_eq] at gd
            rcases gd with gd | gd
            · omega
            · simp [PV.lts, PV.lt_of_rf m w gd]
          · cases e1
        · cases e1
      · cases e1
    · cases e1
  · exact p.elim
theorem mt_lextend (g : Good N X W k) {Wk : WK} {fr : Bool} : MtR X "list.extend" (rBmD N n Wk .extend fr) := by
  intro pins s σ H x xs v us Q I rx rs h
  obtain ⟨ρ, S, o, vs, R, ro, rv, p⟩ := h
  unfold bmR bmethW at p
  dsimp only at p
  split at p
  · rename_i z S' e
    split at e <;> first | (cases ‹BM.extend = _›; done) | cases e | skip
    rename_i w _
    rw [Option.map_eq_some_iff] at e
    obtain ⟨S2, e1, e2⟩ := e
    cases e2
    unfold extd at e1
    split at e1
    · rename_i l ws
      split at e1
      · rename_i gd
        split at e1
        · rename_i zs hs
          split at e1
          · rename_i hz
            cases e1
            simp only [RV] at ro
            obtain ⟨a, h1, h2⟩ := ro
            subst h2
            obtain ⟨ys, q1, q2, q3⟩ := R.obj l _ a hs h1
            obtain ⟨y, ey, ry⟩ := rv.one
            obtain ⟨b, ts, ey2, _, hb, rts, _⟩ := ry.lstL
            subst ey; subst ey2
            refine mt_extend pins s σ H _ _ v us Q I rx rs ⟨a, b, ys, ts, rfl, rfl, q1, hb, by rw [← q2.length, ← rts.length]; exact hz, ?_⟩
            refine lst_wr R hs h1 (fun t => (q2.stay t).append (rts.stay t)) (by rw [List.length_append]; exact hz) (fun hl m hm => ?_) (fun t => RV.non_iff.mpr rfl) p
            rw [lts_append, hm, Bool.true_and]
            rw [Bool.or_eq_true, decide_eq_true_eq] at gd
            rcases gd with gd | gd
            · omega
            · exact PV.lts_of_rfs m _ gd
          · cases e1
        · cases e1
      · cases e1
    · cases e1
  · exact p.elim
theorem mt_lpop (g : Good N X W k) {Wk : WK} {fr : Bool} : MtR X "list.pop" (rBmD N n Wk .pop fr) := by
  intro pins s σ H x xs v us Q I rx rs h
  obtain ⟨ρ, S, o, vs, R, ro, rv, p⟩ := h
  unfold bmR bmethW at p
  dsimp only at p
  split at p
  · rename_i z S' e
    split at e <;> first | (cases ‹BM.pop = _›; done) | cases e | skip
    unfold popd at e
    split at e
    · rename_i l
      split at e
      · rename_i zs hs
        rw [Option.map_eq_some_iff] at e
        obtain ⟨y, e1, e2⟩ := e
        cases e2
        simp only [RV] at ro
        obtain ⟨a, h1, h2⟩ := ro
        subst h2
        obtain ⟨ys, q1, q2, q3⟩ := R.obj l _ a hs h1
        rw [RVs.nil_iff] at rv
        subst rv
        obtain ⟨yy, e3, ry⟩ := q2.get e1
        refine mt_pop pins s σ H _ _ v us Q I rx rs ⟨a, ys, yy, rfl, rfl, q1, by rw [← q2.length]; exact e3, ?_⟩
        refine lst_wr R hs h1 (fun t => (q2.stay t).dropLast) (by rw [List.length_dropLast]; omega) (fun hl m hm => ?_) (fun t => ry.stay t) p
        rw [PV.lts_eq] at hm ⊢
        exact List.all_eq_true.mpr fun z hz => List.all_eq_true.mp hm z (List.dropLast_subset _ hz)
      · cases e
    · cases e
  · exact p.elim
def bmTy : BM → String
  | .append | .extend | .pop => "list"
  | .get | .update => "dict"
  | _ => "str"
theorem isRL_ty {ρ : List Addr} {S : Store} {H : Hp} (R : Rel N ρ H S) {v : PV} {x : V} (rv : RV N ρ H v x) (h : isRL v S = true) : tyV X.K "list" x H := by
  unfold isRL at h
  split at h
  · split at h
    · rename_i hs
      simp only [RV] at rv
      obtain ⟨a, h1, h2⟩ := rv
      subst h2
      obtain ⟨ys, q1, _⟩ := R.obj _ _ a hs h1
      exact .inl ⟨rfl, ys, .inl (.inl q1)⟩
    · cases h
  · cases h
theorem isSt_ty {ρ : List Addr} {H : Hp} {v : PV} {x : V} (rv : RV N ρ H v x) (h : isSt v = true) : tyV X.K "str" x H := by
  unfold isSt at h
  split at h
  · obtain ⟨e, _⟩ := RV.str_iff.mp rv
    subst e
    rfl
  · cases h
theorem bmT_ty {ρ : List Addr} {S : Store} {H : Hp} (g : Good N X W k) (R : Rel N ρ H S) {m : BM} {v : PV} {x : V} (rv : RV N ρ H v x) (h : bmT m v S = true) (hm : m ≠ .get) : tyV X.K (bmTy m) x H := by
  cases m <;> first | exact isRL_ty R rv h | exact isSt_ty rv h | exact (hm rfl).elim | cases h
/-- o.m(..) of a built-in type, by its rule -/
theorem e_bm (g : Good N X W k) {m : BM} {fr : Bool} {id : String} {name : Str} {o e : Expr} {es : List Expr} {apos cpos : Pos} {f : Ev → Store → Res PV} {h : Ev → Store → Res (List PV)} (hget : m ≠ .get) (hm : ∀ σ : L2.St, MtR X id (rBmD N n (fun c d H => W c d σ H) m fr))
    (pa : PlainAttrs (bmTy m)) (slot : PySem.Slot (bmTy m) name id) (hty : typeOf (.builtin id) = pure (.type "method_descriptor")) (ho : PE X o (tE N n W f)) (ha : PA X (e :: es) (tA N n W h))
    (hbase : attributeBase o name X.env (PySem.eval o X.env) = PySem.eval o X.env)
    (hfew : ((backTo cpos (starEach (e :: es) X.env)).all (fun x => !x.1) && (backToKw cpos (keywordEach [] X.env)).all (fun x => x.1.isSome)
      && decide ((e :: es).length + ([] : List Keyword).length + (if ([] : List Keyword).isEmpty then 0 else 1) < 30)) = true)
    (hline : (apos.endLine == cpos.line) = true) (hs : starEach (e :: es) X.env = (false, PySem.eval e X.env) :: starEach es X.env) (hplain : (backTo cpos (starEach es X.env)).any (·.1) = false) :
    PE X (.Call (.Attribute o name apos) (e :: es) [] cpos) (tE N n W fun ps S => (f ps S).bind fun v S1 => guardR (bmT m v S1) ((h ps S1).bind fun vs S2 => bmR n m fr v vs S2)) := by
  refine ⟨fun pins s σ H Q I hq => ?_⟩
  refine (pe_bm pa slot hty (hm σ) ho ha hbase hfew hline hs hplain).run pins s σ H Q I ?_
  refine read1 (kk := fun v S1 ps => guardR (bmT m v S1) ((h ps S1).bind fun vs S2 => bmR n m fr v vs S2)) hq fun ρ S H2 v x ps R sl ra p => ?_
  obtain ⟨gd, p⟩ := p.guard
  refine ⟨bmT_ty g R ra gd hget, ρ, S, ps, R, sl, (Post.bind (R := RVls N) p).mono fun xs H3 ⟨ρ1, vs, S1, st, rs, p1⟩ => ?_⟩
  exact ⟨ρ1, S1, v, vs, st.rel, ra.stp st, rs, p1⟩
theorem e_bm0 (g : Good N X W k) {m : BM} {fr : Bool} {id : String} {name : Str} {o : Expr} {apos cpos : Pos} {f : Ev → Store → Res PV} (hget : m ≠ .get) (hm : ∀ σ : L2.St, MtR X id (rBmD N n (fun c d H => W c d σ H) m fr))
    (pa : PlainAttrs (bmTy m)) (slot : PySem.Slot (bmTy m) name id) (hty : typeOf (.builtin id) = pure (.type "method_descriptor")) (ho : PE X o (tE N n W f))
    (hbase : attributeBase o name X.env (PySem.eval o X.env) = PySem.eval o X.env) (hline : (apos.endLine == cpos.line) = true) :
    PE X (.Call (.Attribute o name apos) [] [] cpos) (tE N n W fun ps S => (f ps S).bind fun v S1 => guardR (bmT m v S1) ((Res.ok [] S1).bind fun vs S2 => bmR n m fr v vs S2)) := by
  refine ⟨fun pins s σ H Q I hq => ?_⟩
  refine (pe_bm0 pa slot hty (hm σ) ho hbase hline).run pins s σ H Q I ?_
  refine read1 (kk := fun v S1 ps => guardR (bmT m v S1) ((Res.ok [] S1).bind fun vs S2 => bmR n m fr v vs S2)) hq fun ρ S H2 v x ps R sl ra p => ?_
  obtain ⟨gd, p⟩ := p.guard
  exact ⟨bmT_ty g R ra gd hget, ρ, S, v, [], R, ra, by simp [RVs], p⟩
end
end PyI
set_option Elab.async false
set_option linter.all false
set_option maxRecDepth 100000
set_option maxHeartbeats 2000000
/-! PyL: stores cut back at a return; what a def promises; calls -/
namespace PyI
open PySem PySem.Spec PyProof.Rows L2
section
variable {N : Nm} {ρ ρ' ρ2 : List Addr} {S S' S2 : Store} {H H' H2 : Hp} {n : Nat}
/-! ### references -/
mutual
theorem RV.ltL : ∀ {v : PV} {x : V}, RV N ρ H v x → v.lt ρ.length = true
  | .ref l, x, h => by
    simp only [RV] at h
    obtain ⟨a, h1, _⟩ := h
    rw [PV.lt]
    exact decide_eq_true (List.getElem?_eq_some_iff.mp h1).1
  | .tup xs, x, h => by
    simp only [RV] at h
    obtain ⟨a, ys, _, _, _, h1, _⟩ := h
    rw [PV.lt]; exact RVs.ltL h1
  | .lst xs, x, h => by
    simp only [RV] at h
    obtain ⟨a, ys, _, _, _, h1, _⟩ := h
    rw [PV.lt]; exact RVs.ltL h1
  | .dct ks xs, x, h => by
    simp only [RV] at h
    obtain ⟨a, ys, o, _, _, _, _, h1, _⟩ := h
    rw [PV.lt]; exact RVs.ltL h1
  | .ins c fs xs, x, h => by
    simp only [RV] at h
    obtain ⟨a, dx, ys, _, _, _, h1, _⟩ := h
    rw [PV.lt]; exact RVs.ltL h1
  | .non, _, _ | .bl _, _, _ | .int _, _, _ | .str _, _, _ | .cls _, _, _ | .scr _, _, _ | .wtp _, _, _ => by simp [PV.lt]
theorem RVs.ltL : ∀ {vs : List PV} {xs : List V}, RVs N ρ H vs xs → PV.lts ρ.length vs = true
  | [], _, _ => by simp [PV.lts]
  | v :: vs, xs, h => by
    obtain ⟨y, t, _, h1, h2⟩ := h.cons_inv
    rw [PV.lts, RV.ltL h1, RVs.ltL h2]; rfl
end
theorem take_get {α : Type} {l : List α} {m i : Nat} (h : i < m) : (l.take m)[i]? = l[i]? := List.getElem?_take_of_lt h
mutual
theorem RV.cut (m : Nat) : ∀ {v : PV} {x : V}, RV N ρ H v x → v.lt m = true → RV N (ρ.take m) H v x
  | .ref l, x, h, e => by
    simp only [RV] at h ⊢
    obtain ⟨a, h1, h2⟩ := h
    rw [PV.lt, decide_eq_true_eq] at e
    exact ⟨a, by rw [take_get e]; exact h1, h2⟩
  | .tup xs, x, h, e => by
    simp only [RV] at h ⊢
    obtain ⟨a, ys, h1, h2, h3, h4, h5⟩ := h
    exact ⟨a, ys, h1, ⟨fun q => h2.1 (List.mem_of_mem_take q), h2.2⟩, h3, RVs.cut m h4 (by rwa [PV.lt] at e), h5⟩
  | .lst xs, x, h, e => by
    simp only [RV] at h ⊢
    obtain ⟨a, ys, h1, h2, h3, h4, h5⟩ := h
    exact ⟨a, ys, h1, ⟨fun q => h2.1 (List.mem_of_mem_take q), h2.2⟩, h3, RVs.cut m h4 (by rwa [PV.lt] at e), h5⟩
  | .dct ks xs, x, h, e => by
    simp only [RV] at h ⊢
    obtain ⟨a, ys, o, h1, h2, h3, h4, h5, h6⟩ := h
    exact ⟨a, ys, o, h1, ⟨fun q => h2.1 (List.mem_of_mem_take q), h2.2⟩, h3, h4, RVs.cut m h5 (by rwa [PV.lt] at e), h6⟩
  | .ins c fs xs, x, h, e => by
    simp only [RV] at h ⊢
    obtain ⟨a, dx, ys, h1, h2, h3, h4, h5⟩ := h
    exact ⟨a, dx, ys, h1, ⟨fun q => h2.1 (List.mem_of_mem_take q), h2.2⟩, h3, RVs.cut m h4 (by rwa [PV.lt] at e), h5⟩
  | .non, x, h, _ => by simpa [RV] using h
  | .bl b, x, h, _ => by simpa [RV] using h
  | .int b, x, h, _ => by simpa [RV] using h
  | .str b, x, h, _ => by simpa [RV] using h
  | .cls b, x, h, _ => by simpa [RV] using h
  | .scr b, x, h, _ => by
    simp only [RV] at h ⊢
    obtain ⟨a, h1, h3, h4⟩ := h
    refine ⟨a, h1, ?_, h4⟩
    rcases h3 with ⟨o, h2, h3⟩ | h3
    · exact .inl ⟨o, ⟨fun q => h2.1 (List.mem_of_mem_take q), h2.2⟩, h3⟩
    · exact .inr h3
  | .wtp b, x, h, _ => by simpa only [RV] using h
theorem RVs.cut (m : Nat) : ∀ {vs : List PV} {xs : List V}, RVs N ρ H vs xs → PV.lts m vs = true → RVs N (ρ.take m) H vs xs
  | [], xs, h, _ => by rw [RVs.nil_iff] at h ⊢; exact h
  | v :: vs, xs, h, e => by
    obtain ⟨y, t, ey, h1, h2⟩ := h.cons_inv
    rw [PV.lts, Bool.and_eq_true] at e
    subst ey
    exact .cons (RV.cut m h1 e.1) (RVs.cut m h2 e.2)
end
theorem OR.ltL {o : PO} {a : Addr} (h : OR N ρ H o a) : o.lt ρ.length = true := by
  cases o with
  | lst xs => obtain ⟨_, _, r, _⟩ := h; exact r.ltL
  | dct ks xs => obtain ⟨_, _, _, _, r⟩ := h; exact r.ltL
  | dlk ks xs => obtain ⟨_, _, _, _, _, r⟩ := h; exact r.ltL
  | ins c fs xs => obtain ⟨_, _, _, r, _⟩ := h; exact r.ltL
theorem OR.cut (m : Nat) {o : PO} {a : Addr} (h : OR N ρ H o a) (e : o.lt m = true) : OR N (ρ.take m) H o a := by
  cases o with
  | lst xs => obtain ⟨ys, h1, r, h2⟩ := h; exact ⟨ys, h1, r.cut m e, h2⟩
  | dct ks xs => obtain ⟨ys, o, d, h1, r⟩ := h; exact ⟨ys, o, d, h1, r.cut m e⟩
  | dlk ks xs => obtain ⟨ys, o, od, d, h1, r⟩ := h; exact ⟨ys, o, od, d, h1, r.cut m e⟩
  | ins c fs xs => obtain ⟨dx, ys, h1, r, h2⟩ := h; exact ⟨dx, ys, h1, r.cut m e, h2⟩
theorem Stp.any (st : Stp N S.length ρ S H ρ' S' H') : Stp N n ρ S H ρ' S' H' :=
  ⟨st.pre, st.new, st.ext, st.rel, st.le, fun l o o' m _ h h' hm => st.old l o o' m (List.getElem?_eq_some_iff.mp h).1 h h' hm, st.lk⟩
theorem Stp.less {m : Nat} (st : Stp N m ρ S H ρ' S' H') (h : n ≤ m) : Stp N n ρ S H ρ' S' H' :=
  ⟨st.pre, st.new, st.ext, st.rel, st.le, fun l o o' m' hl h1 h2 hm => st.old l o o' m' (Nat.lt_of_lt_of_le hl h) h1 h2 hm, st.lk⟩
/-- what was new is let go -/
theorem Stp.cut (R : Rel N ρ H S) (st : Stp N S.length ρ S H ρ' S' H') : ρ'.take S.length = ρ ∧ Stp N n ρ S H ρ (S'.take S.length) H' := by
  have hp : ρ'.take S.length = ρ := by
    obtain ⟨t, e⟩ := st.pre
    rw [← e, ← R.len, List.take_left']
    rfl
  refine ⟨hp, List.prefix_rfl, fun _ h => .inl h, st.ext, ⟨by rw [List.length_take, R.len]; have := st.le; omega, R.nd, fun l o a h1 h2 => ?_, fun a ha => ⟨(R.ex a ha).1, (st.rel.ex a ha).2⟩⟩, by rw [List.length_take]; have := st.le; omega, fun l o o' m hl h h' hm => ?_, fun l ks vs h => ?_⟩
  · have hl : l < S.length := by rw [← R.len]; exact (List.getElem?_eq_some_iff.mp h2).1
    rw [take_get hl] at h1
    have h2' : ρ'[l]? = some a := by rw [← hp, take_get hl] at h2; exact h2
    have q := st.rel.obj l o a h1 h2'
    have hS : S[l]? = some S[l] := by simp [hl]
    have h0 := (R.obj l S[l] a hS h2).ltL
    rw [R.len] at h0
    have := st.old l S[l] o S.length hl hS h1 h0
    have q2 := q.cut S.length this
    rw [hp] at q2
    exact q2
  · have hl2 : l < S.length := (List.getElem?_eq_some_iff.mp h).1
    rw [take_get hl2] at h'
    exact st.old l o o' m hl2 h h' hm
  · have hl2 : l < S.length := (List.getElem?_eq_some_iff.mp h).1
    rw [take_get hl2]
    exact st.lk l ks vs h
/-! ### freezing -/
theorem mapO_rel {f : PV → Option PV} {m : Nat} (hf : ∀ v v' x, f v = some v' → RV N ρ H v x → RV N (ρ.take m) H v' x) : ∀ {vs vs' : List PV} {xs : List V}, mapO f vs = some vs' → RVs N ρ H vs xs → RVs N (ρ.take m) H vs' xs ∧ vs'.length = vs.length
  | [], vs', xs, e, h => by simp [mapO] at e; subst e; rw [RVs.nil_iff] at h; subst h; exact ⟨by simp [RVs], rfl⟩
  | v :: vs, vs', xs, e, h => by
    unfold mapO at e
    rw [Option.bind_eq_some_iff] at e
    obtain ⟨y, e1, e⟩ := e
    rw [Option.map_eq_some_iff] at e
    obtain ⟨ys, e2, e3⟩ := e
    obtain ⟨x, t, ex, h1, h2⟩ := h.cons_inv
    subst e3; subst ex
    obtain ⟨q1, q2⟩ := mapO_rel hf e2 h2
    exact ⟨.cons (hf _ _ _ e1 h1) q1, by simp [q2]⟩
theorem fz_rel (R : Rel N ρ H S) (m : Nat) : ∀ (k : Nat) {v v' : PV} {x : V}, fz S m k v = some v' → RV N ρ H v x → RV N (ρ.take m) H v' x
  | 0, v, v', x, e, h => by
    unfold fz at e
    split at e
    · rename_i hr
      cases e
      exact h.cut m (PV.lt_of_rf m _ hr)
    · cases e
  | k + 1, v, v', x, e, h => by
    unfold fz at e
    split at e
    · rename_i hr
      cases e
      exact h.cut m (PV.lt_of_rf m _ hr)
    · have ih : ∀ v v' x, fz S m k v = some v' → RV N ρ H v x → RV N (ρ.take m) H v' x := fun v v' x => fz_rel R m k
      have nin : ∀ {l : Nat} {a : Addr}, ¬ l < m → ρ[l]? = some a → Off N (ρ.take m) a := fun {l a} hl ha => ⟨fun hm => by
        obtain ⟨j, hj⟩ := List.getElem?_of_mem hm
        have hjm : j < m := by
          have := (List.getElem?_eq_some_iff.mp hj).1
          rw [List.length_take] at this
          omega
        rw [take_get hjm] at hj
        have h1 := (List.getElem?_eq_some_iff.mp hj).2
        have h2 := (List.getElem?_eq_some_iff.mp ha).2
        have := (List.getElem_inj R.nd).mp (h1.trans h2.symm)
        omega, fun hm => (R.ex a hm).1 (List.mem_of_getElem? ha)⟩
      split at e
      · rename_i l hr
        split at e
        · rename_i hl
          cases e
          exact h.cut m (by rw [PV.lt]; exact decide_eq_true hl)
        · rename_i hl
          simp only [RV] at h
          obtain ⟨a, ha, ex⟩ := h
          split at e
          · rename_i xs hs
            rw [Option.map_eq_some_iff] at e
            obtain ⟨ys', e1, e2⟩ := e
            subst e2
            obtain ⟨ys, q1, q2, q3⟩ := R.obj l _ a hs ha
            obtain ⟨q4, q5⟩ := mapO_rel ih e1 q2
            simp only [RV]
            exact ⟨a, ys, ex, nin hl ha, q1, q4, by rw [q5]; exact q3⟩
          · rename_i ks xs hs
            rw [Option.map_eq_some_iff] at e
            obtain ⟨ys', e1, e2⟩ := e
            subst e2
            obtain ⟨ys, o, d, q1, q2⟩ := R.obj l _ a hs ha
            obtain ⟨q4, q5⟩ := mapO_rel ih e1 q2
            simp only [RV]
            exact ⟨a, ys, o, ex, nin hl ha, d, .inl q1, q4, fun _ => q1⟩
          · rename_i c fs xs hs
            rw [Option.map_eq_some_iff] at e
            obtain ⟨ys', e1, e2⟩ := e
            subst e2
            obtain ⟨dx, ys, q1, q2, q3, q6⟩ := R.obj l _ a hs ha
            obtain ⟨q4, q5⟩ := mapO_rel ih e1 q2
            simp only [RV]
            exact ⟨a, dx, ys, ex, nin hl ha, q1, q4, by rw [q5]; exact q3, q6⟩
          · cases e
      · rename_i xs hr
        rw [Option.map_eq_some_iff] at e
        obtain ⟨ys', e1, e2⟩ := e
        subst e2
        simp only [RV] at h ⊢
        obtain ⟨a, ys, h1, h2, h3, h4, h5⟩ := h
        obtain ⟨q4, q5⟩ := mapO_rel ih e1 h4
        exact ⟨a, ys, h1, ⟨fun q => h2.1 (List.mem_of_mem_take q), h2.2⟩, h3, q4, by rw [q5]; exact h5⟩
      · rename_i xs hr
        rw [Option.map_eq_some_iff] at e
        obtain ⟨ys', e1, e2⟩ := e
        subst e2
        simp only [RV] at h ⊢
        obtain ⟨a, ys, h1, h2, h3, h4, h5⟩ := h
        obtain ⟨q4, q5⟩ := mapO_rel ih e1 h4
        exact ⟨a, ys, h1, ⟨fun q => h2.1 (List.mem_of_mem_take q), h2.2⟩, h3, q4, by rw [q5]; exact h5⟩
      · rename_i ks xs hr
        rw [Option.map_eq_some_iff] at e
        obtain ⟨ys', e1, e2⟩ := e
        subst e2
        simp only [RV] at h ⊢
        obtain ⟨a, ys, o, h1, h2, h3, h4, h5, h6⟩ := h
        obtain ⟨q4, q5⟩ := mapO_rel ih e1 h5
        exact ⟨a, ys, o, h1, ⟨fun q => h2.1 (List.mem_of_mem_take q), h2.2⟩, h3, h4, q4, h6⟩
      · rename_i c fs xs hr
        rw [Option.map_eq_some_iff] at e
        obtain ⟨ys', e1, e2⟩ := e
        subst e2
        simp only [RV] at h ⊢
        obtain ⟨a, dx, ys, h1, h2, h3, h4, h5, h6⟩ := h
        obtain ⟨q4, q5⟩ := mapO_rel ih e1 h4
        exact ⟨a, dx, ys, h1, ⟨fun q => h2.1 (List.mem_of_mem_take q), h2.2⟩, h3, q4, by rw [q5]; exact h5, h6⟩
      · cases e
theorem lookF_rfs : ∀ {fs : List Nat} {vs : List PV} {i : Nat} {v : PV}, PV.rfs vs = true → lookF fs vs i = some v → v.rf = true
  | k :: ks, u :: us, i, v, h, e => by
    rw [PV.rfs, Bool.and_eq_true] at h
    unfold lookF at e
    split at e
    · cases e; exact h.1
    · exact lookF_rfs h.2 e
  | [], _, _, _, _, e => by simp [lookF] at e
  | _ :: _, [], _, _, _, e => by simp [lookF] at e
theorem ExR.cut (m : Nat) {x : Exc} {cls : Value} {d : Option Addr} (h : ExR N ρ H x cls d) (hr : PV.rfs x.vs = true) : ExR N (ρ.take m) H x cls d := by
  refine ⟨h.1, fun i v e => ?_⟩
  obtain ⟨h1, dd, fs', y, e1, e2, e3, e4, e5⟩ := h.2 i v e
  exact ⟨h1, dd, fs', y, e1, fun q => e2 (List.mem_of_mem_take q), e3, e4, e5.cut m (PV.lt_of_rf m v (lookF_rfs hr e))⟩
end
end PyI
set_option Elab.async false
set_option linter.all false
set_option maxRecDepth 100000
set_option maxHeartbeats 2000000
/-! PyM: what a def promises; calls -/
namespace PyI
open PySem PySem.Spec PyProof.Rows L2
/-- a def's promise where no guard stands around -/
structure FnG (P : Program) (w : World) (K : PySem.W.Frag) (mg : Str → Option Value) (base : Heap) (k : Nat) (f : Addr) (fd : FuncData) (ps : List Str) (sp : Sp) : Prop where
  len : ∀ vs H Q E, sp vs H Q E → vs.length = ps.length
  run : ∀ (A : Around) (outer : List Env) (s : Shared) (H : Hp) (args : Args) (us : List Value) (vs : List V) (Q : VK) (E : XK), Room k A → A.guards = some [] → Env0 P w K mg base A outer s H → BindsTo s fd args (ps.zip us) → Vals vs us → sp vs H Q E →
    codeAny (model P w) A (.call (.ref f) args) (CR (L2.CX P w) outer P w H s Q E) s
theorem fn_ofG {P : Program} {w : World} {K : PySem.W.Frag} {mg : Str → Option Value} {base : Heap} {k : Nat} {f : Addr} {name qual : Str} {params : Arguments} {body : List Stmt} {scope : Scope} {dV kV doc pm cdv ct oc : Value} {an od : Option Addr}
    {osl : Array (Option Value)} {N ps : List Str} {sp : Sp} (lk : K.lookup f = some ⟨oc, od, .func (PySem.W.fnOf name qual params body scope dV kV doc pm an cdv ct), osl⟩) (hcd : PySem.W.codeIn K cdv qual = true) (S : FnScope N ps scope)
    (len : ∀ vs H Q E, sp vs H Q E → vs.length = ps.length)
    (hbody : ∀ (A : Around) (outer : List Env) (s : Shared) (H : Hp) (vs : List V) (Q : VK) (E : XK), Room k (A.deeper (envOfC qual scope s.heap.objs.size f cdv)) → A.guards = some [] → sp vs H Q E →
      ∃ t, PSs (cxOf (L2.CX P w) P w K mg base N qual scope f cdv A outer s H E) body t ∧ t { nx := fun _ H' => Q .non H', rt := Q } (L2.start N vs) H) :
    FnG P w K mg base (k + 1) f (PySem.W.fnOf name qual params body scope dV kV doc pm an cdv ct) ps sp := by
  refine ⟨len, fun A outer s H args us vs Q E hr hg e0 hb r hsp => ?_⟩
  have hl := len _ _ _ _ hsp
  have KX : K.In s.heap := e0.mod.kin.keeps fun b o e => (e0.bs b o e).1
  have lim : s.heap.NoLimit := e0.mod.nolimit.keeps fun b o e => (e0.bs b o e).1
  have hkind : ∀ y ∈ ps.zip us, scope.names.lookup y.1 = some .local ∨ (scope.names.lookup y.1 = some .cell ∧ ((cellsFrom (s.heap.objs.size + 1) scope.names []).lookup y.1).isSome = true) := fun ⟨n, v⟩ hy => by
    rcases S.par n (List.of_mem_zip hy).1 with q | q
    · exact .inl q
    · exact .inr ⟨q, PySem.W.cellsFrom_some _ _ _ (.inl q)⟩
  refine codeAny_call_function hr.depth (KX _ _ lk) rfl S.co S.gen rfl (PySem.W.codeRec_of KX hcd) (hb _ _ _ _ ?_)
  refine wpAny_newFunctionEnv_cells S.kind hkind fun env he s1 x => ?_
  subst he
  refine ⟨lim.keeps x.toInCall.keep, codeAny_func ?_⟩
  obtain ⟨t, ht, hq⟩ := hbody A outer s H vs Q E (hr.deeper _) hg hsp
  have I : L2.Inv (cxOf (L2.CX P w) P w K mg base N qual scope f cdv A outer s H E) [] (L2.start N vs) H s1 := inv_start S hr.hd e0 hl r x
  refine wpAny_mono (ht.run [] s1 (L2.start N vs) H _ I hq) (fun fl s' hs => ?_) fun e s' hs => hs
  have fin : ∀ {σ' : L2.St} {H' : Hp} {v : V} {u : Value}, L2.Inv (cxOf (L2.CX P w) P w K mg base N qual scope f cdv A outer s H E) [] σ' H' s' → L2.RelV v u → Q v H' → CE outer P w H s Q u s' :=
    fun {σ' H' v u} J rv q => ⟨v, H', J.os, J.bare, J.base, J.hok, rv, q⟩
  cases fl with
  | ret u =>
    obtain ⟨v, σ', H', J, rv, q⟩ := hs
    exact fin J rv q
  | next =>
    obtain ⟨σ', H', J, q⟩ := hs
    exact fin (v := V.non) (u := Value.none) J rfl q
  | brk =>
    obtain ⟨_, _, _, q⟩ := hs
    exact False.elim q
  | cont =>
    obtain ⟨_, _, _, q⟩ := hs
    exact False.elim q
section
variable {X : Cx} {W : WX} {k : Nat} {f C : Addr} {fd : FuncData} {ps : List Str} {sp : Sp} {E : XK}
/-- the callee runs -/
theorem run_fnG {pins : List (Addr × Obj)} {σ : L2.St} {H : Hp} {s : Shared} {Q : VK} {args : Args} {us : List Value} {vs : List V} (F : FnG X.prog X.w X.K X.mg X.base k f fd ps sp) (hr : Room k X.A) (hg : X.A.guards = some []) (hb : BindsTo s fd args (ps.zip us)) (hx : PassesAt (L2.CX X.prog X.w) X σ E)
    (I : L2.Inv X pins σ H s) (r : Vals vs us) (h : sp vs H Q E) : wpAny (model X.prog X.w) X.A (call (.ref f) args.pos args.kw) (EP X pins σ Q) X.xe s := by
  refine wpAny_call (codeAny_mono (F.run X.A X.stack s H args us vs Q E hr hg I.env0 hb r h) fun r s' hq => ?_)
  cases r with
  | error e => exact hx pins H s e s' I hq
  | ok fl =>
    cases fl with
    | ret u => exact I.after hq
    | next => exact False.elim hq
    | brk => exact False.elim hq
    | cont => exact False.elim hq
end
end PyI
set_option Elab.async false
set_option linter.all false
set_option maxRecDepth 100000
set_option maxHeartbeats 2000000
/-! PyN: calls of own defs, methods, classes -/
namespace PyI
open PySem PySem.Spec PyProof.Rows L2
theorem callN_le {G : Tab} {f : Nat} {d : FnDef} (hd : G.fns[f]? = some d) : ∀ {k b : Nat} {vs : List PV} {S : Store}, 1 ≤ d.lv → d.lv ≤ k → callN G k f b vs S = runFn G (callN G (d.lv - 1)) d b vs S
  | 0, b, vs, S, h1, h2 => by omega
  | k + 1, b, vs, S, h1, h2 => by
    unfold callN
    rw [hd]
    dsimp only
    split
    · rename_i e
      rw [e]; rfl
    · rename_i e
      rw [if_pos (by omega)]
      exact callN_le hd h1 (by omega)
theorem callN_stuck {G : Tab} {f : Nat} {d : FnDef} (hd : G.fns[f]? = some d) : ∀ {k b : Nat} {vs : List PV} {S : Store}, (d.lv = 0 ∨ k < d.lv) → callN G k f b vs S = .stuck
  | 0, b, vs, S, h => rfl
  | k + 1, b, vs, S, h => by
    unfold callN
    rw [hd]
    dsimp only
    rw [if_neg (by omega)]
    split
    · rename_i e
      exact callN_stuck hd (by omega)
    · rfl
theorem callN_none {G : Tab} {f : Nat} (hd : G.fns[f]? = none) : ∀ {k b : Nat} {vs : List PV} {S : Store}, callN G k f b vs S = .stuck
  | 0, _, _, _ => rfl
  | k + 1, _, _, _ => by
    unfold callN
    rw [hd]
/-- a def of the table, as a promise -/
def spF (N : Nm) (G : Tab) (f : Nat) (d : FnDef) : Sp := fun vs H Q E => vs.length = d.np ∧ ∃ ρ S pvs b, b ≤ S.length ∧ Rel N ρ H S ∧ RVs N ρ H pvs vs ∧ Post N b (RVl N) E Q ρ S H (callN G d.lv f b pvs S)
structure FnT (P : Program) (w : World) (mg : Str → Option Value) (base : Heap) (N : Nm) (G : Tab) (fa : Nat → Addr) (fd : Nat → FuncData) (ps : Nat → List Str) (k : Nat) : Prop where
  fn : ∀ f d, G.fns[f]? = some d → 1 ≤ d.lv → d.lv ≤ k → FnG P w N.K mg base (2 * d.lv) (fa f) (fd f) (ps f) (spF N G f d)
  len : ∀ f d, G.fns[f]? = some d → (ps f).length = d.np
  bind : ∀ f d, G.fns[f]? = some d → ∀ us : List Value, us.length = d.np → bindArgs (fd f) ⟨us, []⟩ = pure ((ps f).zip us)
  kp : ∀ f d, G.fns[f]? = some d → PySem.W.keepIn N.K (.ref (fa f)) = true
section
variable {N : Nm} {X : Cx} {W : WX} {kk k n : Nat} {G : Tab} {fa : Nat → Addr} {fd : Nat → FuncData} {ps : Nat → List Str}
theorem Room.mono' {j k : Nat} {A : Around} (r : Room k A) (h : j ≤ k) : Room j A := r.mono h
/-- what a call wants -/
def CallAt (N : Nm) (G : Tab) (k : Nat) (f : Nat) (W : XK) (vs : List V) (H : Hp) (Q : VK) : Prop := ∃ ρ S pvs b, b ≤ S.length ∧ Rel N ρ H S ∧ RVs N ρ H pvs vs ∧ Post N b (RVl N) W Q ρ S H (callN G k f b pvs S)
theorem CallAt.sp {f : Nat} {W : XK} {vs : List V} {H : Hp} {Q : VK} (h : CallAt N G k f W vs H Q) : ∃ d, G.fns[f]? = some d ∧ 1 ≤ d.lv ∧ d.lv ≤ k ∧ vs.length = d.np ∧ spF N G f d vs H Q W := by
  obtain ⟨ρ, S, pvs, b, hb, R, rs, p⟩ := h
  cases hd : G.fns[f]? with
  | none => rw [callN_none hd] at p; exact p.elim
  | some d =>
    by_cases hl : d.lv = 0 ∨ k < d.lv
    · rw [callN_stuck hd hl] at p; exact p.elim
    · have h1 : 1 ≤ d.lv := by omega
      have h2 : d.lv ≤ k := by omega
      rw [callN_le hd h1 h2] at p
      have hn : pvs.length = d.np := by
        unfold runFn at p
        split at p
        · rename_i q; exact q.1
        · exact p.elim
      have hv : vs.length = d.np := by rw [← rs.length]; exact hn
      exact ⟨d, rfl, h1, h2, hv, hv, ρ, S, pvs, b, hb, R, rs, by rw [callN_le hd h1 (Nat.le_refl _)]; exact p⟩
theorem run_call (g : Good N X W kk) (T : FnT X.prog X.w X.mg X.base N G fa fd ps k) (hk : 2 * k ≤ kk) {f : Nat} {pins : List (Addr × Obj)} {σ : L2.St} {H : Hp} {s : Shared} {Q : VK} {us : List Value} {vs : List V} (I : L2.Inv X pins σ H s) (r : Vals vs us)
    (h : CallAt N G k f (WE W σ) vs H Q) : wpAny (model X.prog X.w) X.A (call (.ref (fa f)) us) (EP X pins σ Q) X.xe s := by
  obtain ⟨d, hd, h1, h2, hv, sp⟩ := h.sp
  have hu : us.length = d.np := by rw [← r.length]; exact hv
  have F := T.fn f d hd h1 h2
  rw [← g.hK] at F
  exact run_fnG (args := ⟨us, []⟩) F (g.room.mono (by omega)) g.guards (.of_eq (T.bind f d hd us hu)) (passAt g.takes σ) I r sp
/-- keywords, by the places of the parameters -/
theorem run_callK (g : Good N X W kk) (T : FnT X.prog X.w X.mg X.base N G fa fd ps k) (hk : 2 * k ≤ kk) {f : Nat} {pins : List (Addr × Obj)} {σ : L2.St} {H : Hp} {s : Shared} {Q : VK} {us ws zs : List Value} {ks : List Str} {vs : List V} (I : L2.Inv X pins σ H s) (r : Vals vs zs)
    (hb : zs.length = (ps f).length → bindArgs (fd f) ⟨us, ks.zip ws⟩ = pure ((ps f).zip zs)) (h : CallAt N G k f (WE W σ) vs H Q) : wpAny (model X.prog X.w) X.A (call (.ref (fa f)) us (ks.zip ws)) (EP X pins σ Q) X.xe s := by
  obtain ⟨d, hd, h1, h2, hv, sp⟩ := h.sp
  have hu : zs.length = d.np := by rw [← r.length]; exact hv
  have F := T.fn f d hd h1 h2
  rw [← g.hK] at F
  exact run_fnG (args := ⟨us, ks.zip ws⟩) F (g.room.mono (by omega)) g.guards (.of_eq (hb (by rw [hu, T.len f d hd]))) (passAt g.takes σ) I r sp
theorem Post.base {α β : Type} {RR : List Addr → Hp → α → β → Prop} {Wk : WK} {Q : β → Hp → Prop} {ρ : List Addr} {S : Store} {H : Hp} {r : Res α} (p : Post N n RR Wk Q ρ S H r) : Post N S.length RR Wk Q ρ S H r := by
  cases r with
  | ok v S' => exact fun ρ' H' x st rv => p ρ' H' x st.any rv
  | exn e S' => exact fun ρ' H' c d st rv => p ρ' H' c d st.any rv
  | stuck => exact p
theorem callAt_of {f : Nat} {Wk : WK} {vs : List V} {pvs : List PV} {H : Hp} {Q : VK} {ρ : List Addr} {S : Store} (R : Rel N ρ H S) (rs : RVs N ρ H pvs vs) (p : Post N n (RVl N) Wk Q ρ S H (callN G k f S.length pvs S)) : CallAt N G k f Wk vs H Q :=
  ⟨ρ, S, pvs, S.length, Nat.le_refl _, R, rs, p.base⟩
/-! ### f(..) -/
theorem e_call (g : Good N X W kk) (T : FnT X.prog X.w X.mg X.base N G fa fd ps k) (hk : 2 * k ≤ kk) {f : Nat} {x : Str} {p pos : Pos} {e : Expr} {es : List Expr} {h : Ev → Store → Res (List PV)} {d : FnDef} (hd : G.fns[f]? = some d) (hg : Gl X x) (hm : X.mg x = some (.ref (fa f))) (ha : PA X (e :: es) (tA N n W h))
    (hdb : (x == ("__debug__" : Str)) = false) (he : starEach (e :: es) X.env = (false, PySem.eval e X.env) :: starEach es X.env) (hpl : (backTo pos (starEach es X.env)).any (·.1) = false) :
    PE X (.Call (.Name x p) (e :: es) [] pos) (tE N n W fun ps S => (h ps S).bind fun vs S1 => callN G k f S1.length vs S1) := by
  refine ⟨fun pins s σ H Q I hq => ?_⟩
  obtain ⟨ρ, S, ps', R, sl, p⟩ := hq
  refine wpAny_Call_Name_kw (ld_glob I hg hm ?_ hdb)
  refine PySem.W.callWith_K (h₀ := X.base) I.ok.mod.kin (by rw [g.hK]; exact T.kp f d hd) (thn (ha.run pos pins s σ H _ I ⟨ρ, S, ps', R, sl, (Post.bind (R := RVls N) p)⟩) fun us s1 ⟨vs, H1, I1, r, ρ1, pvs, S1, st, rs, p1⟩ => ⟨I1.kIn, ?_⟩) he hpl
  exact run_call g T hk I1 r (callAt_of st.rel rs p1)
theorem e_call0 (g : Good N X W kk) (T : FnT X.prog X.w X.mg X.base N G fa fd ps k) (hk : 2 * k ≤ kk) {f : Nat} {x : Str} {p pos : Pos} {d : FnDef} (hd : G.fns[f]? = some d) (hg : Gl X x) (hm : X.mg x = some (.ref (fa f))) (hdb : (x == ("__debug__" : Str)) = false) :
    PE X (.Call (.Name x p) [] [] pos) (tE N n W fun ps S => (Res.ok [] S).bind fun vs S1 => callN G k f S1.length vs S1) := by
  refine ⟨fun pins s σ H Q I hq => ?_⟩
  obtain ⟨ρ, S, ps', R, sl, p⟩ := hq
  refine wpAny_Call_Name_kw (ld_glob I hg hm ?_ hdb)
  exact PySem.W.callWith_K0 I.kIn (by rw [g.hK]; exact T.kp f d hd) (run_call (us := []) g T hk I .nil (callAt_of R (by simp [RVs]) p))
theorem k_nil : PK X [] (tA N n W fun _ S => .ok [] S) := ⟨fun pos pins s σ H Q I hq => pk_nil.run pos pins s σ H Q I (by
  obtain ⟨ρ, S, ps, R, sl, p⟩ := hq
  exact p.ok R (by simp [RVs]))⟩
theorem k_cons {nm : Option Str} {kpos : Pos} {e : Expr} {es : List Keyword} {f : Ev → Store → Res PV} {h : Ev → Store → Res (List PV)} (he : PE X e (tE N n W f)) (hr : PK X es (tA N n W h)) :
    PK X (⟨nm, e, kpos⟩ :: es) (tA N n W (aCons f h)) := by
  refine ⟨fun pos pins s σ H Q I hq => (pk_cons he hr).run pos pins s σ H Q I ?_⟩
  refine read1 (kk := fun v S1 ps => (h ps S1).bind fun vs S2 => .ok (v :: vs) S2) hq fun ρ S H2 v x ps R sl ra p => ?_
  exact ⟨ρ, S, ps, R, sl, (Post.bind (R := RVls N) p).mono fun ys H3 ⟨ρ1, vs, S1, st, rs, p1⟩ => p1.ok st.rel (.cons (ra.stp st) rs)⟩
theorem RVs.pick {ρ : List Addr} {H : Hp} {vs : List PV} {xs : List V} (r : RVs N ρ H vs xs) : ∀ ord : List Nat, RVs N ρ H (ord.map fun j => vs.getD j .non) (ord.map fun j => xs.getD j .non)
  | [] => by simp [RVs]
  | j :: t => by
    refine .cons ?_ (RVs.pick r t)
    show RV N ρ H (vs.getD j .non) (xs.getD j .non)
    rw [List.getD_eq_getElem?_getD, List.getD_eq_getElem?_getD]
    cases e : vs[j]? with
    | none =>
      have : xs[j]? = none := by rw [List.getElem?_eq_none_iff] at e ⊢; rw [← r.length]; exact e
      rw [this]; exact RV.non_iff.mpr rfl
    | some v =>
      obtain ⟨x, h1, h2⟩ := r.get e
      rw [h1]; exact h2
theorem vals_pick {vs : List V} {us : List Value} (r : Vals vs us) : ∀ ord : List Nat, Vals (ord.map fun j => vs.getD j .non) (ord.map fun j => us.getD j .none)
  | [] => .nil
  | j :: t => by
    refine .cons ?_ (vals_pick r t)
    show RelV (vs.getD j .non) (us.getD j .none)
    rw [List.getD_eq_getElem?_getD, List.getD_eq_getElem?_getD]
    clear t
    induction r generalizing j with
    | nil => exact rfl
    | cons h t ih =>
      cases j with
      | zero => exact h
      | succ j => simpa using ih j
theorem vals_app {vs : List V} {us : List Value} {ws : List V} {zs : List Value} (r : Vals vs us) (t : Vals ws zs) : Vals (vs ++ ws) (us ++ zs) := by
  induction r with
  | nil => exact t
  | cons h _ ih => exact .cons h ih
theorem e_callK (g : Good N X W kk) (T : FnT X.prog X.w X.mg X.base N G fa fd ps k) (hk : 2 * k ≤ kk) {f : Nat} {x : Str} {p pos : Pos} {es : List Expr} {kws : List Keyword} {h h2 : Ev → Store → Res (List PV)} {d : FnDef} (hd : G.fns[f]? = some d) (hg : Gl X x) (hm : X.mg x = some (.ref (fa f))) (ha : PA X es (tA N n W h)) (hw : PK X kws (tA N n W h2))
    (hdb : (x == ("__debug__" : Str)) = false) (he : ∀ e r, es = e :: r → starEach (e :: r) X.env = (false, PySem.eval e X.env) :: starEach r X.env) (hpl : ((backTo pos (starEach es X.env)).any (·.1) || (backToKw pos (keywordEach kws X.env)).any (·.1.isNone)) = false)
    (hn : es = [] → ∀ ps S, h ps S = .ok [] S) (hall : (backToKw pos (keywordEach kws X.env)).all (·.1.isSome) = true) {ks : List Str} (hks : (backToKw pos (keywordEach kws X.env)).filterMap (·.1) = ks) {a b : Nat} {ord : List Nat}
    (hb : ∀ us ws : List Value, us.length = a → ws.length = b → bindArgs (fd f) ⟨us, ks.zip ws⟩ = pure ((ps f).zip (ord.map fun j => (us ++ ws).getD j .none))) :
    PE X (.Call (.Name x p) es kws pos) (tE N n W fun ps S => (h ps S).bind fun vs S1 => (h2 ps S1).bind fun ws S2 => guardR (decide (vs.length = a) && decide (ws.length = b)) (callN G k f S2.length (ord.map fun j => (vs ++ ws).getD j .non) S2)) := by
  refine ⟨fun pins s σ H Q I hq => ?_⟩
  obtain ⟨ρ, S, ps', R, sl, p⟩ := hq
  refine wpAny_Call_Name_kw (ld_glob I hg hm ?_ hdb)
  have fin : ∀ (us : List Value) (s1 : Shared) (vs : List V) (H1 : Hp), L2.Inv X pins σ H1 s1 → Vals vs us → (∃ ρ1 pvs S1, Stp N n ρ S H ρ1 S1 H1 ∧ RVs N ρ1 H1 pvs vs ∧ Post N n (RVl N) (fun c d H => W c d σ H) Q ρ1 S1 H1 ((h2 ps' S1).bind fun ws S2 => guardR (decide (pvs.length = a) && decide (ws.length = b)) (callN G k f S2.length (ord.map fun j => (pvs ++ ws).getD j .non) S2))) →
      wpAny (model X.prog X.w) X.A (evalAll ((backToKw pos (keywordEach kws X.env)).map (·.2))) (fun zs s2 => N.K.In s2.heap ∧ wpAny (model X.prog X.w) X.A (call (.ref (fa f)) us (((backToKw pos (keywordEach kws X.env)).filterMap (·.1)).zip zs)) (EP X pins σ Q) X.xe s2) X.xe s1 := by
    intro us s1 vs H1 I1 r ⟨ρ1, pvs, S1, st, rs, p1⟩
    refine thn (hw.run pos pins s1 σ H1 _ I1 ⟨ρ1, S1, ps', st.rel, sl.stp st, Post.bind (R := RVls N) p1⟩) fun zs s2 ⟨ws, H2, I2, r2, ρ2, pws, S2, st2, rs2, p2⟩ => ⟨by rw [← g.hK]; exact I2.kIn, ?_⟩
    obtain ⟨gd, p2⟩ := p2.guard
    rw [Bool.and_eq_true, decide_eq_true_eq, decide_eq_true_eq] at gd
    rw [hks]
    have l1 : us.length = a := by rw [← r.length, ← rs.length]; exact gd.1
    have l2 : zs.length = b := by rw [← r2.length, ← rs2.length]; exact gd.2
    exact run_callK g T hk I2 (vals_pick (vals_app r r2) ord) (fun _ => hb us zs l1 l2) (callAt_of st2.rel (RVs.pick ((rs.stp st2).append rs2) ord) p2)
  have hkp := T.kp f d hd
  cases es with
  | nil =>
    refine PySem.W.callWith_KW0 (K := N.K) (h₀ := X.base) (by rw [← g.hK]; exact I.ok.mod.kin) hkp hall ?_ hpl
    obtain ⟨ρ1, pvs, S1, st, rs, p1⟩ : ∃ ρ1 pvs S1, Stp N n ρ S H ρ1 S1 H ∧ RVs N ρ1 H pvs [] ∧ Post N n (RVl N) (fun c d H => W c d σ H) Q ρ1 S1 H ((h2 ps' S1).bind fun ws S2 => guardR (decide (pvs.length = a) && decide (ws.length = b)) (callN G k f S2.length (ord.map fun j => (pvs ++ ws).getD j .non) S2)) := by
      dsimp only at p
      rw [hn rfl] at p
      exact ⟨ρ, [], S, Stp.refl R, by simp [RVs], p⟩
    exact thn (fin [] s [] H I .nil ⟨ρ1, pvs, S1, st, rs, p1⟩) fun zs s2 z => z
  | cons e r =>
    refine PySem.W.callWith_KW (K := N.K) (h₀ := X.base) (by rw [← g.hK]; exact I.ok.mod.kin) hkp hall (thn (ha.run pos pins s σ H _ I ⟨ρ, S, ps', R, sl, (Post.bind (R := RVls N) p)⟩) fun us s1 ⟨vs, H1, I1, r, q⟩ => fin us s1 vs H1 I1 r q) hpl (he e r rfl)
/-! ### o.m(..) -/
/-- the classes' facts -/
structure ClT (N : Nm) (G : Tab) (fa : Nat → Addr) : Prop where
  wd : Wd N G
  meth : ∀ (c : Nat) (kd : ClsDef) (m f : Nat), G.cls[c]? = some kd → kd.meths.lookup m = some f → Meth N.K (N.ca c) (N.fld m) (fa f)
  mlt : ∀ (c : Nat) (kd : ClsDef) (m f : Nat), G.cls[c]? = some kd → kd.meths.lookup m = some f → m < N.nf
  prop : ∀ (c : Nat) (kd : ClsDef) (m f : Nat), G.cls[c]? = some kd → kd.props.lookup m = some f → ∃ p, PropOf N.K (N.ca c) (N.fld m) p (fa f)
  init : ∀ (c : Nat) (kd : ClsDef), G.cls[c]? = some kd → Mk N.K (N.ca c) (fa kd.init)
theorem lookup_zip {α : Type} {q : Nat} (hq : q < N.nf) : ∀ {fs : List Nat} {ys : List α}, (∀ i ∈ fs, i < N.nf) → fs.length = ys.length → ((fs.map N.fld).zip ys).lookup (N.fld q) = lookF fs ys q
  | [], ys, _, _ => by simp [lookF]
  | _ :: _, [], _, h => by cases h
  | i :: fs, y :: ys, h, hl => by
    rw [List.map_cons, List.zip_cons_cons, List.lookup_cons]
    unfold lookF
    by_cases e : i = q
    · subst e
      simp
    · rw [if_neg e]
      have : (N.fld q == N.fld i) = false := by
        rw [beq_eq_false_iff_ne]
        intro z
        exact e (N.inj i q (h i (by simp)) hq z.symm)
      rw [this]
      exact lookup_zip hq (fun j hj => h j (by simp [hj])) (by simpa using hl)
theorem lookF_none {α : Type} {q : Nat} : ∀ {fs : List Nat} {ys : List α}, fs.contains q = false → lookF fs ys q = none
  | [], _, _ => by simp [lookF]
  | _ :: _, [], _ => by simp [lookF]
  | i :: fs, y :: ys, h => by
    simp only [List.contains_cons, Bool.or_eq_false_iff, beq_eq_false_iff_ne] at h
    unfold lookF
    rw [if_neg (fun e => h.1 e.symm)]
    exact lookF_none h.2
theorem RVs.lookF {ρ : List Addr} {H : Hp} {q : Nat} {v : PV} : ∀ {fs : List Nat} {vs : List PV} {ys : List V}, RVs N ρ H vs ys → PyI.lookF fs vs q = some v → ∃ y, PyI.lookF fs ys q = some y ∧ RV N ρ H v y
  | [], _, _, _, e => by simp [PyI.lookF] at e
  | _ :: _, [], _, _, e => by simp [PyI.lookF] at e
  | i :: fs, w :: vs, ys, h, e => by
    obtain ⟨y, t, ey, h1, h2⟩ := h.cons_inv
    subst ey
    unfold PyI.lookF at e ⊢
    split at e
    · rename_i z
      cases e
      exact ⟨y, by rw [if_pos z], h1⟩
    · rename_i z
      rw [if_neg z]
      exact RVs.lookF h2 e
theorem methOf_eq {v : PV} {m f : Nat} {S : Store} (h : methOf G v m S = some f) : ∃ c fs vs kd, insOf v S = some (c, fs, vs) ∧ fs.contains m = false ∧ G.cls[c]? = some kd ∧ kd.meths.lookup m = some f := by
  unfold methOf at h
  split at h
  · rename_i c fs vs e
    split at h
    · cases h
    · rename_i hc
      rw [Option.bind_eq_some_iff] at h
      obtain ⟨kd, h1, h2⟩ := h
      exact ⟨c, fs, vs, kd, e, by simpa using hc, h1, h2⟩
  · cases h
theorem e_meth (g : Good N X W kk) (T : FnT X.prog X.w X.mg X.base N G fa fd ps k) (C : ClT N G fa) (hk : 2 * k ≤ kk) {m : Nat} {o e : Expr} {es : List Expr} {apos pos : Pos} {fo : Ev → Store → Res PV} {h : Ev → Store → Res (List PV)} {pl : Sem Bool}
    (ho : PE X o (tE N n W fo)) (ha : PA X (e :: es) (tA N n W h)) (hst : starEach (e :: es) X.env = (false, PySem.eval e X.env) :: starEach es X.env) (hpl : (backTo pos (starEach es X.env)).any (·.1) = false)
    (ht : PySem.eval (.Call (.Attribute o (N.fld m) apos) (e :: es) [] pos) X.env = (do
      let ov ← PySem.eval o X.env
      standAt apos.atName
      let (f, first) ← holding [ov] (getMethod ov (N.fld m) pl)
      callWith pos f first (backTo pos (starEach (e :: es) X.env)) (backToKw pos (keywordEach [] X.env)))) :
    PE X (.Call (.Attribute o (N.fld m) apos) (e :: es) [] pos) (tE N n W fun ps S => (fo ps S).bind fun v S1 => (match methOf G v m S1 with
      | some f => (h ps S1).bind fun vs S2 => callN G k f S2.length (v :: vs) S2
      | none => .stuck)) := by
  refine ⟨fun pins s σ H Q I hq => ?_⟩
  obtain ⟨ρ, S, ps', R, sl, p⟩ := hq
  refine PySem.W.methodCall_KW (pl := pl) (thn (ho.run pins s σ H _ I ⟨ρ, S, ps', R, sl, Post.bind (R := RVl N) p⟩) fun u s1 ⟨x, H1, I1, rx, ρ1, v, S1, st, rv, p1⟩ => ?_) ht
  split at p1
  · rename_i f hf
    obtain ⟨c, fs, vs0, kd, e1, e2, e3, e4⟩ := methOf_eq hf
    obtain ⟨a, dx, ys, ex, ea, rys, hl, hnf⟩ := RV.insO st.rel rv e1
    have M := C.meth c kd m f e3 e4
    subst ex
    obtain rfl : u = Value.ref a := rx
    have hlk : ((fs.map N.fld).zip ys).lookup (N.fld m) = none := by
      rw [lookup_zip (C.mlt c kd m f e3 e4) hnf (by rw [hl, rys.length])]
      exact lookF_none e2
    rw [← g.hK] at M
    have hc := (C.wd.cls c kd e3).cls
    rw [← g.hK] at hc
    refine getmeth_ok I1 ea hc M hlk ?_
    refine PySem.W.callWith_K (first := [.ref a]) (h₀ := X.base) I.ok.mod.kin M.kp (thn (ha.run pos pins s1 σ H1 _ I1 ⟨ρ1, S1, ps', st.rel, sl.stp st, Post.bind (R := RVls N) p1⟩) fun us s2 ⟨vs, H2, I2, r, ρ2, pvs, S2, st2, rs, p2⟩ => ⟨I2.kIn, ?_⟩) hst hpl
    exact run_call (us := .ref a :: us) (vs := .ref a :: vs) g T hk I2 (.cons rfl r) (callAt_of st2.rel (.cons (rv.stp st2) rs) p2)
  · exact p1.elim
theorem e_meth0 (g : Good N X W kk) (T : FnT X.prog X.w X.mg X.base N G fa fd ps k) (C : ClT N G fa) (hk : 2 * k ≤ kk) {m : Nat} {o : Expr} {apos pos : Pos} {fo : Ev → Store → Res PV} {pl : Sem Bool}
    (ho : PE X o (tE N n W fo))
    (ht : PySem.eval (.Call (.Attribute o (N.fld m) apos) [] [] pos) X.env = (do
      let ov ← PySem.eval o X.env
      standAt apos.atName
      let (f, first) ← holding [ov] (getMethod ov (N.fld m) pl)
      callWith pos f first (backTo pos (starEach [] X.env)) (backToKw pos (keywordEach [] X.env)))) :
    PE X (.Call (.Attribute o (N.fld m) apos) [] [] pos) (tE N n W fun ps S => (fo ps S).bind fun v S1 => (match methOf G v m S1 with
      | some f => (Res.ok [] S1).bind fun vs S2 => callN G k f S2.length (v :: vs) S2
      | none => .stuck)) := by
  refine ⟨fun pins s σ H Q I hq => ?_⟩
  obtain ⟨ρ, S, ps', R, sl, p⟩ := hq
  refine PySem.W.methodCall_KW (pl := pl) (thn (ho.run pins s σ H _ I ⟨ρ, S, ps', R, sl, Post.bind (R := RVl N) p⟩) fun u s1 ⟨x, H1, I1, rx, ρ1, v, S1, st, rv, p1⟩ => ?_) ht
  split at p1
  · rename_i f hf
    obtain ⟨c, fs, vs0, kd, e1, e2, e3, e4⟩ := methOf_eq hf
    obtain ⟨a, dx, ys, ex, ea, rys, hl, hnf⟩ := RV.insO st.rel rv e1
    have M := C.meth c kd m f e3 e4
    subst ex
    obtain rfl : u = Value.ref a := rx
    have hlk : ((fs.map N.fld).zip ys).lookup (N.fld m) = none := by
      rw [lookup_zip (C.mlt c kd m f e3 e4) hnf (by rw [hl, rys.length])]
      exact lookF_none e2
    rw [← g.hK] at M
    have hc := (C.wd.cls c kd e3).cls
    rw [← g.hK] at hc
    refine getmeth_ok I1 ea hc M hlk ?_
    exact PySem.W.callWith_K0 (first := [.ref a]) I1.kIn M.kp (run_call (us := [.ref a]) (vs := [.ref a]) g T hk I1 (.cons rfl .nil) (callAt_of st.rel (.cons rv (by simp [RVs])) p1))
  · exact p1.elim
/-! ### o.a -/
theorem noAt_eq {c m : Nat} {kd : ClsDef} (hc : G.cls[c]? = some kd) (h : noAt G c m = true) : kd.props.lookup m = none ∧ kd.meths.lookup m = none := by
  unfold noAt at h
  rw [hc] at h
  simpa using h
theorem noAt_cls {c m : Nat} (h : noAt G c m = true) : ∃ kd, G.cls[c]? = some kd := by
  unfold noAt at h
  split at h
  · rename_i kd e; exact ⟨kd, e⟩
  · cases h
theorem e_attr (g : Good N X W kk) (T : FnT X.prog X.w X.mg X.base N G fa fd ps k) (C : ClT N G fa) (hk : 2 * k + 1 ≤ kk) {m : Nat} (hm : m < N.nf) {o : Expr} {pos : Pos} {fo : Ev → Store → Res PV} (ho : PE X o (tE N n W fo)) (hb : attributeBase o (N.fld m) X.env (PySem.eval o X.env) = PySem.eval o X.env) :
    PE X (.Attribute o (N.fld m) pos) (tE N n W fun ps S => (fo ps S).bind fun v S1 => getAt G (callN G k) v m S1) := by
  refine ⟨fun pins s σ H Q I hq => ?_⟩
  obtain ⟨ρ, S, ps', R, sl, p⟩ := hq
  refine attr_of hb (thn (ho.run pins s σ H _ I ⟨ρ, S, ps', R, sl, Post.bind (R := RVl N) p⟩) fun u s1 ⟨x, H1, I1, rx, ρ1, v, S1, st, rv, p1⟩ => ?_)
  unfold getAt at p1
  split at p1
  · rename_i c fs vs0 e1
    obtain ⟨a, dx, ys, ex, ea, rys, hl, hnf⟩ := RV.insO st.rel rv e1
    subst ex
    obtain rfl : u = Value.ref a := rx
    split at p1
    · rename_i f hf
      rw [Option.bind_eq_some_iff] at hf
      obtain ⟨kd, h1, h2⟩ := hf
      obtain ⟨pa, hp⟩ := C.prop c kd m f h1 h2
      have hc := (C.wd.cls c kd h1).cls
      rw [← g.hK] at hc hp
      have p2 : Post N S1.length (RVl N) (fun _ _ _ => False) Q ρ1 S1 H1 (callN G k f S1.length [v] S1) := by
        cases hr : callN G k f S1.length [v] S1 with
        | ok z S2 => rw [hr] at p1; exact Post.base p1
        | exn z S2 => rw [hr] at p1; exact p1.elim
        | stuck => rw [hr] at p1; exact p1
      have ca : CallAt N G k f (fun _ _ _ => False) [V.ref a] H1 Q := ⟨ρ1, S1, [v], S1.length, Nat.le_refl _, st.rel, .cons rv (by simp [RVs]), p2⟩
      obtain ⟨d, hd, hl1, hl2, hv, sp⟩ := ca.sp
      have F := T.fn f d hd hl1 hl2
      rw [← g.hK] at F
      obtain ⟨mA, O, _, _, _, _⟩ := ins_get I1.hok ea
      obtain ⟨od, J, _⟩ := O.look
      obtain ⟨rest, hrec⟩ := hp.rec_
      have I2 := I1.tok (s1.toks + 1)
      refine PySem.W.get_bind I1.kIn J (PySem.W.plainGet_of (hc.get (N.fld m))).1 (PySem.W.findObj_data (by
        obtain ⟨cd, hc', _⟩ := PySem.W.any_some hc.hd
        show (PySem.W.clsIn X.K (N.ca c)).isSome = true
        rw [hc']; rfl) hp.at_ hp.get hp.tak) (PySem.W.plainGet_of (hc.get (N.fld m))).2 (wpAny_call (PySem.W.prop_get (s := { s1 with toks := s1.toks + 1 }) I1.kIn hrec ?_))
      have hr1 : Room (2 * k + 1) X.A := g.room.mono hk
      refine codeAny_mono (F.run X.A.in1 X.stack { s1 with toks := s1.toks + 1 } H1 ⟨[.ref a], []⟩ [.ref a] [.ref a] Q (fun _ _ _ => False) (hr1.in1.mono (by omega)) g.guards I2.env0.in1 (.of_eq (T.bind f d hd [.ref a] (by rw [← hv]; rfl))) (.cons rfl .nil) sp) fun r s' hq => ?_
      cases r with
      | error er =>
        obtain ⟨_, _, _, _, _, _, _, _, _, _, _, _, z⟩ := hq
        exact z.elim
      | ok fl =>
        cases fl with
        | ret u =>
          obtain ⟨v', H', I3, rv', q3⟩ := I2.after hq
          show wpAny _ _ (handedOut u) _ _ _
          rw [PySem.W.handedOut_of (handed_of rv')]
          exact wpAny_pure ⟨v', H', I3, rv', q3⟩
        | next => exact False.elim hq
        | brk => exact False.elim hq
        | cont => exact False.elim hq
    · split at p1
      · rename_i hn
        obtain ⟨kd, h1⟩ := noAt_cls hn
        obtain ⟨n1, n2⟩ := noAt_eq h1 hn
        obtain ⟨z, e2, p1⟩ := p1.ofO
        have cf := C.wd.cls c kd h1
        obtain ⟨y, e3, ry⟩ := rys.lookF e2
        have hc := cf.cls
        have hN := cf.fld m hm n1 n2
        rw [← g.hK] at hc hN
        exact getattr_ok I1 ea hc hN (by rw [lookup_zip hm hnf (by rw [hl, rys.length])]; exact e3) fun u' s2 I2 ru => ⟨y, H1, I2, ru, p1.ok st.rel ry⟩
      · exact p1.elim
  · exact p1.elim
end
end PyI
set_option Elab.async false
set_option linter.all false
set_option maxRecDepth 100000
set_option maxHeartbeats 2000000
/-! PyO: classes made, class methods, str of an own object -/
namespace PySem.W
open Lean Elab Tactic Meta PySem PySem.Spec PySem.Calls PyProof.Rows Builtin Builtin.Str
section
variable {prog : Program} {w : World} {M : Model} {A : Around} {E : Value → Shared → Prop} {s : Shared} {K : Frag} {x C f : Addr} {ox : Obj} {od : Option Obj}
theorem pyi_str {Q : Value → Shared → Prop} (hu : A.in1.in1.units < cLine) (X : K.In s.heap) (I : InstAt s.heap x ox C od) (hs : findIn K (.ref C) "__str__" = some (some (.ref f))) (hf : isFn K (.ref f) = true)
    (h : wpAny (model prog w) A.in1.in1 (call (.ref f) [.ref x]) (StrBack Q) E s) : wpAny (model prog w) A (call (.type "str") [.ref x]) Q E s := by
  refine callType_codes (T := "str") (Bi := Builtin.«object.__init__») (Q₁ := fun r s₁ => ∃ y u, r = .str y u ∧ Q r s₁) PySem.F.called_str (PySem.F.typeCall_str_1 _) PySem.F.entry_object_init ?_ ?_
  · refine codeAny_of_tree ?_
    show wpAny _ A.in1.in1 (do checkBuiltinCall "str.__new__" ⟨[.type "str", .ref x], []⟩; again (.builtin "str.__new__" ⟨[.type "str", .ref x], []⟩)) _ _ s
    refine wpAny_bind (wpAny_of_eq (PySem.F.newCall_str_1 _) (wpAny_pure ⟨plainId_quiet (by decide +kernel) _, codeAny_builtin PySem.F.entry_str_new ?_⟩))
    rw [Around.under_plainId (by decide +kernel) _]
    rw [str_new_tree]
    refine wpAny_bind (wpAny_pure ?_)
    refine wpAny_bind (wpAny_of_eq isSubtype_str_str ?_)
    have key : wpAny (model prog w) A.in1.in1 (PySem.Builtin.Str.strOf (.ref x)) (fun r s₁ => ∃ y u, r = .str y u ∧ Q r s₁) E s := by
      unfold PySem.Builtin.Str.strOf
      rw [show isExactStr (.ref x) = false from rfl]
      refine wpAny_bind (m := cRoomFor _ _) (wpAny_cRoomFor hu ?_)
      refine wpAny_bind (m := callSpecial? (.ref x) (Str.ofString "__str__")) (special_fn X I hs (beq_iff_eq.mp hf) (wpAny_mono h (fun r s' z => ?_) fun _ _ y => y))
      cases r <;> first | exact z.elim | exact wpAny_pure ⟨_, _, rfl, z⟩
    exact wpAny_bind (wpAny_mono key (fun r s₁ hr => wpAny_pure hr) fun _ _ y => y)
  · rintro obj s₁ ⟨y, u, rfl, hq⟩
    exact ⟨typeIs_str _ _ _, PySem.F.args_object_init_2 _ _, object_init_meets PySem.F.called_str.init.lookup PySem.F.called_str.made (by decide) prog w A.in1 _ s₁ ⟨typeIs_str _ _ _, rfl, hq⟩⟩
end
end PySem.W
namespace PyI
open PySem PySem.Spec PyProof.Rows L2
section
variable {N : Nm} {X : Cx} {W : WX} {kk k n : Nat} {G : Tab} {fa : Nat → Addr} {fd : Nat → FuncData} {ps : Nat → List Str}
/-- a def of the table runs under other surroundings, and lets no exception out -/
theorem run_at (g : Good N X W kk) (T : FnT X.prog X.w X.mg X.base N G fa fd ps k) {A : Around} (hr : Room (2 * k) A) (hg : A.guards = some []) {f : Nat} {pins : List (Addr × Obj)} {σ : L2.St} {H : Hp} {s : Shared} {Q : VK} {us : List Value} {vs : List V} (I : L2.Inv X pins σ H s) (e0 : Env0 X.prog X.w X.K X.mg X.base A X.stack s H) (r : Vals vs us)
    (h : CallAt N G k f (fun _ _ _ => False) vs H Q) {E' : Value → Shared → Prop} : wpAny (model X.prog X.w) A (call (.ref (fa f)) us) (EP X pins σ Q) E' s := by
  obtain ⟨d, hd, h1, h2, hv, sp⟩ := h.sp
  have hu : us.length = d.np := by rw [← r.length]; exact hv
  have F := T.fn f d hd h1 h2
  rw [← g.hK] at F
  refine wpAny_call (codeAny_mono (F.run A X.stack s H ⟨us, []⟩ us vs Q _ (hr.mono (by omega)) hg e0 (.of_eq (T.bind f d hd us hu)) r sp) fun r s' hq => ?_)
  cases r with
  | error er =>
    obtain ⟨_, _, _, _, _, _, _, _, _, _, _, _, z⟩ := hq
    exact z.elim
  | ok fl =>
    cases fl with
    | ret u => exact I.after hq
    | next => exact False.elim hq
    | brk => exact False.elim hq
    | cont => exact False.elim hq
theorem Post.noX {Wk W2 : WK} {Q : VK} {ρ : List Addr} {S : Store} {H : Hp} {r : Res PV} (p : Post N n (RVl N) Wk Q ρ S H r.noX) : Post N S.length (RVl N) W2 Q ρ S H r := by
  cases r with
  | ok v S' => exact Post.base p
  | exn e S' => exact p.elim
  | stuck => exact p
structure ClS (N : Nm) (G : Tab) (fa : Nat → Addr) : Prop where
  str : ∀ (c : Nat) (kd : ClsDef) (f : Nat), G.cls[c]? = some kd → kd.strm = some f → PySem.W.findIn N.K (.ref (N.ca c)) "__str__" = some (some (.ref (fa f))) ∧ PySem.W.isFn N.K (.ref (fa f)) = true
theorem own_str (g : Good N X W kk) (T : FnT X.prog X.w X.mg X.base N G fa fd ps k) (C : ClS N G fa) (hk : 2 * k + 1 ≤ kk) : OwnOk G (callN G k) N n X W .str := by
  intro σ0 pins s σ H xs us Q I r h
  obtain ⟨ρ, S, v, c, fs, vs, kd, m, x, ex, R, rv, e1, e2, e3, p⟩ := h
  subst ex
  obtain ⟨a, dx, ys, e4, ea, _⟩ := RV.insO R rv e1
  subst e4
  obtain ⟨u, eu, ru⟩ := vals1 r
  subst eu
  obtain rfl : u = Value.ref a := ru
  obtain ⟨h1, h2⟩ := C.str c kd m e2 e3
  rw [← g.hK] at h1 h2
  obtain ⟨mA, O, _, _, _, _⟩ := ins_get I.hok ea
  obtain ⟨od, J, _⟩ := O.look
  have hr : Room (2 * k) X.A.in1.in1 := ⟨g.room.hd, by have := g.room.dp; show X.A.depth + 3 * (2 * k) + 5 < recursionLimit; omega, by have := g.room.un; show X.A.units + 1 + 1 + 16 * (2 * k) + 200 < cLine; omega⟩
  refine PySem.W.pyi_str (by have := g.room.un; show X.A.units + 1 + 1 < cLine; omega) I.kIn J h1 h2 (thn (run_at g T hr g.guards (Q := fun z H' => (∃ t, z = .str t) ∧ Q z H') I I.env0.in1.in1 (vs := [.ref a]) (.cons rfl .nil) (E' := X.xe) ⟨ρ, S, [v], S.length, Nat.le_refl _, R, .cons rv (by simp [RVs]), ?_⟩) fun u s' z => ?_)
  · unfold Res.strO at p
    split at p
    · rename_i t S' hs
      rw [hs]
      exact fun ρ' H' x st rv => ⟨⟨t, (RV.str_iff.mp rv).1⟩, p ρ' H' x st.any rv⟩
    · exact p.elim
  · obtain ⟨z1, H', I', rz, ⟨t, ez⟩, q⟩ := z
    subst ez
    obtain ⟨tk, rfl⟩ := rz
    exact ⟨.str t, H', I', ⟨tk, rfl⟩, q⟩
/-! ### C(..) -/
theorem under_guards {A : Around} {vs : List Value} {kw : List (Str × Value)} (h : A.guards = some []) : (A.under (.builtin "type.__call__" ⟨vs, kw⟩)).guards = some [] := by
  simp [Around.under, Code.guards, Code.isGuard, guardIds, pushGuards, h]
theorem new_call {Wk : WK} {Q : VK} {c : Nat} {kd : ClsDef} {ρ : List Addr} {S : Store} {H : Hp} {pvs : List PV} {vs : List V} (R : Rel N ρ H S) (rs : RVs N ρ H pvs vs) (hc : G.cls[c]? = some kd) (p : Post N n (RVl N) Wk Q ρ S H (newI G (callN G k) c pvs S)) :
    ∀ x dx, H x = none → H dx = none → dx ≠ x → CallAt N G k kd.init Wk (.ref x :: vs) (upd (upd H dx (.own x)) x (.ins (N.ca c) dx [])) (fun v H2 => v = .non ∧ Q (.ref x) H2) := by
  intro x dx hx hdx ne
  have st1 : Stp N S.length ρ S H ρ S (upd H dx (.own x)) := Stp.laid R hdx
  have hx1 : upd H dx (.own x) x = none := by rw [upd_ne (Ne.symm ne)]; exact hx
  have st2 : Stp N S.length ρ S (upd H dx (.own x)) (ρ ++ [x]) (S ++ [.ins c [] []]) (upd (upd H dx (.own x)) x (.ins (N.ca c) dx [])) :=
    Stp.alloc st1.rel hx1 ⟨dx, [], upd_same, by simp [RVs], rfl, fun _ h => by cases h⟩ (fun _ _ e => by cases e)
  have st := st1.trans st2
  refine ⟨ρ ++ [x], S ++ [.ins c [] []], .ref S.length :: pvs, S.length, by simp, st.rel, .cons ?_ (rs.stp st), ?_⟩
  · simp only [RV]
    exact ⟨x, by rw [← R.len]; simp, rfl⟩
  · unfold newI at p
    rw [hc] at p
    dsimp only at p
    split at p
    · rename_i S2 hr
      rw [hr]
      intro ρ' H' z st' rz
      refine ⟨RV.non_iff.mp rz, ?_⟩
      have tot := st.trans st'
      have hxr : RV N ρ' H' (.ref S.length) (.ref x) := by
        simp only [RV]
        obtain ⟨t, et⟩ := st'.pre
        refine ⟨x, ?_, rfl⟩
        rw [← et, ← R.len]
        simp
      split at p
      · cases e : fz S2 S.length 6 (.ref S.length) with
        | none => rw [e] at p; exact p.elim
        | some v' =>
        rw [e] at p
        obtain ⟨c1, c2⟩ := tot.cut (n := n) R
        have q := fz_rel tot.rel S.length 6 e hxr
        rw [c1] at q
        exact p ρ H' _ c2 q
      · exact p ρ' H' _ tot.any hxr
    · rename_i e S2 hr
      rw [hr]
      split at p
      · rename_i hrf
        intro ρ' H' cls d st' re
        have tot := st.trans st'
        obtain ⟨c1, c2⟩ := tot.cut (n := n) R
        have q := re.cut S.length hrf
        rw [c1] at q
        exact p ρ H' cls d c2 q
      · exact p.elim
    · exact p.elim
theorem run_new (g : Good N X W kk) (T : FnT X.prog X.w X.mg X.base N G fa fd ps k) (C : ClT N G fa) (hk : 2 * k + 1 ≤ kk) {c : Nat} {kd : ClsDef} (hc : G.cls[c]? = some kd) {pins : List (Addr × Obj)} {σ : L2.St} {H : Hp} {s : Shared} {Q : VK} {us : List Value} {vs : List V} (I : L2.Inv X pins σ H s) (r : Vals vs us)
    {ρ : List Addr} {S : Store} {pvs : List PV} (R : Rel N ρ H S) (rs : RVs N ρ H pvs vs) (p : Post N n (RVl N) (WE W σ) Q ρ S H (newI G (callN G k) c pvs S)) : wpAny (model X.prog X.w) X.A (call (.ref (N.ca c)) us) (EP X pins σ Q) X.xe s := by
  have M := C.init c kd hc
  rw [← g.hK] at M
  have ca := new_call R rs hc p (s.heap.objs.size + 1) s.heap.objs.size (I.hok.fresh (Nat.le_succ _)) (I.hok.fresh (Nat.le_refl _)) (Nat.ne_of_lt (Nat.lt_succ_self _))
  have I2 := Inv.made (C := N.ca c) I
  obtain ⟨d, hd, h1, h2, hv, sp⟩ := ca.sp
  have F := T.fn _ d hd h1 h2
  rw [← g.hK] at F
  have hr : Room (2 * k) (X.A.under (.builtin "type.__call__" ⟨.ref (N.ca c) :: us, []⟩)) := (g.room.mono hk).make _ _ _
  have r2 : Vals (V.ref (s.heap.objs.size + 1) :: vs) (Value.ref (s.heap.objs.size + 1) :: us) := .cons rfl r
  refine wpAny_call (make_map (f := fa kd.init) I.kIn M.makes M.init (beq_iff_eq.mp M.fn) (codeAny_mono (F.run _ X.stack _ _ ⟨Value.ref (s.heap.objs.size + 1) :: us, []⟩ (Value.ref (s.heap.objs.size + 1) :: us) _ _ (WE W σ) (hr.mono (by omega)) (under_guards g.guards)
    (I2.env0.make _ us []) (.of_eq (T.bind _ d hd _ (by rw [← r2.length]; exact hv))) r2 sp) fun r s' hq' => ?_))
  cases r with
  | error e => exact passAt g.takes σ pins _ _ e s' I2 hq'
  | ok fl =>
    cases fl with
    | ret u =>
      obtain ⟨v, H', I3, rv, ev, q3⟩ := I2.after hq'
      subst ev
      exact ⟨rv, ⟨V.ref (s.heap.objs.size + 1), H', I3, rfl, q3⟩⟩
    | next => exact False.elim hq'
    | brk => exact False.elim hq'
    | cont => exact False.elim hq'
theorem e_new (g : Good N X W kk) (T : FnT X.prog X.w X.mg X.base N G fa fd ps k) (C : ClT N G fa) (hk : 2 * k + 1 ≤ kk) {c : Nat} {kd : ClsDef} (hc : G.cls[c]? = some kd) {x : Str} {p pos : Pos} {e : Expr} {es : List Expr} {h : Ev → Store → Res (List PV)} (hg : Gl X x) (hm : X.mg x = some (.ref (N.ca c))) (ha : PA X (e :: es) (tA N n W h))
    (hdb : (x == ("__debug__" : Str)) = false) (he : starEach (e :: es) X.env = (false, PySem.eval e X.env) :: starEach es X.env) (hpl : (backTo pos (starEach es X.env)).any (·.1) = false) :
    PE X (.Call (.Name x p) (e :: es) [] pos) (tE N n W fun ps S => (h ps S).bind fun vs S1 => newI G (callN G k) c vs S1) := by
  refine ⟨fun pins s σ H Q I hq => ?_⟩
  obtain ⟨ρ, S, ps', R, sl, p⟩ := hq
  have M := C.init c kd hc
  rw [← g.hK] at M
  refine wpAny_Call_Name_kw (ld_glob I hg hm ?_ hdb)
  refine PySem.W.callWith_K (h₀ := X.base) I.ok.mod.kin M.kp (thn (ha.run pos pins s σ H _ I ⟨ρ, S, ps', R, sl, (Post.bind (R := RVls N) p)⟩) fun us s1 ⟨vs, H1, I1, r, ρ1, pvs, S1, st, rs, p1⟩ => ⟨I1.kIn, ?_⟩) he hpl
  exact run_new g T C hk hc I1 r st.rel rs p1
/-- cls(..), cls a local that holds a class -/
theorem e_newV (g : Good N X W kk) (T : FnT X.prog X.w X.mg X.base N G fa fd ps k) (C : ClT N G fa) (hk : 2 * k + 1 ≤ kk) {i : Nat} {x : Str} {p pos : Pos} {e : Expr} {es : List Expr} {h : Ev → Store → Res (List PV)} (hx : PE X (.Name x p) (tVar i)) (ha : PA X (e :: es) (tA N n W h))
    (he : starEach (e :: es) X.env = (false, PySem.eval e X.env) :: starEach es X.env) (hpl : (backTo pos (starEach es X.env)).any (·.1) = false) :
    PE X (.Call (.Name x p) (e :: es) [] pos) (tE N n W fun ps S => (match ps[i]? with
    | some (some (.cls c)) => if (G.cls[c]?).isSome = true then (h ps S).bind fun vs S1 => newI G (callN G k) c vs S1 else .stuck
    | _ => .stuck)) := by
  refine ⟨fun pins s σ H Q I hq => ?_⟩
  obtain ⟨ρ, S, ps', R, sl, p⟩ := hq
  dsimp only at p
  split at p
  · rename_i c ei
    obtain ⟨xv, e1, rv⟩ := sl.2 i _ ei
    simp only [RV] at rv
    subst rv
    refine wpAny_Call_Name_kw (thn (hx.run pins s σ H (fun v H1 => v = .ref (N.ca c) ∧ H1 = H) I ⟨_, e1, rfl, rfl⟩) fun u s0 ⟨v, H0, I0, r0, ev, eH⟩ => ?_)
    subst ev; subst eH
    obtain rfl : u = Value.ref (N.ca c) := r0
    split at p
    · rename_i hs
      obtain ⟨kd, hc⟩ := Option.isSome_iff_exists.mp hs
      have M := C.init c kd hc
      rw [← g.hK] at M
      refine PySem.W.callWith_K (h₀ := X.base) I0.ok.mod.kin M.kp (thn (ha.run pos pins s0 σ H0 _ I0 ⟨ρ, S, ps', R, sl, (Post.bind (R := RVls N) p)⟩) fun us s1 ⟨vs, H1, I1, r, ρ1, pvs, S1, st, rs, p1⟩ => ⟨I1.kIn, ?_⟩) he hpl
      exact run_new g T C hk hc I1 r st.rel rs p1
    · exact p.elim
  · exact p.elim
/-! ### C.m(..), a class method -/
structure ClM (N : Nm) (G : Tab) (fa : Nat → Addr) (c : Nat) (m : Str) (f : Nat) : Prop where
  ex : ∃ mc p, ClX.CRead N.K (N.ca c) mc ∧ ClX.CMet N.K (N.ca c) mc m p (fa f)
theorem e_cmeth (g : Good N X W kk) (T : FnT X.prog X.w X.mg X.base N G fa fd ps k) (hk : 2 * k ≤ kk) {c f : Nat} {m : Str} (C : ClM N G fa c m f) {o e : Expr} {es : List Expr} {apos pos : Pos} {h : Ev → Store → Res (List PV)} {pl : Sem Bool}
    (ho : PE X o (tC (.ref (N.ca c)))) (ha : PA X (e :: es) (tA N n W h)) (hst : starEach (e :: es) X.env = (false, PySem.eval e X.env) :: starEach es X.env) (hpl : (backTo pos (starEach es X.env)).any (·.1) = false)
    (ht : PySem.eval (.Call (.Attribute o m apos) (e :: es) [] pos) X.env = (do
      let ov ← PySem.eval o X.env
      standAt apos.atName
      let (f, first) ← holding [ov] (getMethod ov m pl)
      callWith pos f first (backTo pos (starEach (e :: es) X.env)) (backToKw pos (keywordEach [] X.env)))) :
    PE X (.Call (.Attribute o m apos) (e :: es) [] pos) (tE N n W fun ps S => (h ps S).bind fun vs S1 => callN G k f S1.length (.cls c :: vs) S1) := by
  refine ⟨fun pins s σ H Q I hq => ?_⟩
  obtain ⟨ρ, S, ps', R, sl, p⟩ := hq
  obtain ⟨mc, p0, r, cm⟩ := C.ex
  rw [← g.hK] at r cm
  refine PySem.W.methodCall_KW (pl := pl) (thn (ho.run pins s σ H (fun v H1 => v = .ref (N.ca c) ∧ H1 = H) I ⟨rfl, rfl⟩) fun u s1 ⟨x, H1, I1, rx, ex, eH⟩ => ?_) ht
  subst ex; subst eH
  obtain rfl : u = Value.ref (N.ca c) := rx
  refine ClX.getmethcm_ok I1 r cm fun s2 I2 => ?_
  refine ClX.callwith_cm I2 (ClX.base_none I1 (Nat.le_refl _)) cm.fi (thn (ha.run pos _ s2 σ H1 _ I2 ⟨ρ, S, ps', R, sl, (Post.bind (R := RVls N) p)⟩) fun us s3 ⟨vs, H2, I3, rv, ρ1, pvs, S1, st, rs, p1⟩ => ⟨⟨ClX.pin_at I3, I3.kIn⟩, ?_⟩) hst hpl
  have hcl : RV N ρ1 H2 (.cls c) (.ref (N.ca c)) := by simp [RV]
  have z : wpAny (model X.prog X.w) X.A (call (.ref s1.heap.objs.size) us) (EP X ((s1.heap.objs.size, PySem.W.methodObj (.ref (fa f)) (.ref (N.ca c))) :: pins) σ Q) X.xe s3 := by
    have ca : CallAt N G k f (WE W σ) (.ref (N.ca c) :: vs) H2 Q := callAt_of st.rel (.cons hcl rs) p1
    obtain ⟨d, hd, h1, h2, hv, sp⟩ := ca.sp
    have F := T.fn f d hd h1 h2
    rw [← g.hK] at F
    have r2 : Vals (V.ref (N.ca c) :: vs) (Value.ref (N.ca c) :: us) := .cons rfl rv
    refine wpAny_call (PySem.W.method_call (ClX.pin_at I3) (codeAny_mono (F.run X.A X.stack s3 H2 ⟨.ref (N.ca c) :: us, []⟩ _ _ Q (WE W σ) (g.room.mono (by omega)) g.guards I3.env0 (.of_eq (T.bind f d hd _ (by rw [← r2.length]; exact hv))) r2 sp) fun r s' hq => ?_))
    cases r with
    | error e => exact passAt g.takes σ _ _ _ e s' I3 hq
    | ok fl =>
      cases fl with
      | ret u => exact I3.after hq
      | next => exact False.elim hq
      | brk => exact False.elim hq
      | cont => exact False.elim hq
  exact thn z fun _ _ y => ClX.unpinE y
end
end PyI
set_option Elab.async false
set_option linter.all false
set_option maxRecDepth 100000
set_option maxHeartbeats 2000000
/-! PyP: what loops walk; targets -/
namespace PyI
open PySem PySem.Spec PyProof.Rows L2
section
variable {N : Nm} {X : Cx} {W : WX} {kk k n : Nat} {G : Tab} {ρ ρ' : List Addr} {S S' : Store} {H H' : Hp}
/-! ### targets -/
theorem SlR.set {ps : Ev} {σ : L2.St} {v : PV} {x : V} (h : SlR N ρ H ps σ) (r : RV N ρ H v x) (i : Nat) : SlR N ρ H (ps.set i (some v)) (σ.set i (some x)) := by
  refine ⟨by simp [h.1], fun j w e => ?_⟩
  by_cases hj : i = j
  · subst hj
    have hi : i < ps.length := by
      have := (List.getElem?_eq_some_iff.mp e).1
      simpa using this
    rw [List.getElem?_set_self hi] at e
    cases e
    exact ⟨x, by rw [List.getElem?_set_self (by rw [← h.1]; exact hi)], r⟩
  · rw [List.getElem?_set_ne hj] at e ⊢
    exact h.2 j w e
def gNs : List Nat → TGs
  | [] => gNil
  | i :: is => gCons (gName i) (gNs is)
def setAllV (σ : L2.St) : List Nat → List V → L2.St
  | i :: is, v :: vs => setAllV (σ.set i (some v)) is vs
  | _, _ => σ
theorem gNs_ok {Q : L2.St → Hp → Prop} : ∀ {is : List Nat} {pvs : List PV} {xs : List V} {ps : Ev} {σ : L2.St}, RVs N ρ H pvs xs → pvs.length = is.length → SlR N ρ H ps σ → (SlR N ρ H (setAll ps is pvs) (setAllV σ is xs) → Q (setAllV σ is xs) H) → gNs is xs σ H Q
  | [], pvs, xs, ps, σ, r, hl, sl, q => by
    cases pvs with
    | cons _ _ => cases hl
    | nil =>
      rw [RVs.nil_iff] at r; subst r
      exact ⟨rfl, q sl⟩
  | i :: is, pvs, xs, ps, σ, r, hl, sl, q => by
    cases pvs with
    | nil => cases hl
    | cons v pvs =>
      obtain ⟨y, t, e, r1, r2⟩ := r.cons_inv
      subst e
      exact ⟨y, t, rfl, gNs_ok r2 (by simpa using hl) (sl.set r1 i) q⟩
def gPat (K : PySem.W.Frag) : Pat → TG
  | .nm i => gName i
  | .tp is => gTup K is.length (gNs is)
def Pat.ix : Pat → List Nat
  | .nm i => [i]
  | .tp is => is
def setPat (p : Pat) (x : V) (xs : List V) (σ : L2.St) : L2.St := match p with
  | .nm i => σ.set i (some x)
  | .tp is => setAllV σ is xs
theorem gPat_ok (hK : X.K = N.K) {Q : L2.St → Hp → Prop} {p : Pat} {v : PV} {x : V} {ps ps' : Ev} {σ : L2.St} (r : RV N ρ H v x) (sl : SlR N ρ H ps σ) (e : bindPat p v ps S = some ps') (q : ∀ xs, SlR N ρ H ps' (setPat p x xs σ) → Q (setPat p x xs σ) H) : gPat X.K p x σ H Q := by
  cases p with
  | nm i =>
    simp only [bindPat, Option.some.injEq] at e
    subst e
    exact q [] (sl.set r i)
  | tp is =>
    simp only [bindPat] at e
    split at e
    · split at e
      · rename_i hl
        cases e
        obtain ⟨a, ys, ex, sq, rs, _⟩ := r.tupT
        refine ⟨a, ys, ex, by rw [hK]; exact sq, by rw [← rs.length]; exact hl, ?_⟩
        exact gNs_ok (Q := Q) rs hl sl (q ys)
      · cases e
    · cases e
theorem wipe_set {σ : L2.St} {i : Nat} {o : Option V} : ∀ {vs : List Nat}, i ∈ vs → wipe (σ.set i o) vs = wipe σ vs
  | v :: vs, h => by
    unfold wipe
    by_cases hm : i ∈ vs
    · rw [wipe_set hm]
    · have e : i = v := by simpa [hm] using h
      subst e
      have key : ∀ {ws : List Nat} {τ : L2.St}, i ∉ ws → (wipe (τ.set i o) ws) = (wipe τ ws).set i o := by
        intro ws
        induction ws with
        | nil => intro τ _; rfl
        | cons w ws ih =>
          intro τ hw
          simp only [List.mem_cons, not_or] at hw
          unfold wipe
          rw [ih hw.2, List.set_comm _ _ hw.1]
      rw [key hm, List.set_set]
theorem wipe_setAll : ∀ {is : List Nat} {xs : List V} {σ : L2.St} {vs : List Nat}, (∀ i ∈ is, i ∈ vs) → wipe (setAllV σ is xs) vs = wipe σ vs
  | [], xs, σ, vs, _ => by cases xs <;> rfl
  | i :: is, [], σ, vs, _ => rfl
  | i :: is, x :: xs, σ, vs, h => by
    unfold setAllV
    rw [wipe_setAll (fun j hj => h j (by simp [hj])), wipe_set (h i (by simp))]
theorem wipe_pat {p : Pat} {x : V} {xs : List V} {σ : L2.St} {vs : List Nat} (h : ∀ i ∈ p.ix, i ∈ vs) : wipe (setPat p x xs σ) vs = wipe σ vs := by
  cases p with
  | nm i => exact wipe_set (h i (by simp [Pat.ix]))
  | tp is => exact wipe_setAll h
theorem wipe_idem {σ : L2.St} : ∀ {vs : List Nat}, wipe (wipe σ vs) vs = wipe σ vs := by
  have key : ∀ (ws vs : List Nat) (τ : L2.St), (∀ w ∈ ws, w ∈ vs) → wipe (wipe τ ws) vs = wipe τ vs := by
    intro ws
    induction ws with
    | nil => intro vs τ _; rfl
    | cons w ws ih =>
      intro vs τ h
      rw [wipe, wipe_set (h w (by simp))]
      exact ih vs τ fun z hz => h z (by simp [hz])
  intro vs
  exact key vs vs σ fun _ h => h
theorem SlR.wipe {ps : Ev} {σ : L2.St} (h : SlR N ρ H ps σ) : ∀ vs : List Nat, SlR N ρ H (wipeP ps vs) (L2.wipe σ vs)
  | [] => h
  | v :: vs => by
    have ih := SlR.wipe h vs
    refine ⟨by simp [wipeP, L2.wipe, ih.1], fun j w e => ?_⟩
    unfold wipeP at e
    unfold L2.wipe
    by_cases hj : v = j
    · subst hj
      by_cases hv : v < (wipeP ps vs).length
      · rw [List.getElem?_set_self hv] at e; cases e
      · rw [List.getElem?_eq_none (by simpa using hv)] at e; cases e
    · rw [List.getElem?_set_ne hj] at e ⊢
      exact ih.2 j w e
/-! ### what is walked -/
def IsNew (H H' : Hp) : Prop := H' = H ∨ ∃ T a b, H T = none ∧ H' = upd H T (.tup [a, b])
theorem IsNew.stp (R : Rel N ρ H S) (h : IsNew H H') : Stp N n ρ S H ρ S H' := by
  rcases h with e | ⟨T, a, b, h1, e⟩
  · subst e; exact Stp.refl R
  · subst e; exact Stp.laid R h1
/-- more lists under way, made later -/
structure More (N : Nm) (H0 : Hp) (ξ : List Addr) : Prop where
  sub : ∀ a ∈ N.ex, a ∈ ξ
  new : ∀ a ∈ ξ, a ∈ N.ex ∨ H0 a = none
theorem More.off {ξ : List Addr} (m : More N H ξ) {a : Addr} {o : HO} (h : Off N ρ a) (e : H a = some o) : Off { N with ex := ξ } ρ a :=
  ⟨h.1, fun q => (m.new a q).elim h.2 fun z => by rw [e] at z; exact (nomatch z)⟩
theorem Rd.some {a : Addr} {o : HO} (h : Rd H a o) : ∃ u, H a = some u := by
  rcases h with h | ⟨od, h⟩
  · exact ⟨_, h⟩
  · exact ⟨_, h⟩
mutual
theorem RV.more {ξ : List Addr} (m : More N H ξ) : ∀ {v : PV} {x : V}, RV N ρ H v x → RV { N with ex := ξ } ρ H v x
  | .non, x, h => by simpa [RV] using h
  | .bl b, x, h => by simpa [RV] using h
  | .int i, x, h => by simpa [RV] using h
  | .str s, x, h => by simpa [RV] using h
  | .cls c, x, h => by simpa [RV] using h
  | .ref l, x, h => by simpa [RV] using h
  | .wtp xs, x, h => by simpa [RV] using h
  | .tup xs, x, h => by
    simp only [RV] at h ⊢
    obtain ⟨a, ys, e, h1, h2, h3, h4⟩ := h
    exact ⟨a, ys, e, m.off h1 h2, h2, RVs.more m h3, h4⟩
  | .lst xs, x, h => by
    simp only [RV] at h ⊢
    obtain ⟨a, ys, e, h1, h2, h3, h4⟩ := h
    exact ⟨a, ys, e, m.off h1 h2, h2, RVs.more m h3, h4⟩
  | .dct ks vs, x, h => by
    simp only [RV] at h ⊢
    obtain ⟨a, ys, o, e, h1, h2, h3, h4, h5⟩ := h
    obtain ⟨u, hu⟩ := Rd.some h3
    exact ⟨a, ys, o, e, m.off h1 hu, h2, h3, RVs.more m h4, h5⟩
  | .ins c fs vs, x, h => by
    simp only [RV] at h ⊢
    obtain ⟨a, dx, ys, e, h1, h2, h3, h4⟩ := h
    exact ⟨a, dx, ys, e, m.off h1 h2, h2, RVs.more m h3, h4⟩
  | .scr ns, x, h => by
    simp only [RV] at h ⊢
    obtain ⟨a, e, h3, h4⟩ := h
    refine ⟨a, e, ?_, h4⟩
    rcases h3 with ⟨o, h1, h2⟩ | h3
    · exact .inl ⟨o, m.off h1 h2, h2⟩
    · exact .inr h3
theorem RVs.more {ξ : List Addr} (m : More N H ξ) : ∀ {vs : List PV} {xs : List V}, RVs N ρ H vs xs → RVs { N with ex := ξ } ρ H vs xs
  | [], xs, h => by simpa [RVs] using h
  | v :: r, xs, h => by
    obtain ⟨y, u, e, h1, h2⟩ := h.cons_inv
    subst e
    exact .cons (RV.more m h1) (RVs.more m h2)
end
theorem Stay.more {ξ : List Addr} (m : More N H ξ) (t : Stay N ρ H ρ' H') : Stay { N with ex := ξ } ρ H ρ' H' :=
  ⟨t.pre, t.new, fun a o h hx => t.ext a o h ⟨hx.1, fun q => hx.2 (m.sub a q)⟩⟩
/-- a walk as it is told -/
def WalkOk (N : Nm) (ρ0 : List Addr) (H0 : Hp) (w : Walked) (J : It) : Prop :=
  ∃ (Gd : Hp → Prop) (Y : Nat → Hp → V → Hp → Prop), Walk J w.xs.length Gd Y ∧ (∀ ξ ρ S H, More N H0 ξ → Stay N ρ0 H0 ρ H → Rel { N with ex := ξ } ρ H S → stay w.ls S = true → Gd H) ∧
    (∀ ξ i x H H' ρ S, More N H0 ξ → i < w.xs.length → Stay N ρ0 H0 ρ H → Rel { N with ex := ξ } ρ H S → stay w.ls S = true → Y i H x H' → ∃ v, w.xs[i]? = some v ∧ IsNew H H' ∧ RV { N with ex := ξ } ρ H' v x)
theorem stay_one {l : Nat} {xs : List PV} (h : stay [(l, xs)] S = true) : S[l]? = some (.lst xs) := by
  simpa [stay] using h
theorem stay_app {a b : List (Nat × List PV)} (h : stay (a ++ b) S = true) : stay a S = true ∧ stay b S = true := by
  simpa [stay, List.all_append] using h
/-- a list or tuple, as it stands: its items -/
inductive SeqAt (N : Nm) (ρ0 : List Addr) (H0 : Hp) : List PV → List (Nat × List PV) → Addr → Bool → Prop
  | tup {xs : List PV} {a : Addr} {ys : List V} (o : Off N ρ0 a) (h : H0 a = some (.tup ys)) (r : RVs N ρ0 H0 xs ys) : SeqAt N ρ0 H0 xs [] a false
  | lst {xs : List PV} {a : Addr} {ys : List V} (o : Off N ρ0 a) (h : H0 a = some (.lst ys)) (r : RVs N ρ0 H0 xs ys) : SeqAt N ρ0 H0 xs [] a true
  | ref {xs : List PV} {a : Addr} {l : Nat} (h : ρ0[l]? = some a) : SeqAt N ρ0 H0 xs [(l, xs)] a true
/-- the sequence at a is ys -/
def SqB (K : PySem.W.Frag) (b : Bool) (H : Hp) (a : Addr) (ys : List V) : Prop := if b = true then SqL K H a ys else SqT K H a ys
theorem SeqAt.now {K : PySem.W.Frag} {ξ : List Addr} {xs : List PV} {ls : List (Nat × List PV)} {a : Addr} {b : Bool} (s : SeqAt N ρ H xs ls a b) (m : More N H ξ) (t : Stay N ρ H ρ' H') (R : Rel { N with ex := ξ } ρ' H' S') (hs : stay ls S' = true) :
    ∃ ys, SqB K b H' a ys ∧ (b = true → H' a = some (.lst ys)) ∧ (b = false → H' a = some (.tup ys)) ∧ RVs { N with ex := ξ } ρ' H' xs ys := by
  cases s with
  | tup o h r =>
    have e := t.same h o (fun _ _ => nodc_tup) (fun _ _ e => by cases e)
    exact ⟨_, .inl (.inl e), fun z => (nomatch z), fun _ => e, RVs.stay (t.more m) (r.more m)⟩
  | lst o h r =>
    have e := t.same h o (fun _ _ => nodc_lst) (fun _ _ e => by cases e)
    exact ⟨_, .inl (.inl e), fun _ => e, fun z => (nomatch z), RVs.stay (t.more m) (r.more m)⟩
  | ref h =>
    rename_i l
    obtain ⟨more, e⟩ := t.pre
    have h' : ρ'[l]? = some a := by rw [← e, List.getElem?_append_left (List.getElem?_eq_some_iff.mp h).1]; exact h
    obtain ⟨ys, q1, q2, _⟩ := R.obj _ _ a (stay_one hs) h'
    exact ⟨ys, .inl (.inl q1), fun _ => q1, fun z => (nomatch z), q2⟩
/-- one reading of a list or tuple -/
theorem SqB.get {K : PySem.W.Frag} {b : Bool} {a : Addr} {ys : List V} (h : SqB K b H a ys) : (b = true → SqL K H a ys) ∧ (b = false → SqT K H a ys) := by
  cases b
  · exact ⟨fun z => (nomatch z), fun _ => h⟩
  · exact ⟨fun _ => h, fun z => (nomatch z)⟩
theorem walkL {K : PySem.W.Frag} {xs : List PV} {ls : List (Nat × List PV)} {a : Addr} (s : SeqAt N ρ H xs ls a true) : WalkOk N ρ H { xs := xs, ls := ls } (Itl K a) := by
  refine ⟨fun H' => ∃ ys, SqL K H' a ys ∧ ys.length = xs.length, fun i H1 x H' => H' = H1 ∧ ∀ ys, SqL K H1 a ys → ys[i]? = some x, ⟨fun i H' hi ⟨ys, h, hl⟩ => ⟨ys, ys[i]'(by dsimp only at hi; omega), h, by simp⟩, fun H' ⟨ys, h, hl⟩ => ⟨ys, h, by dsimp only; omega⟩, fun _ _ _ _ _ _ y => y⟩, fun ξ ρ' S' H' m t R hs => ?_, fun ξ i x H' H2 ρ' S' m hi t R hs y => ?_⟩
  · obtain ⟨ys, h1, _, _, h2⟩ := s.now (K := K) m t R hs
    exact ⟨ys, h1.get.1 rfl, h2.length.symm⟩
  · obtain ⟨ys, h1, _, _, h2⟩ := s.now (K := K) m t R hs
    obtain ⟨e, y⟩ := y
    subst e
    have hx := y ys (h1.get.1 rfl)
    dsimp only at hi
    obtain ⟨z, q1, q2⟩ := h2.get (i := i) (v := xs[i]) (by simp [hi])
    rw [hx] at q1; cases q1
    exact ⟨xs[i], by simp [hi], .inl rfl, q2⟩
theorem walkT {K : PySem.W.Frag} {xs : List PV} {ls : List (Nat × List PV)} {a : Addr} (s : SeqAt N ρ H xs ls a false) : WalkOk N ρ H { xs := xs, ls := ls } (Itt K a) := by
  refine ⟨fun H' => ∃ ys, SqT K H' a ys ∧ ys.length = xs.length, fun i H1 x H' => H' = H1 ∧ ∀ ys, SqT K H1 a ys → ys[i]? = some x, ⟨fun i H' hi ⟨ys, h, hl⟩ => ⟨ys, ys[i]'(by dsimp only at hi; omega), h, by simp⟩, fun H' ⟨ys, h, hl⟩ => ⟨ys, h, by dsimp only; omega⟩, fun _ _ _ _ _ _ y => y⟩, fun ξ ρ' S' H' m t R hs => ?_, fun ξ i x H' H2 ρ' S' m hi t R hs y => ?_⟩
  · obtain ⟨ys, h1, _, _, h2⟩ := s.now (K := K) m t R hs
    exact ⟨ys, h1.get.2 rfl, h2.length.symm⟩
  · obtain ⟨ys, h1, _, _, h2⟩ := s.now (K := K) m t R hs
    obtain ⟨e, y⟩ := y
    subst e
    have hx := y ys (h1.get.2 rfl)
    dsimp only at hi
    obtain ⟨z, q1, q2⟩ := h2.get (i := i) (v := xs[i]) (by simp [hi])
    rw [hx] at q1; cases q1
    exact ⟨xs[i], by simp [hi], .inl rfl, q2⟩
theorem walkStr {z : Str} (hz : z.length ≤ sizeLine) : WalkOk N ρ H { xs := chars z } (Its z) := by
  have hl : (chars z).length = z.cps.size := by simp [chars]
  refine ⟨fun _ => True, fun i H v H' => H' = H ∧ ∃ c, z.cps[i]? = some c ∧ v = .str ⟨#[c]⟩, ⟨fun _ _ hi _ => by dsimp only at hi; rw [hl] at hi; exact hi, fun _ _ => by dsimp only; rw [hl]; exact Nat.le_refl _, fun _ _ _ _ _ _ y => y⟩, fun _ _ _ _ _ _ _ _ => trivial, fun ξ i x H' H2 ρ' S' m hi t R hs y => ?_⟩
  obtain ⟨e, c, h1, h2⟩ := y
  subst e; subst h2
  refine ⟨.str ⟨#[c]⟩, ?_, .inl rfl, RV.str_iff.mpr ⟨rfl, by rw [sizeLine_eq]; show 1 ≤ _; omega⟩⟩
  simp only [chars, List.getElem?_map]
  have : z.cps.toList[i]? = some c := by simpa using h1
  rw [this]; rfl
theorem walkScr {ns : List Int} {x : V} (h : RV N ρ H (.scr ns) x) : ∃ a, x = .ref a ∧ (∃ xs, SqL N.K H a xs) ∧ WalkOk N ρ H { xs := ns.map .int } (Itl N.K a) := by
  have h0 := h
  simp only [RV] at h
  obtain ⟨a, e, h2, h3⟩ := h
  generalize hK : N.K = K
  refine ⟨a, e, ⟨_, hK ▸ h2.sq⟩, fun H' => SqL K H' a (ns.map V.int), YAt (ns.map V.int), by have := walk_list (K := K) (a := a) (xs := ns.map V.int); simpa using this, fun ξ ρ' S' H' m t R hs => ?_, fun ξ i x H' H2 ρ' S' m hi t R hs y => ?_⟩
  · have h4 := RV.stay t h0
    simp only [RV] at h4
    obtain ⟨b, e2, h5, _⟩ := h4
    rw [e] at e2; cases e2
    exact hK ▸ h5.sq
  · obtain ⟨e, y⟩ := y
    subst e
    rw [List.getElem?_map] at y
    rw [Option.map_eq_some_iff] at y
    obtain ⟨j, y1, y2⟩ := y
    subst y2
    exact ⟨.int j, by simp [y1], .inl rfl, RV.int_iff.mpr rfl⟩
theorem walkRng {lo : Int} {cn : Nat} : WalkOk N ρ H { xs := (List.range cn).map fun (i : Nat) => .int (lo + (i : Int)) } (Itr lo cn) := by
  refine ⟨fun _ => True, YFn fun i => .int (lo + i), by simpa using walk_range, fun _ _ _ _ _ _ _ _ => trivial, fun ξ i x H' H2 ρ' S' m hi t R hs y => ?_⟩
  obtain ⟨e, y⟩ := y
  subst e; subst y
  have hi : i < cn := by simpa using hi
  exact ⟨.int (lo + i), by simp [hi], .inl rfl, RV.int_iff.mpr rfl⟩
theorem enumFrom_get : ∀ {xs : List PV} {j i : Nat}, (enumFrom j xs)[i]? = xs[i]?.map fun v => PV.tup [.int ((j + i : Nat) : Int), v]
  | [], _, _ => by simp [enumFrom]
  | x :: r, j, 0 => by simp [enumFrom]
  | x :: r, j, i + 1 => by
    simp only [enumFrom, List.getElem?_cons_succ]
    rw [enumFrom_get]
    have : j + 1 + i = j + (i + 1) := by omega
    rw [this]
theorem enumFrom_length : ∀ {xs : List PV} {j : Nat}, (enumFrom j xs).length = xs.length
  | [], _ => rfl
  | _ :: r, j => by simp [enumFrom, enumFrom_length (xs := r)]
theorem walkEnumL {K : PySem.W.Frag} {xs : List PV} {ls : List (Nat × List PV)} {a : Addr} (s : SeqAt N ρ H xs ls a true) : WalkOk N ρ H { xs := enumFrom 0 xs, ls := ls } (Ite K a) := by
  refine ⟨fun H' => ∃ ys, SqL K H' a ys ∧ ys.length = xs.length, (Ite K a).yld, ⟨fun i H' hi ⟨ys, h, hl⟩ => ⟨ys, ys[i]'(by dsimp only at hi; rw [enumFrom_length] at hi; omega), h, by simp⟩, fun H' ⟨ys, h, hl⟩ => ⟨ys, h, by dsimp only; rw [enumFrom_length]; omega⟩, fun _ _ _ _ _ _ y => y⟩, fun ξ ρ' S' H' m t R hs => ?_, fun ξ i x H' H2 ρ' S' m hi t R hs y => ?_⟩
  · obtain ⟨ys, h1, _, _, h2⟩ := s.now (K := K) m t R hs
    exact ⟨ys, h1.get.1 rfl, h2.length.symm⟩
  · obtain ⟨ys, h1, _, _, h2⟩ := s.now (K := K) m t R hs
    obtain ⟨T, z, e1, e2, e3, y⟩ := y
    subst e1; subst e3
    have hx := y ys (h1.get.1 rfl)
    dsimp only at hi
    rw [enumFrom_length] at hi
    obtain ⟨z', q1, q2⟩ := h2.get (i := i) (v := xs[i]) (by simp [hi])
    rw [hx] at q1; cases q1
    refine ⟨.tup [.int i, xs[i]], by simp [enumFrom_get, hi], .inr ⟨T, _, _, e2, rfl⟩, ?_⟩
    simp only [RV]
    have st := Stp.laid (n := 0) R (u := .tup [.int (i : Nat), z]) e2
    exact ⟨T, _, rfl, R.fresh e2, upd_same, .cons (RV.int_iff.mpr rfl) (.cons (q2.stp st) (by simp [RVs])), by rw [sizeLine_eq]; simp⟩
theorem zipL_get : ∀ {xs ys : List PV} {i : Nat} {x y : PV}, xs[i]? = some x → ys[i]? = some y → (zipL xs ys)[i]? = some (.tup [x, y])
  | [], _, _, _, _, h, _ => by simp at h
  | _ :: _, [], _, _, _, _, h => by simp at h
  | x :: r, y :: t, 0, _, _, h1, h2 => by simp at h1 h2; subst h1; subst h2; simp [zipL]
  | x :: r, y :: t, i + 1, _, _, h1, h2 => by
    simp only [zipL, List.getElem?_cons_succ]
    exact zipL_get (by simpa using h1) (by simpa using h2)
theorem zipL_length : ∀ {xs ys : List PV}, (zipL xs ys).length = min xs.length ys.length
  | [], _ => by simp [zipL]
  | _ :: _, [] => by simp [zipL]
  | x :: r, y :: t => by simp [zipL, zipL_length (xs := r) (ys := t)]
theorem walkZip {K : PySem.W.Frag} {xs ys : List PV} {ls ms : List (Nat × List PV)} {a b : Addr} {c : Bool} (s : SeqAt N ρ H xs ls a c) (s2 : SeqAt N ρ H ys ms b c) : WalkOk N ρ H { xs := zipL xs ys, ls := ls ++ ms } (if c = true then Itz K a b else RZ.ItzT K a b) := by
  cases c with
  | true =>
    refine ⟨fun H' => ∃ us vs, SqL K H' a us ∧ SqL K H' b vs ∧ us.length = xs.length ∧ vs.length = ys.length, (Itz K a b).yld, ⟨fun i H' hi ⟨us, vs, h, h', hl, hl'⟩ => ⟨us, vs, us[i]'(by dsimp only at hi; rw [zipL_length] at hi; omega), vs[i]'(by dsimp only at hi; rw [zipL_length] at hi; omega), h, h', by simp, by simp⟩, fun H' ⟨us, vs, h, h', hl, hl'⟩ => ⟨us, vs, h, h', by dsimp only; rw [zipL_length]; omega⟩, fun _ _ _ _ _ _ y => y⟩, fun ξ ρ' S' H' m t R hs => ?_, fun ξ i x H' H2 ρ' S' m hi t R hs y => ?_⟩
    · obtain ⟨z1, z2⟩ := stay_app hs
      obtain ⟨us, h1, _, _, h2⟩ := s.now (K := K) m t R z1
      obtain ⟨vs, h3, _, _, h4⟩ := s2.now (K := K) m t R z2
      exact ⟨us, vs, h1.get.1 rfl, h3.get.1 rfl, h2.length.symm, h4.length.symm⟩
    · obtain ⟨z1, z2⟩ := stay_app hs
      obtain ⟨us, h1, _, _, h2⟩ := s.now (K := K) m t R z1
      obtain ⟨vs, h3, _, _, h4⟩ := s2.now (K := K) m t R z2
      obtain ⟨T, p, q, e1, e2, e3, y1, y2⟩ := y
      subst e1; subst e3
      have hx := y1 us (h1.get.1 rfl)
      have hy := y2 vs (h3.get.1 rfl)
      dsimp only at hi
      rw [zipL_length] at hi
      have i1 : i < xs.length := by omega
      have i2 : i < ys.length := by omega
      obtain ⟨p', q1, q2⟩ := h2.get (i := i) (v := xs[i]) (by simp [i1])
      obtain ⟨q', q3, q4⟩ := h4.get (i := i) (v := ys[i]) (by simp [i2])
      rw [hx] at q1; cases q1
      rw [hy] at q3; cases q3
      refine ⟨.tup [xs[i], ys[i]], zipL_get (by simp [i1]) (by simp [i2]), .inr ⟨T, _, _, e2, rfl⟩, ?_⟩
      simp only [RV]
      have st := Stp.laid (n := 0) R (u := .tup [p, q]) e2
      exact ⟨T, _, rfl, R.fresh e2, upd_same, .cons (q2.stp st) (.cons (q4.stp st) (by simp [RVs])), by rw [sizeLine_eq]; simp⟩
  | false =>
    refine ⟨fun H' => ∃ us vs, SqT K H' a us ∧ SqT K H' b vs ∧ us.length = xs.length ∧ vs.length = ys.length, (RZ.ItzT K a b).yld, ⟨fun i H' hi ⟨us, vs, h, h', hl, hl'⟩ => ⟨us, vs, us[i]'(by dsimp only at hi; rw [zipL_length] at hi; omega), vs[i]'(by dsimp only at hi; rw [zipL_length] at hi; omega), h, h', by simp, by simp⟩, fun H' ⟨us, vs, h, h', hl, hl'⟩ => ⟨us, vs, h, h', by dsimp only; rw [zipL_length]; omega⟩, fun _ _ _ _ _ _ y => y⟩, fun ξ ρ' S' H' m t R hs => ?_, fun ξ i x H' H2 ρ' S' m hi t R hs y => ?_⟩
    · obtain ⟨z1, z2⟩ := stay_app hs
      obtain ⟨us, h1, _, _, h2⟩ := s.now (K := K) m t R z1
      obtain ⟨vs, h3, _, _, h4⟩ := s2.now (K := K) m t R z2
      exact ⟨us, vs, h1.get.2 rfl, h3.get.2 rfl, h2.length.symm, h4.length.symm⟩
    · obtain ⟨z1, z2⟩ := stay_app hs
      obtain ⟨us, h1, _, _, h2⟩ := s.now (K := K) m t R z1
      obtain ⟨vs, h3, _, _, h4⟩ := s2.now (K := K) m t R z2
      obtain ⟨T, p, q, e1, e2, e3, y1, y2⟩ := y
      subst e1; subst e3
      have hx := y1 us (h1.get.2 rfl)
      have hy := y2 vs (h3.get.2 rfl)
      dsimp only at hi
      rw [zipL_length] at hi
      have i1 : i < xs.length := by omega
      have i2 : i < ys.length := by omega
      obtain ⟨p', q1, q2⟩ := h2.get (i := i) (v := xs[i]) (by simp [i1])
      obtain ⟨q', q3, q4⟩ := h4.get (i := i) (v := ys[i]) (by simp [i2])
      rw [hx] at q1; cases q1
      rw [hy] at q3; cases q3
      refine ⟨.tup [xs[i], ys[i]], zipL_get (by simp [i1]) (by simp [i2]), .inr ⟨T, _, _, e2, rfl⟩, ?_⟩
      simp only [RV]
      have st := Stp.laid (n := 0) R (u := .tup [p, q]) e2
      exact ⟨T, _, rfl, R.fresh e2, upd_same, .cons (q2.stp st) (.cons (q4.stp st) (by simp [RVs])), by rw [sizeLine_eq]; simp⟩
end
end PyI
set_option Elab.async false
set_option linter.all false
set_option maxRecDepth 100000
set_option maxHeartbeats 2000000
/-! PyQ: iterations, statements -/
namespace PyI
open PySem PySem.Spec PyProof.Rows L2
section
variable {N : Nm} {X : Cx} {W : WX} {kk k n : Nat} {G : Tab}
/-! ### iterations -/
def RW (N : Nm) : List Addr → Hp → Walked → It → Prop := fun ρ H w J => WalkOk N ρ H w J
def tI (N : Nm) (n : Nat) (W : WX) (f : Ev → Store → Res Walked) : TI := fun σ H R' => ∃ ρ S ps, Rel N ρ H S ∧ SlR N ρ H ps σ ∧ Post N n (RW N) (fun c d H => W c d σ H) R' ρ S H (f ps S)
theorem _root_.L2.PI.imp {tg e : Expr} {t t' : TI} (h : PI X tg e t) (i : ∀ σ H Q, t' σ H Q → t σ H Q) : PI X tg e t' := ⟨fun pins s σ H Q I q => h.run pins s σ H Q I (i _ _ _ q)⟩
theorem _root_.L2.PI.or {tg e : Expr} {t t' : TI} (h : PI X tg e t) (h' : PI X tg e t') : PI X tg e (fun σ H Q => t σ H Q ∨ t' σ H Q) := ⟨fun pins s σ H Q I q => q.elim (h.run pins s σ H Q I) (h'.run pins s σ H Q I)⟩
theorem seqOf_at {ρ : List Addr} {S : Store} {H : Hp} {v : PV} {x : V} {xs : List PV} {ls : List (Nat × List PV)} (R : Rel N ρ H S) (rv : RV N ρ H v x) (e : seqOf v S = some (xs, ls)) : ∃ a ys, x = .ref a ∧ SeqAt N ρ H xs ls a (isLst v) ∧ (isLst v = true → H a = some (.lst ys)) ∧ (isLst v = false → H a = some (.tup ys)) := by
  unfold seqOf at e
  split at e
  · cases e
    simp only [RV] at rv
    obtain ⟨a, ys, ex, o, h, r, _⟩ := rv
    exact ⟨a, ys, ex, .tup o h r, fun z => (nomatch z), fun _ => h⟩
  · cases e
    simp only [RV] at rv
    obtain ⟨a, ys, ex, o, h, r, _⟩ := rv
    exact ⟨a, ys, ex, .lst o h r, fun _ => h, fun z => (nomatch z)⟩
  · split at e
    · rename_i hs
      cases e
      simp only [RV] at rv
      obtain ⟨a, h1, h2⟩ := rv
      obtain ⟨ys, q1, _⟩ := R.obj _ _ a hs h1
      exact ⟨a, ys, h2, .ref h1, fun _ => q1, fun z => (nomatch z)⟩
    · cases e
  · cases e
theorem i_e (hK : X.K = N.K) {tg e : Expr} {f : Ev → Store → Res PV} (he : PE X e (tE N n W f)) : PI X tg e (tI N n W fun ps S => (f ps S).bind fun v S1 => PyI.ofO (walkOf v S1) S1) := by
  refine ((pi_tup he).or ((pi_list he).or (pi_str he))).imp fun σ H Q hq => ?_
  obtain ⟨ρ, S, ps, R, sl, p⟩ := hq
  dsimp only at p
  cases hf : f ps S with
  | stuck => rw [hf] at p; exact p.elim
  | exn x S1 => rw [hf] at p; exact .inl ⟨ρ, S, ps, R, sl, by rw [hf]; exact p⟩
  | ok v S1 =>
    rw [hf] at p
    simp only [Res.bind_ok] at p
    cases hw : walkOf v S1 with
    | none => rw [hw] at p; exact p.elim
    | some w =>
      rw [hw] at p
      unfold walkOf at hw
      split at hw
      · cases hw
        refine .inl ⟨ρ, S, ps, R, sl, ?_⟩
        rw [hf]
        intro ρ' H' x st rv
        simp only [RV] at rv
        obtain ⟨a, ys, ex, o, h, r, _⟩ := rv
        exact ⟨a, ex, ⟨ys, .inl (.inl h)⟩, p ρ' H' _ st (walkT (.tup o h r))⟩
      · cases hw
        refine .inr (.inl ⟨ρ, S, ps, R, sl, ?_⟩)
        rw [hf]
        intro ρ' H' x st rv
        simp only [RV] at rv
        obtain ⟨a, ys, ex, o, h, r, _⟩ := rv
        exact ⟨a, ex, ⟨ys, .inl (.inl h)⟩, p ρ' H' _ st (walkL (.lst o h r))⟩
      · cases hw
        refine .inr (.inl ⟨ρ, S, ps, R, sl, ?_⟩)
        rw [hf]
        intro ρ' H' x st rv
        obtain ⟨a, ex, h, wk⟩ := walkScr rv
        rw [← hK] at h wk
        exact ⟨a, ex, h, p ρ' H' _ st wk⟩
      · cases hw
        refine .inr (.inr ⟨ρ, S, ps, R, sl, ?_⟩)
        rw [hf]
        intro ρ' H' x st rv
        obtain ⟨ex, hz⟩ := RV.str_iff.mp rv
        exact ⟨_, ex, p ρ' H' _ st (walkStr hz)⟩
      · split at hw
        · rename_i hs
          cases hw
          refine .inr (.inl ⟨ρ, S, ps, R, sl, ?_⟩)
          rw [hf]
          intro ρ' H' x st rv
          simp only [RV] at rv
          obtain ⟨a, h1, h2⟩ := rv
          obtain ⟨ys, q1, _⟩ := st.rel.obj _ _ a hs h1
          exact ⟨a, h2, ⟨ys, .inl (.inl q1)⟩, p ρ' H' _ st (walkL (.ref h1))⟩
        · cases hw
      · cases hw
theorem small62_iff {i : Int} : small62 i = true ↔ -(2 ^ 62) ≤ i ∧ i < 2 ^ 62 := by
  unfold small62
  rw [Bool.and_eq_true, decide_eq_true_eq, decide_eq_true_eq]
theorem i_rng1 {tg a : Expr} {h : Ev → Store → Res (List PV)} {p pos : Pos} (hg : Gl X "range") (hm : X.mg "range" = none) (ha : PA X [a] (tA N n W h)) (hs : starEach [a] X.env = [(false, PySem.eval a X.env)]) (h1 : ∀ ps S vs S', h ps S = .ok vs S' → vs.length = 1) :
    PI X tg (.Call (.Name "range" p) [a] [] pos) (tI N n W fun ps S => (h ps S).bind fun vs S1 => PyI.ofO ((rangeOf vs).map fun xs => { xs := xs }) S1) := by
  refine (pi_range1 hg hm ha hs).imp fun σ H Q hq => ?_
  obtain ⟨ρ, S, ps, R, sl, p⟩ := hq
  refine ⟨ρ, S, ps, R, sl, ?_⟩
  dsimp only at p
  cases hf : h ps S with
  | stuck => rw [hf] at p; exact p.elim
  | exn x S1 => rw [hf] at p; exact p
  | ok vs S1 =>
    rw [hf] at p
    simp only [Res.bind_ok] at p
    have hl := h1 ps S vs S1 hf
    intro ρ' H' xs st rs
    unfold rangeOf at p
    split at p
    · obtain ⟨y, ey, ry⟩ := RVs.one rs
      cases RV.int_iff.mp ry
      subst ey
      split at p
      · rename_i hz
        obtain ⟨z1, z2⟩ := small62_iff.mp hz
        refine ⟨_, rfl, z1, z2, p ρ' H' _ st ?_⟩
        have := walkRng (N := N) (ρ := ρ') (H := H') (lo := 0) (cn := (‹Int›).toNat)
        simpa [rangeL, RW] using this
      · exact p.elim
    · simp at hl
    · simp at hl
    · exact p.elim
theorem i_rng2 {tg a b : Expr} {h : Ev → Store → Res (List PV)} {p pos : Pos} (hg : Gl X "range") (hm : X.mg "range" = none) (ha : PA X [a, b] (tA N n W h)) (hs : starEach [a, b] X.env = [(false, PySem.eval a X.env), (false, PySem.eval b X.env)]) (hs2 : starEach [b] X.env = [(false, PySem.eval b X.env)]) (h1 : ∀ ps S vs S', h ps S = .ok vs S' → vs.length = 2) :
    PI X tg (.Call (.Name "range" p) [a, b] [] pos) (tI N n W fun ps S => (h ps S).bind fun vs S1 => PyI.ofO ((rangeOf vs).map fun xs => { xs := xs }) S1) := by
  refine (pi_range2 hg hm ha hs hs2).imp fun σ H Q hq => ?_
  obtain ⟨ρ, S, ps, R, sl, p⟩ := hq
  refine ⟨ρ, S, ps, R, sl, ?_⟩
  dsimp only at p
  cases hf : h ps S with
  | stuck => rw [hf] at p; exact p.elim
  | exn x S1 => rw [hf] at p; exact p
  | ok vs S1 =>
    rw [hf] at p
    simp only [Res.bind_ok] at p
    have hl := h1 ps S vs S1 hf
    intro ρ' H' xs st rs
    unfold rangeOf at p
    split at p
    · simp at hl
    · obtain ⟨y, z, ey, ry, rz⟩ := RVs.two rs
      cases RV.int_iff.mp ry
      cases RV.int_iff.mp rz
      subst ey
      split at p
      · rename_i hz
        rw [Bool.and_eq_true] at hz
        obtain ⟨z1, z2⟩ := small62_iff.mp hz.1
        obtain ⟨z3, z4⟩ := small62_iff.mp hz.2
        refine ⟨_, _, rfl, ⟨z1, z2, z3, z4⟩, p ρ' H' _ st ?_⟩
        exact walkRng
      · exact p.elim
    · simp at hl
    · exact p.elim
theorem i_zip {e e2 : Expr} {f h : Ev → Store → Res PV} {p pos tpos : Pos} {elts : List Expr} {j : Nat} (hg : Gl X "zip") (hm : X.mg "zip" = none) (ha : PE X e (tE N n W f)) (hb : PE X e2 (tE N n W h))
    (hs : starEach [e, e2] X.env = (false, PySem.eval e X.env) :: starEach [e2] X.env) (hs2 : starEach [e2] X.env = (false, PySem.eval e2 X.env) :: starEach [] X.env) (hpl : (backTo pos (starEach [e2] X.env)).any (·.1) = false) :
    PI X (.Tuple elts j tpos) (.Call (.Name "zip" p) [e, e2] [] pos) (tI N n W fun ps S => (f ps S).bind fun v S1 => (h ps S1).bind fun u S2 => PyI.ofO (zipW v u S2) S2) := by
  refine (RZ.pi_zipA hg hm (pa_cons ha (pa_cons hb pa_nil hs2) hs) hs hpl).imp fun σ H Q hq => ?_
  refine read2 (k := fun v u S2 => PyI.ofO (zipW v u S2) S2) (RR := RW N) hq fun ρ S H2 a b x y R ra rb p => ?_
  obtain ⟨w, ew, p⟩ := p.ofO
  unfold zipW at ew
  split at ew
  · rename_i hk
    rw [Option.bind_eq_some_iff] at ew
    obtain ⟨⟨xs, ls⟩, e1, ew⟩ := ew
    rw [Option.map_eq_some_iff] at ew
    obtain ⟨⟨ys, ms⟩, e3, ew⟩ := ew
    subst ew
    obtain ⟨a1, us, ex, s1, t1, t2⟩ := seqOf_at R ra e1
    obtain ⟨b1, vs, ey, s2, t3, t4⟩ := seqOf_at R rb e3
    subst ex; subst ey
    rw [← hk] at s2 t3 t4
    have wk := walkZip (K := X.K) s1 s2
    cases hc : isLst a with
    | true =>
      rw [hc] at wk t1 t3
      rw [if_pos rfl] at wk
      exact ⟨a1, b1, us, vs, rfl, .inl ⟨.inl (.inl (t1 rfl)), .inl (.inl (t3 rfl)), p.ok R wk⟩⟩
    | false =>
      rw [hc] at wk t2 t4
      rw [if_neg (by decide)] at wk
      exact ⟨a1, b1, us, vs, rfl, .inr ⟨.inl (.inl (t2 rfl)), .inl (.inl (t4 rfl)), p.ok R wk⟩⟩
  · cases ew
/-! ### statements -/
def PostS (N : Nm) (n : Nat) (W : WX) (D : Ends) (ρ : List Addr) (S : Store) (H : Hp) (r : SR) : Prop := match r with
  | .ok .next ps' S' => ∀ ρ' H' σ', Stp N n ρ S H ρ' S' H' → SlR N ρ' H' ps' σ' → D.nx σ' H'
  | .ok (.ret v) _ S' => ∀ ρ' H' x, Stp N n ρ S H ρ' S' H' → RV N ρ' H' v x → D.rt x H'
  | .ok .brk ps' S' => ∀ ρ' H' σ', Stp N n ρ S H ρ' S' H' → SlR N ρ' H' ps' σ' → D.bk σ' H'
  | .ok .cnt ps' S' => ∀ ρ' H' σ', Stp N n ρ S H ρ' S' H' → SlR N ρ' H' ps' σ' → D.ct σ' H'
  | .exn e ps' S' => ∀ ρ' H' σ' cls d, Stp N n ρ S H ρ' S' H' → SlR N ρ' H' ps' σ' → ExR N ρ' H' e cls d → W cls d σ' H'
  | .stuck => False
def tS (N : Nm) (n : Nat) (W : WX) (f : Ev → Store → SR) : TS := fun D σ H => ∃ ρ S ps, Rel N ρ H S ∧ SlR N ρ H ps σ ∧ PostS N n W D ρ S H (f ps S)
theorem PostS.from {D : Ends} {ρ ρ1 : List Addr} {S S1 : Store} {H H1 : Hp} {r : SR} (p : PostS N n W D ρ S H r) (st : Stp N n ρ S H ρ1 S1 H1) : PostS N n W D ρ1 S1 H1 r := by
  cases r with
  | ok fl ps S' =>
    cases fl with
    | next => exact fun ρ' H' σ' st' sl => p ρ' H' σ' (st.trans st') sl
    | ret v => exact fun ρ' H' x st' rv => p ρ' H' x (st.trans st') rv
    | brk => exact fun ρ' H' σ' st' sl => p ρ' H' σ' (st.trans st') sl
    | cnt => exact fun ρ' H' σ' st' sl => p ρ' H' σ' (st.trans st') sl
  | exn e ps S' => exact fun ρ' H' σ' c d st' sl x => p ρ' H' σ' c d (st.trans st') sl x
  | stuck => exact p
theorem PostS.nx {D : Ends} {ρ : List Addr} {S : Store} {H : Hp} {ps : Ev} {σ : L2.St} (p : PostS N n W D ρ S H (.ok .next ps S)) (R : Rel N ρ H S) (sl : SlR N ρ H ps σ) : D.nx σ H := p ρ H σ (Stp.refl R) sl
/-- an expression, then more -/
theorem PostS.toS {α β : Type} {RR : List Addr → Hp → α → β → Prop} {D : Ends} {ρ : List Addr} {S : Store} {H : Hp} {ps : Ev} {σ : L2.St} {r : Res α} {kf : α → Store → SR} (sl : SlR N ρ H ps σ) (p : PostS N n W D ρ S H (r.toS ps kf)) :
    Post N n RR (fun c d H => W c d σ H) (fun x H1 => ∃ ρ1 a S1, Stp N n ρ S H ρ1 S1 H1 ∧ RR ρ1 H1 a x ∧ PostS N n W D ρ1 S1 H1 (kf a S1)) ρ S H r := by
  cases r with
  | ok v S' => exact fun ρ' H' x st rv => ⟨ρ', v, S', st, rv, PostS.from p st⟩
  | exn e S' => exact fun ρ' H' c d st x => p ρ' H' σ c d st (sl.stp st) x
  | stuck => exact p
theorem s_expr {e : Expr} {f : Ev → Store → Res PV} {pos : Pos} (he : PE X e (tE N n W f)) (hs : swapsWith e none pos.line X.env = pure false) : PS X (.Expr e pos) (tS N n W fun ps S => (f ps S).toS ps fun _ S1 => .ok .next ps S1) := by
  refine (ps_expr he hs).imp fun D σ H h => ?_
  obtain ⟨ρ, S, ps, R, sl, p⟩ := h
  exact ⟨ρ, S, ps, R, sl, (PostS.toS (RR := RVl N) sl p).mono fun x H1 ⟨ρ1, a, S1, st, rv, p1⟩ => p1.nx st.rel (sl.stp st)⟩
theorem s_ret {e : Expr} {f : Ev → Store → Res PV} {pos : Pos} (he : PE X e (tE N n W f)) : PS X (.Return (some e) pos) (tS N n W fun ps S => (f ps S).toS ps fun v S1 => .ok (.ret v) ps S1) := by
  refine (ps_ret he).imp fun D σ H h => ?_
  obtain ⟨ρ, S, ps, R, sl, p⟩ := h
  exact ⟨ρ, S, ps, R, sl, (PostS.toS (RR := RVl N) sl p).mono fun x H1 ⟨ρ1, a, S1, st, rv, p1⟩ => p1 ρ1 H1 x (Stp.refl st.rel) rv⟩
theorem s_retN {pos : Pos} : PS X (.Return none pos) (tS N n W fun ps S => .ok (.ret .non) ps S) := by
  refine ps_retN.imp fun D σ H h => ?_
  obtain ⟨ρ, S, ps, R, sl, p⟩ := h
  exact p ρ H _ (Stp.refl R) (RV.non_iff.mpr rfl)
theorem s_pass {pos : Pos} : PS X (.Pass pos) (tS N n W fun ps S => .ok .next ps S) := by
  refine ps_pass.imp fun D σ H h => ?_
  obtain ⟨ρ, S, ps, R, sl, p⟩ := h
  exact p.nx R sl
theorem s_doc {x : Str} {j : Nat} {pos pos' : Pos} : PS X (.Expr (.Constant (.str x) j pos) pos') (tS N n W fun ps S => .ok .next ps S) := by
  refine ps_doc.imp fun D σ H h => ?_
  obtain ⟨ρ, S, ps, R, sl, p⟩ := h
  exact p.nx R sl
theorem s_brk {pos : Pos} : PS X (.Break pos) (tS N n W fun ps S => .ok .brk ps S) := by
  refine ps_break.imp fun D σ H h => ?_
  obtain ⟨ρ, S, ps, R, sl, p⟩ := h
  exact p ρ H σ (Stp.refl R) sl
theorem s_cnt {pos : Pos} : PS X (.Continue pos) (tS N n W fun ps S => .ok .cnt ps S) := by
  refine ps_continue.imp fun D σ H h => ?_
  obtain ⟨ρ, S, ps, R, sl, p⟩ := h
  exact p ρ H σ (Stp.refl R) sl
theorem s_never {st : Stmt} : PS X st (tS N n W fun _ _ => .stuck) := ps_never.imp fun D σ H h => by
  obtain ⟨ρ, S, ps, R, sl, p⟩ := h
  exact p
theorem ss_nil : PSs X [] (tS N n W fun ps S => .ok .next ps S) := by
  refine pss_nil.imp fun D σ H h => ?_
  obtain ⟨ρ, S, ps, R, sl, p⟩ := h
  exact p.nx R sl
theorem ss_cons {st : Stmt} {rest : List Stmt} {f h : Ev → Store → SR} (h1 : PS X st (tS N n W f)) (h2 : PSs X rest (tS N n W h)) : PSs X (st :: rest) (tS N n W fun ps S => (f ps S).seq fun ps' S' => h ps' S') := by
  refine (pss_cons h1 h2).imp fun D σ H hq => ?_
  obtain ⟨ρ, S, ps, R, sl, p⟩ := hq
  refine ⟨ρ, S, ps, R, sl, ?_⟩
  dsimp only at p
  cases hf : f ps S with
  | ok fl ps' S' =>
    rw [hf] at p
    cases fl with
    | next => exact fun ρ' H' σ' st sl' => ⟨ρ', S', ps', st.rel, sl', PostS.from p st⟩
    | ret v => exact p
    | brk => exact p
    | cnt => exact p
  | exn e ps' S' => rw [hf] at p; exact p
  | stuck => rw [hf] at p; exact p
theorem s_if {c : Expr} {a b : List Stmt} {fc : Ev → Store → Res Bool} {fa fb : Ev → Store → SR} {pos : Pos} (hc : PT X c (tT N n W fc)) (ha : PSs X a (tS N n W fa)) (hb : PSs X b (tS N n W fb)) :
    PS X (.If c a b pos) (tS N n W fun ps S => (fc ps S).toS ps fun k S1 => if k = true then fa ps S1 else fb ps S1) := by
  refine (ps_if hc ha hb).imp fun D σ H h => ?_
  obtain ⟨ρ, S, ps, R, sl, p⟩ := h
  refine ⟨ρ, S, ps, R, sl, (PostS.toS (RR := REq) sl p).mono fun x H1 ⟨ρ1, a, S1, st, ex, p1⟩ => ?_⟩
  have ex' : x = a := ex
  subst ex'
  cases x with
  | true => exact iteT ⟨ρ1, S1, ps, st.rel, sl.stp st, p1⟩
  | false => exact iteF ⟨ρ1, S1, ps, st.rel, sl.stp st, p1⟩
/-- name = e -/
theorem s_set (g : Good N X W kk) {i : Nat} {x : Str} {e : Expr} {f : Ev → Store → Res PV} {pos pos' : Pos} (hi : X.N[i]? = some x) (hx : Loc X.env.scope x) (he : PE X e (tE N n W f)) (hs : swapsWith e (some (.Name x pos')) pos.line X.env = pure false) (hf : X.fn x = true ∨ X.env.scope.names.lookup x = some .local) :
    PS X (.Assign [.Name x pos'] e pos) (tS N n W fun ps S => (f ps S).toS ps fun v S1 => .ok .next (ps.set i (some v)) S1) := by
  refine (ps_set g.nd hi hx he hs hf).imp fun D σ H h => ?_
  obtain ⟨ρ, S, ps, R, sl, p⟩ := h
  exact ⟨ρ, S, ps, R, sl, (PostS.toS (RR := RVl N) sl p).mono fun x H1 ⟨ρ1, a, S1, st, rv, p1⟩ => p1.nx st.rel ((sl.stp st).set rv i)⟩
/-- a, b, .. = e -/
theorem s_setT (g : Good N X W kk) {p : Pat} {tg e : Expr} {f : Ev → Store → Res PV} {pos : Pos} (he : PE X e (tE N n W f)) (hg : PG X tg (gPat X.K p)) (hs : swapsWithSole [tg] e pos.line X.env = pure false) (hw : swappedStores [tg] e X.env = pure none)
    (h1 : (assignEach [tg] X.env).map (·.2) = [assign tg X.env]) : PS X (.Assign [tg] e pos) (tS N n W fun ps S => (f ps S).toS ps fun v S1 => (match bindPat p v ps S1 with
      | some ps' => .ok .next ps' S1
      | none => .stuck)) := by
  refine (ps_asg he hg hs hw h1).imp fun D σ H h => ?_
  obtain ⟨ρ, S, ps, R, sl, pp⟩ := h
  refine ⟨ρ, S, ps, R, sl, (PostS.toS (RR := RVl N) sl pp).mono fun x H1 ⟨ρ1, a, S1, st, rv, p1⟩ => ?_⟩
  split at p1
  · rename_i ps' hb
    exact gPat_ok g.hK rv (sl.stp st) hb fun xs sl' => p1.nx st.rel sl'
  · exact p1.elim
/-- for -/
theorem s_for (g : Good N X W kk) (hp : PassesOwn (model X.prog X.w) X.A X.env X.xe) {p : Pat} {tg iter : Expr} {body : List Stmt} {fi : Ev → Store → Res Walked} {fb : Ev → Store → SR} {pos : Pos} (hi : PI X tg iter (tI N n W fi)) (hg : PG X tg (gPat X.K p)) (hb : PSs X body (tS N n W fb)) (hs : ∀ x, foldedSetIterable iter X.env x = pure x) :
    PS X (.For tg iter body [] pos) (tS N n W fun ps S => (fi ps S).toS ps fun w S1 => forLoop (stay w.ls) (fun x ps S => match bindPat p x ps S with
      | some ps' => fb ps' S
      | none => .stuck) w.xs ps S1) := by
  refine (ps_for hp g.calm hi hg hb hs).imp fun D σ H h => ?_
  obtain ⟨ρ, S, ps, R, sl, pp⟩ := h
  refine ⟨ρ, S, ps, R, sl, (PostS.toS (RR := RW N) sl pp).mono fun J H1 ⟨ρ1, w, S1, st, wok, p1⟩ => ?_⟩
  obtain ⟨Gd, Y, wk, hG, hY⟩ := wok
  have m0 : More N H1 N.ex := ⟨fun _ h => h, fun _ h => .inl h⟩
  generalize hF : (fun (x : PV) (ps : Ev) (S : Store) => match bindPat p x ps S with
      | some ps' => fb ps' S
      | none => SR.stuck) = F at p1
  have okOf : ∀ {l : List PV} {ps' : Ev} {ρ' : List Addr} {S' : Store} {H' : Hp}, PostS N n W D ρ' S' H' (forLoop (stay w.ls) F l ps' S') → stay w.ls S' = true := by
    intro l ps' ρ' S' H' q
    cases l with
    | nil =>
      unfold forLoop at q
      split at q
      · assumption
      · exact q.elim
    | cons x l =>
      unfold forLoop at q
      split at q
      · assumption
      · exact q.elim
  refine for_it wk (fun i σ H => ∃ ρ' S' ps', Rel N ρ' H S' ∧ SlR N ρ' H ps' σ ∧ Stp N n ρ1 S1 H1 ρ' S' H ∧ PostS N n W D ρ' S' H (forLoop (stay w.ls) F (w.xs.drop i) ps' S')) ⟨ρ1, S1, ps, st.rel, sl.stp st, Stp.refl st.rel, by rw [List.drop_zero]; exact p1⟩ ?_ ?_ ?_
  · rintro i σ' H' _ ⟨ρ', S', ps', R', sl', st', q⟩
    exact hG N.ex ρ' S' H' m0 st'.stay R' (okOf q)
  · rintro i x σ' H' H'' hi ⟨ρ', S', ps', R', sl', st', q⟩ y
    have hok := okOf q
    obtain ⟨v, ev, nw, rv⟩ := hY N.ex i x H' H'' ρ' S' m0 hi st'.stay R' hok y
    have st2 := nw.stp (n := n) R'
    have hd : w.xs.drop i = v :: w.xs.drop (i + 1) := by
      rw [List.drop_eq_getElem_cons hi]
      have : w.xs[i] = v := by
        rw [List.getElem?_eq_getElem hi] at ev
        exact Option.some.inj ev
      rw [this]
    rw [hd] at q
    unfold forLoop at q
    rw [if_pos hok] at q
    rw [← hF] at q
    dsimp only at q
    cases hb' : bindPat p v ps' S' with
    | none => rw [hb'] at q; exact q.elim
    | some ps'' =>
      rw [hb'] at q
      dsimp only at q
      refine gPat_ok g.hK rv (sl'.stp st2) hb' fun xs sl'' => ⟨ρ', S', ps'', st2.rel, sl'', ?_⟩
      have q2 := q
      rw [hF] at q2
      cases hr : fb ps'' S' with
      | ok fl ps3 S3 =>
        rw [hr] at q2
        cases fl with
        | next => exact fun ρ3 H3 σ3 st3 sl3 => ⟨ρ3, S3, ps3, st3.rel, sl3, st'.trans (st2.trans st3), PostS.from q2 (st2.trans st3)⟩
        | ret v => exact fun ρ3 H3 x3 st3 rv3 => q2 ρ3 H3 x3 (st2.trans st3) rv3
        | brk => exact fun ρ3 H3 σ3 st3 sl3 => q2 ρ3 H3 σ3 (st2.trans st3) sl3
        | cnt => exact fun ρ3 H3 σ3 st3 sl3 => ⟨ρ3, S3, ps3, st3.rel, sl3, st'.trans (st2.trans st3), PostS.from q2 (st2.trans st3)⟩
      | exn e ps3 S3 =>
        rw [hr] at q2
        exact fun ρ3 H3 σ3 c d st3 sl3 ex3 => q2 ρ3 H3 σ3 c d (st2.trans st3) sl3 ex3
      | stuck => rw [hr] at q2; exact q2
  · rintro σ' H' ⟨ρ', S', ps', R', sl', st', q⟩
    rw [List.drop_length] at q
    unfold forLoop at q
    split at q
    · exact q.nx R' sl'
    · exact q.elim
/-- while -/
theorem s_while (hp : PassesOwn (model X.prog X.w) X.A X.env X.xe) {c : Expr} {body : List Stmt} {fc : Ev → Store → Res Bool} {fb : Ev → Store → SR} {pos : Pos} (hc : PT X c (tT N n W fc)) (hb : PSs X body (tS N n W fb)) :
    PS X (.While c body [] pos) (tS N n W fun ps S => whRun fc fb ps S) := by
  refine (ps_while hp hc hb).imp fun D σ H h => ?_
  obtain ⟨ρ, S, ps, R, sl, p⟩ := h
  unfold whRun at p
  dsimp only at p
  split at p
  · rename_i hex
    refine ⟨fun m σ H => ∃ ρ' S' ps', Rel N ρ' H S' ∧ SlR N ρ' H ps' σ ∧ PostS N n W D ρ' S' H (whIter fc fb m ps' S'), ⟨_, ρ, S, ps, R, sl, p⟩, ?_⟩
    rintro m σ' H' ⟨ρ', S', ps', R', sl', q⟩
    cases m with
    | zero => exact q.elim
    | succ m =>
      unfold whIter at q
      refine ⟨ρ', S', ps', R', sl', ?_⟩
      cases hf : fc ps' S' with
      | stuck => rw [hf] at q; exact q.elim
      | exn e S1 => rw [hf] at q; exact fun ρ1 H1 cl d st x => q ρ1 H1 σ' cl d st (sl'.stp st) x
      | ok b S1 =>
        rw [hf] at q
        intro ρ1 H1 x st ex
        have ex' : x = b := ex
        subst ex'
        cases x with
        | false => exact iteF (q ρ1 H1 σ' st (sl'.stp st))
        | true =>
          refine iteT ⟨fun σ2 H2 => ∃ ρ2 S2 ps2, Rel N ρ2 H2 S2 ∧ SlR N ρ2 H2 ps2 σ2 ∧ PostS N n W D ρ2 S2 H2 (whIter fc fb m ps2 S2), fun σ2 H2 hN => ⟨m, Nat.lt_succ_self _, hN⟩, ρ1, S1, ps', st.rel, sl'.stp st, ?_⟩
          dsimp only at q
          cases hr : fb ps' S1 with
          | ok fl ps3 S3 =>
            rw [hr] at q
            cases fl with
            | next => exact fun ρ3 H3 σ3 st3 sl3 => ⟨ρ3, S3, ps3, st3.rel, sl3, PostS.from q (st.trans st3)⟩
            | ret v => exact fun ρ3 H3 x3 st3 rv3 => q ρ3 H3 x3 (st.trans st3) rv3
            | brk => exact fun ρ3 H3 σ3 st3 sl3 => q ρ3 H3 σ3 (st.trans st3) sl3
            | cnt => exact fun ρ3 H3 σ3 st3 sl3 => ⟨ρ3, S3, ps3, st3.rel, sl3, PostS.from q (st.trans st3)⟩
          | exn e ps3 S3 =>
            rw [hr] at q
            exact fun ρ3 H3 σ3 c d st3 sl3 ex3 => q ρ3 H3 σ3 c d (st.trans st3) sl3 ex3
          | stuck => rw [hr] at q; exact q
  · exact p.elim
end
end PyI
set_option Elab.async false
set_option linter.all false
set_option maxRecDepth 100000
set_option maxHeartbeats 2000000
/-! PyR: list comprehensions -/
namespace PyI
open PySem PySem.Spec PyProof.Rows L2
abbrev Nm.un (N : Nm) (ξ : List Addr) : Nm := { N with ex := ξ }
abbrev W0 : WX := fun _ _ _ _ => False
section
variable {N : Nm} {X : Cx} {W : WX} {kk k n : Nat} {G : Tab} {ρ ρ' ρ1 : List Addr} {S S' S1 : Store} {H H' H1 : Hp} {ξ : List Addr} {D : Addr}
/-! ### fewer lists under way -/
mutual
theorem RV.conv {N' : Nm} (hc : N'.ca = N.ca) (hf : N'.fld = N.fld) (hn : N'.nf = N.nf) (hK : N'.K = N.K) (hp : ρ <+: ρ') (ho : ∀ a, Off N ρ a → H a ≠ none → Off N' ρ' a) : ∀ {v : PV} {x : V}, RV N ρ H v x → RV N' ρ' H v x
  | .non, x, h => by simpa [RV] using h
  | .bl b, x, h => by simpa [RV] using h
  | .int i, x, h => by simpa [RV] using h
  | .str s, x, h => by simpa [RV] using h
  | .cls c, x, h => by simp only [RV] at h ⊢; rw [hc]; exact h
  | .ref l, x, h => by
    simp only [RV] at h ⊢
    obtain ⟨a, h1, h2⟩ := h
    obtain ⟨t, e⟩ := hp
    exact ⟨a, by rw [← e, List.getElem?_append_left (List.getElem?_eq_some_iff.mp h1).1]; exact h1, h2⟩
  | .wtp xs, x, h => by simp only [RV] at h ⊢; rw [hK]; exact h
  | .tup xs, x, h => by
    simp only [RV] at h ⊢
    obtain ⟨a, ys, e, h1, h2, h3, h4⟩ := h
    exact ⟨a, ys, e, ho a h1 (by rw [h2]; simp), h2, RVs.conv hc hf hn hK hp ho h3, h4⟩
  | .lst xs, x, h => by
    simp only [RV] at h ⊢
    obtain ⟨a, ys, e, h1, h2, h3, h4⟩ := h
    exact ⟨a, ys, e, ho a h1 (by rw [h2]; simp), h2, RVs.conv hc hf hn hK hp ho h3, h4⟩
  | .dct ks vs, x, h => by
    simp only [RV] at h ⊢
    obtain ⟨a, ys, o, e, h1, h2, h3, h4, h5⟩ := h
    obtain ⟨u, hu⟩ := Rd.some h3
    exact ⟨a, ys, o, e, ho a h1 (by rw [hu]; simp), h2, h3, RVs.conv hc hf hn hK hp ho h4, h5⟩
  | .ins c fs vs, x, h => by
    simp only [RV] at h ⊢
    obtain ⟨a, dx, ys, e, h1, h2, h3, h4, h5⟩ := h
    exact ⟨a, dx, ys, e, ho a h1 (by rw [h2]; simp), by rw [hc, hf]; exact h2, RVs.conv hc hf hn hK hp ho h3, h4, by rw [hn]; exact h5⟩
  | .scr ns, x, h => by
    simp only [RV] at h ⊢
    obtain ⟨a, e, h3, h4⟩ := h
    refine ⟨a, e, ?_, h4⟩
    rcases h3 with ⟨o, h1, h2⟩ | h3
    · exact .inl ⟨o, ho a h1 (by rw [h2]; simp), h2⟩
    · exact .inr (by rw [hK]; exact h3)
theorem RVs.conv {N' : Nm} (hc : N'.ca = N.ca) (hf : N'.fld = N.fld) (hn : N'.nf = N.nf) (hK : N'.K = N.K) (hp : ρ <+: ρ') (ho : ∀ a, Off N ρ a → H a ≠ none → Off N' ρ' a) : ∀ {vs : List PV} {xs : List V}, RVs N ρ H vs xs → RVs N' ρ' H vs xs
  | [], xs, h => by simpa [RVs] using h
  | v :: r, xs, h => by
    obtain ⟨y, u, e, h1, h2⟩ := h.cons_inv
    subst e
    exact .cons (RV.conv hc hf hn hK hp ho h1) (RVs.conv hc hf hn hK hp ho h2)
end
theorem OR.conv {N' : Nm} (hc : N'.ca = N.ca) (hf : N'.fld = N.fld) (hn : N'.nf = N.nf) (hK : N'.K = N.K) (hp : ρ <+: ρ') (ho : ∀ a, Off N ρ a → H a ≠ none → Off N' ρ' a) {o : PO} {a : Addr} (h : OR N ρ H o a) : OR N' ρ' H o a := by
  cases o with
  | lst xs => obtain ⟨ys, h1, r, h2⟩ := h; exact ⟨ys, h1, r.conv hc hf hn hK hp ho, h2⟩
  | dct ks xs => obtain ⟨ys, o, d, h1, r⟩ := h; exact ⟨ys, o, d, h1, r.conv hc hf hn hK hp ho⟩
  | dlk ks xs => obtain ⟨ys, o, od, d, h1, r⟩ := h; exact ⟨ys, o, od, d, h1, r.conv hc hf hn hK hp ho⟩
  | ins c fs xs => obtain ⟨dx, ys, h1, r, h2, h3⟩ := h; exact ⟨dx, ys, by rw [hc, hf]; exact h1, r.conv hc hf hn hK hp ho, h2, by rw [hn]; exact h3⟩
theorem Rel.less (R : Rel (N.un (D :: N.ex)) ρ H S) : Rel N ρ H S :=
  ⟨R.len, R.nd, fun l o a h h' => OR.conv (N := N.un (D :: N.ex)) (N' := N) rfl rfl rfl rfl List.prefix_rfl (fun b hb _ => ⟨hb.1, fun q => hb.2 (List.mem_cons_of_mem _ q)⟩) (R.obj l o a h h'), fun a ha => R.ex a (List.mem_cons_of_mem _ ha)⟩
theorem RVs.less {vs : List PV} {xs : List V} (h : RVs (N.un (D :: N.ex)) ρ H vs xs) : RVs N ρ H vs xs :=
  RVs.conv (N := N.un (D :: N.ex)) (N' := N) rfl rfl rfl rfl List.prefix_rfl (fun b hb _ => ⟨hb.1, fun q => hb.2 (List.mem_cons_of_mem _ q)⟩) h
theorem Stp.lessN (st : Stp (N.un (D :: N.ex)) n ρ S H ρ' S' H') : Stp N n ρ S H ρ' S' H' := ⟨st.pre, st.new, st.ext, st.rel.less, st.le, st.old, st.lk⟩
/-- a list is begun -/
theorem Rel.begin {u : HO} (R : Rel N ρ H S) (hD : H D = none) (nt : ∀ ys, u ≠ .tup ys) : Rel (N.un (D :: N.ex)) ρ (upd H D u) S := by
  have off := R.fresh hD
  refine ⟨R.len, R.nd, fun l o a h h' => ?_, fun a ha => ?_⟩
  · have q := R.obj l o a h h'
    obtain ⟨u, hu, _⟩ := q.there
    have q2 : OR (N.un (D :: N.ex)) ρ H o a := by
      refine OR.conv (N := N) (N' := N.un (D :: N.ex)) rfl rfl rfl rfl List.prefix_rfl (fun b hb hbn => ⟨hb.1, fun z => ?_⟩) q
      rcases List.mem_cons.mp z with e | z
      · subst e; exact hbn hD
      · exact hb.2 z
    exact q2.stay (Stay.laid hD) (upd_ne (ne_of_none hu hD))
  · rcases List.mem_cons.mp ha with e | ha
    · subst e; exact ⟨off.1, _, upd_same, nt⟩
    · obtain ⟨h1, ys, h2, h3⟩ := R.ex a ha
      exact ⟨h1, ys, by rw [upd_ne (ne_of_none h2 hD)]; exact h2, h3⟩
/-- a list grows -/
theorem Stay.grow {u : HO} : Stay (N.un (D :: ξ)) ρ H ρ (upd H D u) :=
  ⟨List.prefix_rfl, fun _ h => .inl h, fun a o h hx => .inl (by rw [upd_ne (fun e => hx.2 (by rw [e]; exact List.mem_cons_self))]; exact h)⟩
theorem Rel.grow {u : HO} (R : Rel (N.un (D :: ξ)) ρ H S) (nt : ∀ ys, u ≠ .tup ys) : Rel (N.un (D :: ξ)) ρ (upd H D u) S := by
  have hD := R.ex D List.mem_cons_self
  refine ⟨R.len, R.nd, fun l o a h h' => ?_, fun a ha => ?_⟩
  · have ha : a ∈ ρ := List.mem_of_getElem? h'
    exact (R.obj l o a h h').stay Stay.grow (upd_ne (fun e => hD.1 (by rw [← e]; exact ha)))
  · by_cases e : a = D
    · subst e; exact ⟨hD.1, _, upd_same, nt⟩
    · obtain ⟨h1, zs, h2, h3⟩ := R.ex a ha
      exact ⟨h1, zs, by rw [upd_ne e]; exact h2, h3⟩
theorem Stp.grow {u : HO} (st : Stp N n ρ1 S1 H1 ρ S H) (hD : H1 D = none) (R : Rel N ρ (upd H D u) S) : Stp N n ρ1 S1 H1 ρ S (upd H D u) :=
  ⟨st.pre, st.new, fun a o h hx => by rw [upd_ne (ne_of_none h hD)]; exact st.ext a o h hx, R, st.le, st.old, st.lk⟩
/-- a list is done -/
theorem Stp.done (st : Stp N n ρ1 S1 H1 ρ S H) (hD : H1 D = none) (R : Rel (N.un (D :: N.ex)) ρ H S) (off : Off N ρ D) {acc : List PV} {ys : List V} (hd : H D = some (.lst ys)) (rs : RVs (N.un (D :: N.ex)) ρ H acc ys) (hz : acc.length ≤ sizeLine) : Stp N n ρ1 S1 H1 (ρ ++ [D]) (S ++ [.lst acc]) H := by
  have cv : ∀ a, Off (N.un (D :: N.ex)) ρ a → H a ≠ none → Off N (ρ ++ [D]) a := fun a ha _ => ⟨fun q => by
    rcases List.mem_append.mp q with q | q
    · exact ha.1 q
    · simp at q; subst q; exact ha.2 List.mem_cons_self, fun q => ha.2 (List.mem_cons_of_mem _ q)⟩
  refine ⟨st.pre.trans (List.prefix_append _ _), fun a ha => ?_, st.ext, ⟨by simp [R.len], ?_, fun l o a h h' => ?_, fun a ha => ⟨fun q => ?_, (R.ex a (List.mem_cons_of_mem _ ha)).2⟩⟩, by rw [List.length_append]; have := st.le; omega, fun l o o' m hl h h' hm => ?_, fun l ks vs h => ?_⟩
  · rcases List.mem_append.mp ha with q | q
    · exact st.new a q
    · simp at q; subst q; exact .inr hD
  · rw [List.nodup_append]
    refine ⟨R.nd, by simp, fun a ha b hb e => ?_⟩
    simp at hb
    subst hb; subst e
    exact off.1 ha
  · by_cases hl : l < S.length
    · rw [List.getElem?_append_left hl] at h
      rw [List.getElem?_append_left (by rw [R.len]; exact hl)] at h'
      exact OR.conv (N := N.un (D :: N.ex)) (N' := N) rfl rfl rfl rfl (List.prefix_append _ _) cv (R.obj l o a h h')
    · rw [List.getElem?_append_right (by omega)] at h
      rw [List.getElem?_append_right (by rw [R.len]; omega), R.len] at h'
      have hz' : l - S.length = 0 := by
        have := (List.getElem?_eq_some_iff.mp h).1
        simp at this
        omega
      rw [hz'] at h h'
      simp at h h'
      subst h; subst h'
      exact ⟨ys, hd, RVs.conv (N := N.un (D :: N.ex)) (N' := N) rfl rfl rfl rfl (List.prefix_append _ _) cv rs, hz⟩
  · rcases List.mem_append.mp q with q | q
    · exact (R.ex a (List.mem_cons_of_mem _ ha)).1 q
    · simp at q; subst q; exact off.2 ha
  · have hlt := Nat.lt_of_lt_of_le (List.getElem?_eq_some_iff.mp h).1 st.le
    rw [List.getElem?_append_left hlt] at h'
    exact st.old l o o' m hl h h' hm
  · have hlt := Nat.lt_of_lt_of_le (List.getElem?_eq_some_iff.mp h).1 st.le
    rw [List.getElem?_append_left hlt]
    exact st.lk l ks vs h
/-! ### [e for p in it if c] -/
noncomputable def compF (p : Pat) (own : List Nat) (ft : Ev → Store → Res Bool) (fe : Ev → Store → Res PV) (w : Walked) (ps : Ev) (S1 : Store) : Res (List PV) :=
  compLoop (stay w.ls) (fun x S => match bindPat p x (wipeP ps own) S with
          | some ps' => ft ps' S
          | none => .stuck) (fun x S => match bindPat p x (wipeP ps own) S with
          | some ps' => fe ps' S
          | none => .stuck) w.xs [] S1
def tEx (N : Nm) (n : Nat) (f : Ev → Store → Res PV) : TE := fun σ H Q => ∃ ξ, tE (N.un ξ) n W0 f σ H Q
def tTx (N : Nm) (n : Nat) (f : Ev → Store → Res Bool) : TT := fun σ H Q => ∃ ξ, tT (N.un ξ) n W0 f σ H Q
theorem SlR.more {ps : Ev} {σ : L2.St} (m : More N H ξ) (h : SlR N ρ H ps σ) : SlR (N.un ξ) ρ H ps σ := ⟨h.1, fun i v e => let ⟨x, h1, h2⟩ := h.2 i v e; ⟨x, h1, h2.more m⟩⟩
theorem bindPat_S {p : Pat} {x : PV} {ps : Ev} {S S' : Store} : bindPat p x ps S = bindPat p x ps S' := by cases p <;> rfl
theorem lc_read {fr : Bool} {p : Pat} {own : List Nat} {fi : Ev → Store → Res Walked} {ft : Ev → Store → Res Bool} {fe : Ev → Store → Res PV} (hK : X.K = N.K) (hp : ∀ i ∈ p.ix, i ∈ own) {σ : L2.St} {Q : VK}
    (hq : tE N n W (fun ps S => (fi ps S).bind fun w S1 => (compF p own ft fe w ps S1).noX.bind fun xs S2 => mkL fr xs S2) σ H Q) :
    tLc (tI N n W fi) (gPat X.K p) (tTx N n ft) (tEx N n fe) own σ H Q := by
  obtain ⟨ρ, S, ps, R, sl, pp⟩ := hq
  refine ⟨ρ, S, ps, R, sl, (Post.bind (R := RW N) pp).mono fun J H1 ⟨ρ1, w, S1, st0, wok, p1⟩ D hD => ?_⟩
  obtain ⟨Gd, Y, wk, hG, hY⟩ := wok
  have R1 := st0.rel
  have sl1 := sl.stp st0
  have m : More N H1 (D :: N.ex) := ⟨fun _ h => List.mem_cons_of_mem _ h, fun a h => by
    rcases List.mem_cons.mp h with e | h
    · subst e; exact .inr hD
    · exact .inl h⟩
  unfold compF at p1
  generalize hT : (fun (x : PV) (S : Store) => match bindPat p x (wipeP ps own) S with
          | some ps' => ft ps' S
          | none => (Res.stuck : Res Bool)) = T at p1
  generalize hE : (fun (x : PV) (S : Store) => match bindPat p x (wipeP ps own) S with
          | some ps' => fe ps' S
          | none => (Res.stuck : Res PV)) = E at p1
  refine lc_it wk (fun i H => ∃ ρ' S' acc ys, Stp N n ρ1 S1 H1 ρ' S' H ∧ Rel (N.un (D :: N.ex)) ρ' H S' ∧ H D = some (.lst ys) ∧ RVs (N.un (D :: N.ex)) ρ' H acc ys ∧ acc.length ≤ sizeLine ∧
      Post N n (RVl N) (fun c d H => W c d σ H) Q ρ1 S1 H1 ((compLoop (stay w.ls) T E (w.xs.drop i) acc S').noX.bind fun xs S2 => mkL fr xs S2)) ?_ ?_ ?_ ?_
  · refine ⟨ρ1, S1, [], [], Stp.laid R1 hD, R1.begin hD (fun _ e => by cases e), upd_same, by simp [RVs], Nat.zero_le _, by rw [List.drop_zero]; exact p1⟩
  · rintro i H' _ ⟨ρ', S', acc, ys, st, R', hd, rs, hz, q⟩
    refine hG (D :: N.ex) ρ' S' H' m st.stay R' ?_
    cases hx : w.xs.drop i with
    | nil =>
      rw [hx] at q
      unfold compLoop at q
      split at q
      · assumption
      · exact q.elim
    | cons x l =>
      rw [hx] at q
      unfold compLoop at q
      split at q
      · assumption
      · exact q.elim
  · rintro i x H' H'' hi ⟨ρ', S', acc, ys, st, R', hd, rs, hz, q⟩ y
    have hdr : ∃ v, w.xs[i]? = some v ∧ w.xs.drop i = v :: w.xs.drop (i + 1) := ⟨w.xs[i], by simp [hi], by rw [List.drop_eq_getElem_cons hi]⟩
    obtain ⟨v, ev, hdr⟩ := hdr
    rw [hdr] at q
    unfold compLoop at q
    by_cases hok : stay w.ls S' = true
    · rw [if_pos hok] at q
      obtain ⟨v', ev', nw, rv⟩ := hY (D :: N.ex) i x H' H'' ρ' S' m hi st.stay R' hok y
      rw [ev] at ev'; cases ev'
      have st2 : Stp (N.un (D :: N.ex)) n ρ' S' H' ρ' S' H'' := nw.stp R'
      have slX : SlR (N.un (D :: N.ex)) ρ' H'' (wipeP ps own) (L2.wipe σ own) :=
        SlR.wipe (SlR.stp ((SlR.more m sl1).stay (st.stay.more m)) st2) own
      cases hb : bindPat p v (wipeP ps own) S' with
      | none =>
        have hTv : T v S' = .stuck := by rw [← hT]; dsimp only; rw [hb]
        rw [hTv] at q
        exact q.elim
      | some ps' =>
        have hTv : T v S' = ft ps' S' := by rw [← hT]; dsimp only; rw [hb]
        rw [hTv] at q
        refine gPat_ok (N := N.un (D :: N.ex)) hK rv slX hb fun xs sl'' => ⟨by rw [wipe_pat hp, wipe_idem], D :: N.ex, ρ', S', ps', st2.rel, sl'', ?_⟩
        cases hf : ft ps' S' with
        | stuck => rw [hf] at q; exact q.elim
        | exn e Sa => rw [hf] at q; exact q.elim
        | ok c Sa =>
          rw [hf] at q
          intro ρa Ha x3 st3 ex
          have ex' : x3 = c := ex
          subst ex'
          have sta := (st.trans st2.lessN).trans st3.lessN
          have hda : Ha D = some (.lst ys) := (st2.trans st3).ext D _ hd (R'.ex D List.mem_cons_self).1
          have rsa := (rs.stp st2).stp st3
          cases x3 with
          | false => exact iteF ⟨ρa, Sa, acc, ys, sta, st3.rel, hda, rsa, hz, q⟩
          | true =>
            refine iteT ⟨D :: N.ex, ρa, Sa, ps', st3.rel, sl''.stp st3, ?_⟩
            have hEv : E v Sa = fe ps' Sa := by rw [← hE]; dsimp only; rw [bindPat_S (S' := S'), hb]
            simp only [Res.bind_ok, if_true] at q
            rw [hEv] at q
            cases hg : fe ps' Sa with
            | stuck => rw [hg] at q; exact q.elim
            | exn e Sb => rw [hg] at q; exact q.elim
            | ok v2 Sb =>
              rw [hg] at q
              simp only [Res.bind_ok] at q
              intro ρb Hb y2 st4 rv2
              split at q
              · rename_i hlt
                have hdb : Hb D = some (.lst ys) := st4.ext D _ hda (st3.rel.ex D List.mem_cons_self).1
                have Rg := st4.rel.grow (u := .lst (ys ++ [y2])) (fun _ e => by cases e)
                refine ⟨ys, hdb, by rw [← rs.length]; exact hlt, ρb, Sb, acc ++ [v2], ys ++ [y2], (sta.trans st4.lessN).grow hD Rg.less, Rg, upd_same, (RVs.stay Stay.grow (rsa.stp st4)).append (.cons (RV.stay Stay.grow rv2) (by simp [RVs])), by rw [List.length_append]; exact hlt, q⟩
              · exact q.elim
    · rw [if_neg hok] at q
      exact q.elim
  · rintro H' ⟨ρ', S', acc, ys, st, R', hd, rs, hz, q⟩
    rw [List.drop_length] at q
    unfold compLoop at q
    split at q
    · simp only [Res.noX_ok, Res.bind_ok] at q
      have off : Off N ρ' D := ⟨(R'.ex D List.mem_cons_self).1, fun z => by
        obtain ⟨_, zs, e, _⟩ := R1.ex D z
        rw [hD] at e; exact (nomatch e)⟩
      cases fr with
      | true =>
        refine q ρ' H' _ st ?_
        simp only [RV]
        exact ⟨D, ys, rfl, off, hd, rs.less, hz⟩
      | false =>
        refine q (ρ' ++ [D]) H' _ (st.done hD R' off hd rs hz) ?_
        simp only [RV]
        exact ⟨D, by rw [← R'.len]; simp, rfl⟩
    · exact q.elim
theorem tExOk {e : Expr} {f : Ev → Store → Res PV} {X : Cx} (h : ∀ ξ, PE X e (tE (N.un ξ) n W0 f)) : PE X e (tEx N n f) := ⟨fun pins s σ H Q I ⟨ξ, q⟩ => (h ξ).run pins s σ H Q I q⟩
theorem tTxOk {c : Expr} {f : Ev → Store → Res Bool} {X : Cx} (h : ∀ ξ, PT X c (tT (N.un ξ) n W0 f)) : PTs X [c] (tTx N n f) := pts_one ⟨fun pins s σ H Q I ⟨ξ, q⟩ => (h ξ).run pins s σ H Q I q⟩
theorem tTx_nil {X : Cx} : PTs X [] (tTx N n fun _ S => .ok true S) := ⟨fun pins s σ H Q I ⟨ξ, ρ, S, ps, R, sl, q⟩ => pts_nil.run pins s σ H Q I (q.ok R rfl)⟩
/-- [elt for tg in iter ..], as a value -/
theorem e_lc (g : Good N X W kk) {fr : Bool} {p : Pat} {elt tg iter : Expr} {ifs : List Expr} {scope : Scope} {own : List (Str × Nat)} {pos : Pos} {fi : Ev → Store → Res Walked} {ft : Ev → Store → Res Bool} {fe : Ev → Store → Res PV}
    (hp : ∀ i ∈ p.ix, i ∈ own.map (·.2)) (hi : PI X tg iter (tI N n W fi)) (ok : BlkOk X.N X.env.scope scope own)
    (hg : ∀ (s : Shared) (H : Hp) (C : Addr) (cl : List (Str × Addr)) (fp : List Addr), PG (X.blk s H scope (compEnvC scope cl C X.env) fp) tg (gPat X.K p))
    (ht : ∀ (s : Shared) (H : Hp) (C : Addr) (cl : List (Str × Addr)) (fp : List Addr), PTs (X.blk s H scope (compEnvC scope cl C X.env) fp) ifs (tTx N n ft))
    (he : ∀ (s : Shared) (H : Hp) (C : Addr) (cl : List (Str × Addr)) (fp : List Addr), PE (X.blk s H scope (compEnvC scope cl C X.env) fp) elt (tEx N n fe)) (hs : ∀ x, foldedSetIterable iter X.env x = pure x) :
    PE X (.ListComp elt [⟨tg, iter, ifs, 0⟩] scope pos) (tE N n W fun ps S => (fi ps S).bind fun w S1 => (compF p (own.map (·.2)) ft fe w ps S1).noX.bind fun xs S2 => mkL fr xs S2) :=
  (pe_lc g.calm g.nd hi ok hg ht he hs).imp fun σ H Q h => lc_read g.hK hp h
/-- name = [elt for tg in iter ..] -/
theorem s_setLc (g : Good N X W kk) {i : Nat} {y : Str} {py spos : Pos} {fr : Bool} {p : Pat} {elt tg iter : Expr} {ifs : List Expr} {scope : Scope} {own : List (Str × Nat)} {pos : Pos} {fi : Ev → Store → Res Walked} {ft : Ev → Store → Res Bool} {fe : Ev → Store → Res PV}
    (hy : X.N[i]? = some y) (hyl : X.env.scope.names.lookup y = some .local) (hsw : swapsWith (.ListComp elt [⟨tg, iter, ifs, 0⟩] scope pos) (some (.Name y py)) spos.line X.env = pure true)
    (hp : ∀ i ∈ p.ix, i ∈ own.map (·.2)) (hi : PI X tg iter (tI N n W fi)) (ok : BlkOk X.N X.env.scope scope own)
    (hg : ∀ (s : Shared) (H : Hp) (C : Addr) (cl : List (Str × Addr)) (fp : List Addr), PG (X.blk s H scope (compEnvC scope cl C X.env) fp) tg (gPat X.K p))
    (ht : ∀ (s : Shared) (H : Hp) (C : Addr) (cl : List (Str × Addr)) (fp : List Addr), PTs (X.blk s H scope (compEnvC scope cl C X.env) fp) ifs (tTx N n ft))
    (he : ∀ (s : Shared) (H : Hp) (C : Addr) (cl : List (Str × Addr)) (fp : List Addr), PE (X.blk s H scope (compEnvC scope cl C X.env) fp) elt (tEx N n fe)) (hs : ∀ x, foldedSetIterable iter X.env x = pure x) :
    PS X (.Assign [.Name y py] (.ListComp elt [⟨tg, iter, ifs, 0⟩] scope pos) spos) (tS N n W fun ps S => ((fi ps S).bind fun w S1 => (compF p (own.map (·.2)) ft fe w ps S1).noX.bind fun xs S2 => mkL fr xs S2).toS ps fun v S1 => .ok .next (ps.set i (some v)) S1) := by
  refine (ps_setLc g.calm g.nd hy hyl hsw hi ok hg ht he hs).imp fun D σ H h => ?_
  obtain ⟨ρ, S, ps, R, sl, p⟩ := h
  exact lc_read (fr := fr) g.hK hp ⟨ρ, S, ps, R, sl, (PostS.toS (RR := RVl N) sl p).mono fun x H1 ⟨ρ1, a, S1, st, rv, p1⟩ => p1.nx st.rel ((sl.stp st).set rv i)⟩
end
end PyI
set_option Elab.async false
set_option linter.all false
set_option maxRecDepth 100000
set_option maxHeartbeats 2000000
/-! PyS: writes, augmented assignments, pairs, try -/
namespace PyI
open PySem PySem.Spec PyProof.Rows L2
section
variable {N : Nm} {X : Cx} {W : WX} {kk k n : Nat} {G : Tab}
theorem RV.okL {ρ : List Addr} {H : Hp} {q : DKey} {x : V} (h : RV N ρ H q.pv x) : q.okL := by
  cases q with
  | i n => exact True.intro
  | s z => exact (RV.str_iff.mp h).2
  | t ks =>
    simp only [DKey.pv, RV] at h
    obtain ⟨a, ys, _, _, _, rs, hz⟩ := h
    refine ⟨by simpa using hz, fun k hk z ez => ?_⟩
    subst ez
    obtain ⟨i, hi⟩ := List.getElem?_of_mem hk
    have : (ks.map pv1)[i]? = some (.str z) := by rw [List.getElem?_map, hi]; rfl
    obtain ⟨y, _, ry⟩ := rs.get this
    exact (RV.str_iff.mp ry).2
def rSet (N : Nm) (n : Nat) : TSet := fun o i v H Q => ∃ ρ S po pi pv S', Rel N ρ H S ∧ RV N ρ H po o ∧ RV N ρ H pi i ∧ RV N ρ H pv v ∧ setIx n po pi pv S = some S' ∧ ∀ ρ' H', Stp N n ρ S H ρ' S' H' → Q H'
theorem upd_upd {H : Hp} {a : Addr} {o o' : HO} : upd (upd H a o) a o' = upd H a o' := by
  funext b
  by_cases h : b = a
  · subst h; rw [upd_same, upd_same]
  · rw [upd_ne h, upd_ne h, upd_ne h]
theorem lts_set {m : Nat} {xs : List PV} {v : PV} {j : Nat} (h : PV.lts m xs = true) (hv : v.lt m = true) : PV.lts m (xs.set j v) = true := by
  rw [PV.lts_eq] at h ⊢
  rw [List.all_eq_true] at h ⊢
  intro x hx
  rcases List.mem_or_eq_of_mem_set hx with h1 | h1
  · exact h x h1
  · rw [h1]; exact hv
theorem lts_putVs {m : Nat} {q : DKey} {v : PV} (hv : v.lt m = true) : ∀ {ks : List DKey} {vs : List PV}, PV.lts m vs = true → PV.lts m (putVs ks vs q v) = true
  | [], vs, _ => by simp [putVs, PV.lts, hv]
  | _ :: _, [], _ => by simp [putVs, PV.lts, hv]
  | k :: ks, w :: vs, h => by
    rw [PV.lts, Bool.and_eq_true] at h
    unfold putVs
    split
    · rw [PV.lts, hv, h.2]; rfl
    · rw [PV.lts, h.1, lts_putVs hv h.2]; rfl
theorem lts_putFv {m q : Nat} {v : PV} (hv : v.lt m = true) : ∀ {ks : List Nat} {vs : List PV}, PV.lts m vs = true → PV.lts m (putFv ks vs q v) = true
  | [], vs, _ => by simp [putFv, PV.lts, hv]
  | _ :: _, [], _ => by simp [putFv, PV.lts, hv]
  | k :: ks, w :: vs, h => by
    rw [PV.lts, Bool.and_eq_true] at h
    unfold putFv
    split
    · rw [PV.lts, hv, h.2]; rfl
    · rw [PV.lts, h.1, lts_putFv hv h.2]; rfl
theorem wr_lt {l m : Nat} {v : PV} (gd : (decide (n ≤ l) || v.rf) = true) (hl : l < n) : v.lt m = true := by
  rw [Bool.or_eq_true, decide_eq_true_eq] at gd
  rcases gd with gd | gd
  · omega
  · exact PV.lt_of_rf m v gd
theorem pset (g : Good N X W kk) : PSet X (rSet N n) := by
  intro pins s σ H o i v ov iv u Q I ro ri rv h
  obtain ⟨ρ, S, po, pi, pv, S', R, qo, qi, qv, e, q⟩ := h
  unfold setIx at e
  split at e
  · rename_i l
    split at e
    · rename_i gd
      split at e
      · rename_i xs hs
        split at e
        · rename_i k1
          rw [Option.map_eq_some_iff] at e
          obtain ⟨j, e1, e2⟩ := e
          subst e2
          cases RV.int_iff.mp qi
          simp only [RV] at qo
          obtain ⟨a, h1, h2⟩ := qo
          subst h2
          obtain ⟨ys, q1, q2, q3⟩ := R.obj l _ a hs h1
          refine set_list pins s σ H _ _ _ ov iv u Q I ro ri rv ⟨a, ys, k1, j, rfl, rfl, q1, by rw [← q2.length]; exact e1, q ρ _ ?_⟩
          exact Stp.wrote R hs h1 (fun t => ⟨_, upd_same, (q2.stay t).set j (qv.stay t), by rw [List.length_set]; exact q3⟩) (fun _ _ e => by cases e) fun hl m hm => lts_set hm (wr_lt gd hl)
        · cases e
      · rename_i ks vs hs
        rw [Option.bind_eq_some_iff] at e
        obtain ⟨kq, e1, e⟩ := e
        split at e
        · rename_i gk
          cases e
          rw [Bool.and_eq_true, decide_eq_true_eq] at gk
          rw [key_pv e1] at qi
          have okk := qi.okL
          simp only [RV] at qo
          obtain ⟨a, h1, h2⟩ := qo
          subst h2
          obtain ⟨ys, oo, d, q1, q2⟩ := R.obj l _ a hs h1
          obtain rfl : ov = Value.ref a := ro
          have fin : ∀ u', DC (putKs ks kq) (putVs ks ys kq v) u' → Stp N n ρ S H ρ (S.set l (.dct (putKs ks kq) (putVs ks vs kq pv))) (upd H a u') := fun u' d' =>
            Stp.wrote R hs h1 (fun t => ⟨_, u', d', upd_same, (q2.stay t).putVs (qv.stay t)⟩) (fun _ _ e => by cases e) fun hl m hm => lts_putVs (wr_lt gd hl) hm
          have okAll : ∀ {kk : List DKey}, (∀ z ∈ ks, z.okL) → ∀ z ∈ putKs ks kq, z.okL := fun h z hz => (putKs_mem hz).elim (h z) fun e => by rw [e]; exact okk
          have hlen : (putKs ks kq).length ≤ sizeLine := Nat.le_trans putKs_length gk.1
          rcases qi.asKey with ⟨w, e5, e6⟩ | ⟨w, b, e5, e6, _, hb⟩
          · subst e5; subst e6
            cases d with
            | k kvs z1 z2 z3 z4 z5 =>
              obtain ⟨y1, y2⟩ := putK_keys dk1 (fun _ _ => dk1_inj) w v kvs (nodup_fst dk1 (by rw [← z1]; exact z4))
              have d' : DC (putKs ks (dk1 w)) (putVs ks ys (dk1 w) v) (.dK (putK kvs w v)) := .k _ (by rw [y1, ← z1]) (by rw [y2, ← z1, ← z2]) (okAll (kk := ks) z3) (putKs_nodup z4) hlen
              exact d_setItem g.hu1 I (DPut.k q1 (by have := gk.1; rw [z1, List.length_map] at this; exact this)) ri rv fun s' I' => ⟨_, I', q ρ _ (fin _ d')⟩
            | t kvs z1 z2 z3 z4 z5 z6 =>
              cases kvs with
              | nil => exact (z6 (by rw [z1]; rfl)).elim
              | cons p r =>
                have := gk.2
                rw [z1, List.map_cons] at this
                simp only [kindOk, dk1_isT] at this
                cases this
          · subst e5; subst e6
            cases d with
            | k kvs z1 z2 z3 z4 z5 =>
              cases kvs with
              | nil =>
                have e0 : ks = [] := by rw [z1]; rfl
                have ey : ys = [] := by rw [z2]; rfl
                have I2 := Inv.emp I q1
                have hb2 : upd H a (.dT []) b = some (.tup (w.map kV)) := by
                  rw [upd_ne (fun z => by rw [z, q1] at hb; cases hb)]; exact hb
                have d' : DC (putKs ks (.t w)) (putVs ks ys (.t w) v) (.dT (putK [] w v)) := by
                  subst e0
                  exact .t _ rfl rfl (okAll (kk := []) z3) (putKs_nodup z4) hlen (by simp [putKs])
                refine d_setItem g.hu1 I2 (DPut.t (kvs := []) (k := w) upd_same hb2 (by rw [sizeLine_eq]; simp)) ri rv fun s' I' => ⟨_, I', ?_⟩
                rw [upd_upd]
                exact q ρ _ (fin _ d')
              | cons p r =>
                have := gk.2
                rw [z1, List.map_cons] at this
                simp only [kindOk, dk1_isT] at this
                cases this
            | t kvs z1 z2 z3 z4 z5 z6 =>
              obtain ⟨y1, y2⟩ := putK_keys DKey.t (fun _ _ h => by injection h) w v kvs (nodup_fst DKey.t (by rw [← z1]; exact z4))
              have d' : DC (putKs ks (.t w)) (putVs ks ys (.t w) v) (.dT (putK kvs w v)) := .t _ (by rw [y1, ← z1]) (by rw [y2, ← z1, ← z2]) (okAll (kk := ks) z3) (putKs_nodup z4) hlen putKs_ne
              exact d_setItem g.hu1 I (DPut.t q1 hb (by have := gk.1; rw [z1, List.length_map] at this; exact this)) ri rv fun s' I' => ⟨_, I', q ρ _ (fin _ d')⟩
        · cases e
      · cases e
    · cases e
  · cases e
/-- a[i] = e -/
theorem s_setS (g : Good N X W kk) {a i e : Expr} {fa fi fe : Ev → Store → Res PV} {pos p2 : Pos} (he : PE X e (tE N n W fe)) (ha : PE X a (tE N n W fa)) (hi : PE X i (tE N n W fi)) (hs : swapsWithSole [.Subscript a i p2] e pos.line X.env = pure false) (hw : swappedStores [.Subscript a i p2] e X.env = pure none) (has : ∀ v, assign (.Subscript a i p2) X.env v = (do
      let ov ← holding [v] (PySem.eval a X.env)
      let iv ← holding [v, ov] (PySem.eval i X.env)
      standAt p2
      holding [v, ov, iv] (setItem ov iv v)
      release [v, ov, iv] [])) :
    PS X (.Assign [.Subscript a i p2] e pos) (tS N n W fun ps S => (fe ps S).toS ps fun v S1 => (fa ps S1).toS ps fun o S2 => (fi ps S2).toS ps fun q S3 => (match setIx n o q v S3 with
      | some S4 => .ok .next ps S4
      | none => .stuck)) := by
  refine (ps_asg he (pg_sub (pos := p2) ha hi (pset (n := n) g) has) hs hw rfl).imp fun D σ H h => ?_
  obtain ⟨ρ, S, ps, R, sl, p⟩ := h
  refine ⟨ρ, S, ps, R, sl, (PostS.toS (RR := RVl N) sl p).mono fun x H1 ⟨ρ1, v, S1, st1, rv, p1⟩ => ?_⟩
  refine ⟨ρ1, S1, ps, st1.rel, sl.stp st1, (PostS.toS (RR := RVl N) (sl.stp st1) p1).mono fun y H2 ⟨ρ2, o, S2, st2, ro, p2⟩ => ?_⟩
  refine ⟨ρ2, S2, ps, st2.rel, (sl.stp st1).stp st2, (PostS.toS (RR := RVl N) ((sl.stp st1).stp st2) p2).mono fun z H3 ⟨ρ3, q, S3, st3, rq, p3⟩ => ?_⟩
  split at p3
  · rename_i S4 e4
    exact ⟨ρ3, S3, o, q, v, S4, st3.rel, ro.stp st3, rq, (rv.stp st2).stp st3, e4, fun ρ' H' st => p3 ρ' H' σ st ((((sl.stp st1).stp st2).stp st3).stp st)⟩
  · exact p3.elim
/-- op= of whole numbers -/
theorem pip (op : Operator) : PIp X op (fun x y H Q => ∃ ρ a b z, RV N ρ H a x ∧ RV N ρ H b y ∧ augop op a b = some z ∧ ∀ w, RV N ρ H z w → Q w H) := by
  intro pins s σ H x y v u Q I rx ry h
  obtain ⟨ρ, a, b, z, ra, rb, e, q⟩ := h
  unfold augop at e
  split at e
  · cases e; cases RV.int_iff.mp ra; cases RV.int_iff.mp rb
    exact ip_add pins s σ H _ _ v u Q I rx ry ⟨_, _, rfl, rfl, q _ (RV.int_iff.mpr rfl)⟩
  · cases e; cases RV.int_iff.mp ra; cases RV.int_iff.mp rb
    exact ip_sub pins s σ H _ _ v u Q I rx ry ⟨_, _, rfl, rfl, q _ (RV.int_iff.mpr rfl)⟩
  · cases e
theorem s_aug (g : Good N X W kk) {i : Nat} {x : Str} {e : Expr} {fe : Ev → Store → Res PV} {op : Operator} {pos pos' : Pos} (hi : X.N[i]? = some x) (hx : Loc X.env.scope x) (he : PE X e (tE N n W fe)) (hf : X.fn x = true ∨ X.env.scope.names.lookup x = some .local) :
    PS X (.AugAssign (.Name x pos') op e pos) (tS N n W fun ps S => (match ps[i]? with
    | some (some x) => (fe ps S).toS ps fun y S1 => (PyI.ofO (augop op x y) S1).toS ps fun z S2 => .ok .next (ps.set i (some z)) S2
    | _ => .stuck)) := by
  refine (ps_aug g.nd hi hx he (pip (N := N) op) hf).imp fun D σ H h => ?_
  obtain ⟨ρ, S, ps, R, sl, p⟩ := h
  dsimp only at p
  split at p
  · rename_i v ev
    obtain ⟨xv, e1, rv⟩ := sl.2 i v ev
    refine ⟨xv, e1, ρ, S, ps, R, sl, (PostS.toS (RR := RVl N) sl p).mono fun y H1 ⟨ρ1, w, S1, st1, rw', p1⟩ => ?_⟩
    cases hz : augop op v w with
    | none => rw [hz] at p1; exact p1.elim
    | some z =>
      rw [hz] at p1
      exact ⟨ρ1, v, w, z, rv.stp st1, rw', hz, fun u ru => p1.nx st1.rel ((sl.stp st1).set ru i)⟩
  · exact p.elim
theorem putF_zip {q : Nat} (hq : q < N.nf) {y : V} : ∀ {fs : List Nat} {ys : List V}, (∀ i ∈ fs, i < N.nf) → fs.length = ys.length → putF (N.fld q) y ((fs.map N.fld).zip ys) = ((putFk fs q).map N.fld).zip (putFv fs ys q y)
  | [], [], _, _ => by simp [putF, putFk, putFv]
  | [], _ :: _, _, h => by cases h
  | _ :: _, [], _, h => by cases h
  | i :: fs, z :: ys, h, hl => by
    rw [List.map_cons, List.zip_cons_cons]
    unfold putF putFk putFv
    by_cases e : i = q
    · subst e; simp
    · have : ¬ N.fld i = N.fld q := fun z => e (N.inj i q (h i (by simp)) hq z)
      rw [if_neg this, if_neg e, if_neg e, List.map_cons, List.zip_cons_cons, putF_zip hq (fun j hj => h j (by simp [hj])) (by simpa using hl)]
theorem putFk_mem {q i : Nat} : ∀ {fs : List Nat}, i ∈ putFk fs q → i ∈ fs ∨ i = q
  | [], h => by simp [putFk] at h; exact .inr h
  | f :: fs, h => by
    unfold putFk at h
    split at h
    · exact .inl h
    · rcases List.mem_cons.mp h with e | h
      · exact .inl (by simp [e])
      · exact (putFk_mem h).imp (fun z => List.mem_cons_of_mem _ z) id
theorem putF_len {α : Type} {q : Nat} {y : α} : ∀ {fs : List Nat} {ys : List α}, fs.length = ys.length → (putFk fs q).length = (putFv fs ys q y).length
  | [], [], _ => rfl
  | [], _ :: _, h => by cases h
  | _ :: _, [], h => by cases h
  | i :: fs, z :: ys, h => by
    unfold putFk putFv
    split
    · exact h
    · simp [putF_len (q := q) (y := y) (fs := fs) (ys := ys) (by simpa using h)]
theorem RVs.putFv {ρ : List Addr} {H : Hp} {q : Nat} {v : PV} {y : V} (r : RV N ρ H v y) : ∀ {fs : List Nat} {vs : List PV} {ys : List V}, RVs N ρ H vs ys → RVs N ρ H (PyI.putFv fs vs q v) (PyI.putFv fs ys q y)
  | [], _, _, h => by simp only [PyI.putFv]; exact .cons r (by simp [RVs])
  | _ :: _, [], ys, h => by rw [RVs.nil_iff] at h; subst h; simp only [PyI.putFv]; exact .cons r (by simp [RVs])
  | f :: fs, w :: vs, ys, h => by
    obtain ⟨z, t, e, h1, h2⟩ := h.cons_inv
    subst e
    unfold PyI.putFv
    split
    · exact .cons r h2
    · exact .cons h1 (RVs.putFv r h2)
/-- o.f = e -/
theorem s_setA (g : Good N X W kk) (wd : Wd N G) {m : Nat} (hm : m < N.nf) {o e : Expr} {fo fe : Ev → Store → Res PV} {pos p2 : Pos} (ho : PE X o (tE N n W fo)) (he : PE X e (tE N n W fe)) (hs : swapsWith e (some (.Attribute o (N.fld m) p2)) pos.line X.env = pure false) :
    PS X (.Assign [.Attribute o (N.fld m) p2] e pos) (tS N n W fun ps S => (fe ps S).toS ps fun v S1 => (fo ps S1).toS ps fun o S2 => (match setAt G n o m v S2 with
      | some S3 => .ok .next ps S3
      | none => .stuck)) := by
  refine (ps_fld ho he hs).imp fun D σ H h => ?_
  obtain ⟨ρ, S, ps, R, sl, p⟩ := h
  refine ⟨ρ, S, ps, R, sl, (PostS.toS (RR := RVl N) sl p).mono fun x H1 ⟨ρ1, v, S1, st1, rv, p1⟩ => ?_⟩
  refine ⟨ρ1, S1, ps, st1.rel, sl.stp st1, (PostS.toS (RR := RVl N) (sl.stp st1) p1).mono fun y H2 ⟨ρ2, po, S2, st2, ro, p2⟩ => ?_⟩
  split at p2
  · rename_i S3 e3
    unfold setAt at e3
    split at e3
    · rename_i l
      split at e3
      · rename_i gd
        split at e3
        · rename_i c fs vs hs'
          split at e3
          · rename_i gk
            cases e3
            rw [Bool.and_eq_true, decide_eq_true_eq] at gk
            simp only [RV] at ro
            obtain ⟨a, h1, h2⟩ := ro
            subst h2
            obtain ⟨dx, ys, q1, q2, q3, q4⟩ := st2.rel.obj l _ a hs' h1
            obtain ⟨kd, hc⟩ := noAt_cls gk.2
            obtain ⟨n1, n2⟩ := noAt_eq hc gk.2
            have cf := wd.cls c kd hc
            have hcl := cf.cls
            have hN := cf.fld m hm n1 n2
            rw [← g.hK] at hcl hN
            have hly : fs.length = ys.length := by rw [q3, q2.length]
            refine ⟨a, N.ca c, dx, _, rfl, q1, hcl, hN, by rw [List.length_zip, List.length_map]; have := gk.1; omega, ?_⟩
            rw [putF_zip hm q4 hly]
            have st3 : Stp N n ρ2 S2 H2 ρ2 (S2.set l (.ins c (putFk fs m) (putFv fs vs m v))) (upd H2 a (.ins (N.ca c) dx (((putFk fs m).map N.fld).zip (putFv fs ys m x)))) :=
              Stp.wrote st2.rel hs' h1 (o' := .ins c (putFk fs m) (putFv fs vs m v)) (fun t => ⟨dx, _, upd_same, RVs.putFv ((rv.stp st2).stay t) (q2.stay t), putF_len q3, fun i hi => (putFk_mem hi).elim (q4 i) fun h => by rw [h]; exact hm⟩) (fun _ _ e => by cases e) fun hl m' hm' => lts_putFv (wr_lt gd hl) hm'
            exact p2 ρ2 _ σ st3 (SlR.stp ((sl.stp st1).stp st2) st3)
          · cases e3
        · cases e3
      · cases e3
    · cases e3
  · exact p2.elim
/-- a, b, c = x, y, z -/
theorem s_par3 (g : Good N X W kk) {i j l : Nat} {x y z : Str} {a b c : Expr} {h : Ev → Store → Res (List PV)} {px py pz pt pos : Pos} {kt k2 : Nat} {pt2 : Pos} (hi : X.N[i]? = some x) (hj : X.N[j]? = some y) (hl : X.N[l]? = some z) (hij : i ≠ j) (hil : i ≠ l) (hjl : j ≠ l)
    (hx : X.env.scope.names.lookup x = some .local) (hy : X.env.scope.names.lookup y = some .local) (hz : X.env.scope.names.lookup z = some .local) (ha : PA X [a, b, c] (tA N n W h))
    (hw : swappedStores [.Tuple [.Name x px, .Name y py, .Name z pz] kt pt] (.Tuple [a, b, c] k2 pt2) X.env = pure (some [x, y, z])) :
    PS X (.Assign [.Tuple [.Name x px, .Name y py, .Name z pz] kt pt] (.Tuple [a, b, c] k2 pt2) pos) (tS N n W fun ps S => ((h ps S).bind fun vs S1 => guardR (decide (vs.length ≤ sizeLine)) (.ok (PV.tup vs) S1)).toS ps fun v S1 => (match bindPat (.tp [i, j, l]) v ps S1 with
      | some ps' => .ok .next ps' S1
      | none => .stuck)) := by
  refine (ps_par3 g.calm g.nd hi hj hl hij hil hjl hx hy hz ha hw).imp fun D σ H hq => ?_
  obtain ⟨ρ, S, ps, R, sl, p⟩ := hq
  refine ⟨ρ, S, ps, R, sl, ?_⟩
  dsimp only at p
  cases hf : h ps S with
  | stuck => rw [hf] at p; exact p.elim
  | exn e S1 => rw [hf] at p; exact fun ρ' H' c d st x => p ρ' H' σ c d st (sl.stp st) x
  | ok vs S1 =>
    rw [hf] at p
    simp only [Res.bind_ok] at p
    intro ρ' H' xs st rs
    have p := PostS.from p st
    unfold guardR at p
    split at p
    · simp only [Res.toS_ok, bindPat] at p
      split at p
      · rename_i ps' hb
        split at hb
        · rename_i hl
          cases hb
          match vs, hl with
          | [v, w, u], _ =>
            obtain ⟨y1, t1, e1, r1, rs⟩ := rs.cons_inv
            obtain ⟨y2, y3, e2, r2, r3⟩ := RVs.two rs
            subst e1; subst e2
            exact ⟨y1, y2, y3, rfl, p.nx st.rel ((((sl.stp st).set r1 i).set r2 j).set r3 l)⟩
        · cases hb
      · exact p.elim
    · exact p.elim
/-- a, b = x, y -/
theorem s_par (g : Good N X W kk) {i j : Nat} {x y : Str} {a b : Expr} {h : Ev → Store → Res (List PV)} {px py pt pos : Pos} {kt k2 : Nat} {pt2 : Pos} (hi : X.N[i]? = some x) (hj : X.N[j]? = some y) (hij : i ≠ j)
    (hx : X.env.scope.names.lookup x = some .local) (hy : X.env.scope.names.lookup y = some .local) (ha : PA X [a, b] (tA N n W h))
    (hw : swappedStores [.Tuple [.Name x px, .Name y py] kt pt] (.Tuple [a, b] k2 pt2) X.env = pure (some [x, y])) :
    PS X (.Assign [.Tuple [.Name x px, .Name y py] kt pt] (.Tuple [a, b] k2 pt2) pos) (tS N n W fun ps S => ((h ps S).bind fun vs S1 => guardR (decide (vs.length ≤ sizeLine)) (.ok (PV.tup vs) S1)).toS ps fun v S1 => (match bindPat (.tp [i, j]) v ps S1 with
      | some ps' => .ok .next ps' S1
      | none => .stuck)) := by
  refine (ps_par g.calm g.nd hi hj hij hx hy ha hw).imp fun D σ H hq => ?_
  obtain ⟨ρ, S, ps, R, sl, p⟩ := hq
  refine ⟨ρ, S, ps, R, sl, ?_⟩
  dsimp only at p
  cases hf : h ps S with
  | stuck => rw [hf] at p; exact p.elim
  | exn e S1 => rw [hf] at p; exact fun ρ' H' c d st x => p ρ' H' σ c d st (sl.stp st) x
  | ok vs S1 =>
    rw [hf] at p
    simp only [Res.bind_ok] at p
    intro ρ' H' xs st rs
    have p := PostS.from p st
    unfold guardR at p
    split at p
    · simp only [Res.toS_ok, bindPat] at p
      split at p
      · rename_i ps' hb
        split at hb
        · rename_i hl
          cases hb
          match vs, hl with
          | [v, w], _ =>
            obtain ⟨y1, y2, ey, r1, r2⟩ := RVs.two rs
            subst ey
            exact ⟨y1, y2, rfl, p.nx st.rel (((sl.stp st).set r1 i).set r2 j)⟩
        · cases hb
      · exact p.elim
    · exact p.elim
/-- try, nothing raised -/
theorem s_try {body : List Stmt} {h₀ : ExceptHandler} {hs : List ExceptHandler} {f : Ev → Store → SR} {pos : Pos} (hb : PSs X.nox body (tS N n W0 f)) : PS X (.Try body (h₀ :: hs) [] [] pos) (tS N n W fun ps S => (match f ps S with
    | .exn _ _ _ => .stuck
    | r => r)) := by
  refine (ps_try_thru0 hb).imp fun D σ H h => ?_
  obtain ⟨ρ, S, ps, R, sl, p⟩ := h
  refine ⟨ρ, S, ps, R, sl, ?_⟩
  dsimp only at p
  cases hf : f ps S with
  | ok fl ps' S' => rw [hf] at p; cases fl <;> exact p
  | exn e ps' S' => rw [hf] at p; exact p.elim
  | stuck => rw [hf] at p; exact p
end
end PyI
set_option Elab.async false
set_option linter.all false
set_option maxRecDepth 100000
set_option maxHeartbeats 2000000
/-! PyT: dict comprehensions -/
namespace PyI
open PySem PySem.Spec PyProof.Rows L2
/-- a comprehension's dict over a walk -/
theorem dc_it {J : It} {n : Nat} {Gd : Hp → Prop} {Y : Nat → Hp → V → Hp → Prop} (w : Walk J n Gd Y) {g : TG} {tt : TT} {tk tv : TE} {vs : List Nat} {σ : L2.St} {H1 : Hp} {D : Addr} {Qd : Hp → Prop} (Pv : Nat → Hp → Prop) (h0 : Pv 0 (upd H1 D (.dK []))) (hG : ∀ i H, i ≤ n → Pv i H → Gd H)
    (hs : ∀ i x H H', i < n → Pv i H → Y i H x H' → g x (wipe σ vs) H' fun σ2 H2 => wipe σ2 vs = wipe σ vs ∧ tt σ2 H2 fun b H3 =>
      if b = true then tk σ2 H3 fun y H4 => tv σ2 H4 fun z H5 => ∃ kvs k, y = kV k ∧ H5 D = some (.dK kvs) ∧ kvs.length < sizeLine ∧ Pv (i + 1) (upd H5 D (.dK (putK kvs k z))) else Pv (i + 1) H3) (hd : ∀ H, Pv n H → Qd H) :
    ∃ W : Nat → Nat → Hp → Prop, (∃ m, W 0 m (upd H1 D (.dK []))) ∧ ∀ i m H, W i m H →
      (J.stop i H ∧ Qd H) ∨ (J.go i H ∧ ∃ Nx : Hp → Prop, (∀ H', Nx H' → ∃ m', m' < m ∧ W (i + 1) m' H') ∧ ∀ x H', J.yld i H x H' → g x (wipe σ vs) H' fun σ2 H2 => wipe σ2 vs = wipe σ vs ∧ tt σ2 H2 fun b H3 =>
        if b = true then tk σ2 H3 fun y H4 => tv σ2 H4 fun z H5 => ∃ kvs k, y = kV k ∧ H5 D = some (.dK kvs) ∧ kvs.length < sizeLine ∧ Nx (upd H5 D (.dK (putK kvs k z))) else Nx H3) := by
  refine ⟨fun i m H => m = n - i ∧ i ≤ n ∧ Pv i H, ⟨n, by simp, Nat.zero_le _, h0⟩, ?_⟩
  rintro i m H ⟨rfl, hi, p⟩
  have q := hG i H hi p
  by_cases hlt : i < n
  · refine .inr ⟨w.goes i H hlt q, Pv (i + 1), fun H' p' => ⟨n - (i + 1), by omega, rfl, hlt, p'⟩, fun x H' y => hs i x H H' hlt p (w.yields i H x H' hlt q y)⟩
  · have e : i = n := by omega
    subst e
    exact .inl ⟨w.stops H q, hd H p⟩
section
variable {N : Nm} {X : Cx} {W : WX} {kk k n : Nat} {G : Tab} {ρ ρ' ρ1 : List Addr} {S S' S1 : Store} {H H' H1 : Hp} {ξ : List Addr} {D : Addr}
/-- a dict is done -/
theorem Stp.doneD (st : Stp N n ρ1 S1 H1 ρ S H) (hD : H1 D = none) (R : Rel (N.un (D :: N.ex)) ρ H S) (off : Off N ρ D) {ks : List DKey} {vs : List PV} {ys : List V} {o : HO} (dc : DC ks ys o) (hd : H D = some o) (rs : RVs (N.un (D :: N.ex)) ρ H vs ys) : Stp N n ρ1 S1 H1 (ρ ++ [D]) (S ++ [.dct ks vs]) H := by
  have cv : ∀ a, Off (N.un (D :: N.ex)) ρ a → H a ≠ none → Off N (ρ ++ [D]) a := fun a ha _ => ⟨fun q => by
    rcases List.mem_append.mp q with q | q
    · exact ha.1 q
    · simp at q; subst q; exact ha.2 List.mem_cons_self, fun q => ha.2 (List.mem_cons_of_mem _ q)⟩
  refine ⟨st.pre.trans (List.prefix_append _ _), fun a ha => ?_, st.ext, ⟨by simp [R.len], ?_, fun l o a h h' => ?_, fun a ha => ⟨fun q => ?_, (R.ex a (List.mem_cons_of_mem _ ha)).2⟩⟩, by rw [List.length_append]; have := st.le; omega, fun l o o' m hl h h' hm => ?_, fun l ks vs h => ?_⟩
  · rcases List.mem_append.mp ha with q | q
    · exact st.new a q
    · simp at q; subst q; exact .inr hD
  · rw [List.nodup_append]
    refine ⟨R.nd, by simp, fun a ha b hb e => ?_⟩
    simp at hb
    subst hb; subst e
    exact off.1 ha
  · by_cases hl : l < S.length
    · rw [List.getElem?_append_left hl] at h
      rw [List.getElem?_append_left (by rw [R.len]; exact hl)] at h'
      exact OR.conv (N := N.un (D :: N.ex)) (N' := N) rfl rfl rfl rfl (List.prefix_append _ _) cv (R.obj l o a h h')
    · rw [List.getElem?_append_right (by omega)] at h
      rw [List.getElem?_append_right (by rw [R.len]; omega), R.len] at h'
      have hz' : l - S.length = 0 := by
        have := (List.getElem?_eq_some_iff.mp h).1
        simp at this
        omega
      rw [hz'] at h h'
      simp at h h'
      subst h; subst h'
      exact ⟨ys, _, dc, hd, RVs.conv (N := N.un (D :: N.ex)) (N' := N) rfl rfl rfl rfl (List.prefix_append _ _) cv rs⟩
  · rcases List.mem_append.mp q with q | q
    · exact (R.ex a (List.mem_cons_of_mem _ ha)).1 q
    · simp at q; subst q; exact off.2 ha
  · have hlt := Nat.lt_of_lt_of_le (List.getElem?_eq_some_iff.mp h).1 st.le
    rw [List.getElem?_append_left hlt] at h'
    exact st.old l o o' m hl h h' hm
  · have hlt := Nat.lt_of_lt_of_le (List.getElem?_eq_some_iff.mp h).1 st.le
    rw [List.getElem?_append_left hlt]
    exact st.lk l _ _ h
noncomputable def dcompF (p : Pat) (own : List Nat) (ft : Ev → Store → Res Bool) (fk fv : Ev → Store → Res PV) (w : Walked) (ps : Ev) (S1 : Store) : Res (List DKey × List PV) :=
  dcompLoop (stay w.ls) (fun x S => match bindPat p x (wipeP ps own) S with
          | some ps' => ft ps' S
          | none => .stuck) (fun x S => match bindPat p x (wipeP ps own) S with
          | some ps' => (fk ps' S).bind fun a S' => (fv ps' S').bind fun b S'' => (match a.key with
            | some q => .ok (q, b) S''
            | none => .stuck)
          | none => .stuck) w.xs [] [] S1
theorem dc_read {fr : Bool} {p : Pat} {own : List Nat} {fi : Ev → Store → Res Walked} {ft : Ev → Store → Res Bool} {fk fv : Ev → Store → Res PV} (hK : X.K = N.K) (hp : ∀ i ∈ p.ix, i ∈ own) {σ : L2.St} {Q : VK}
    (hq : tE N n W (fun ps S => (fi ps S).bind fun w S1 => (dcompF p own ft fk fv w ps S1).noX.bind fun kv S2 => mkD fr kv.1 kv.2 S2) σ H Q) :
    tDc (tI N n W fi) (gPat X.K p) (tTx N n ft) (tEx N n fk) (tEx N n fv) own σ H Q := by
  obtain ⟨ρ, S, ps, R, sl, pp⟩ := hq
  refine ⟨ρ, S, ps, R, sl, (Post.bind (R := RW N) pp).mono fun J H1 ⟨ρ1, w, S1, st0, wok, p1⟩ D hD => ?_⟩
  obtain ⟨Gd, Y, wk, hG, hY⟩ := wok
  have R1 := st0.rel
  have sl1 := sl.stp st0
  have m : More N H1 (D :: N.ex) := ⟨fun _ h => List.mem_cons_of_mem _ h, fun a h => by
    rcases List.mem_cons.mp h with e | h
    · subst e; exact .inr hD
    · exact .inl h⟩
  unfold dcompF at p1
  generalize hT : (fun (x : PV) (S : Store) => match bindPat p x (wipeP ps own) S with
          | some ps' => ft ps' S
          | none => (Res.stuck : Res Bool)) = T at p1
  generalize hE : (fun (x : PV) (S : Store) => match bindPat p x (wipeP ps own) S with
          | some ps' => (fk ps' S).bind fun a S' => (fv ps' S').bind fun b S'' => (match a.key with
            | some q => Res.ok (q, b) S''
            | none => .stuck)
          | none => (Res.stuck : Res (DKey × PV))) = E at p1
  refine dc_it wk (fun i H => ∃ ρ' S' ks vs kvs, Stp N n ρ1 S1 H1 ρ' S' H ∧ Rel (N.un (D :: N.ex)) ρ' H S' ∧ H D = some (.dK kvs) ∧ ks = kvs.map (fun p => dk1 p.1) ∧ RVs (N.un (D :: N.ex)) ρ' H vs (kvs.map (·.2)) ∧ ks.Nodup ∧ (∀ z ∈ ks, z.okL) ∧ ks.length ≤ sizeLine ∧
      Post N n (RVl N) (fun c d H => W c d σ H) Q ρ1 S1 H1 ((dcompLoop (stay w.ls) T E (w.xs.drop i) ks vs S').noX.bind fun kv S2 => mkD fr kv.1 kv.2 S2)) ?_ ?_ ?_ ?_
  · refine ⟨ρ1, S1, [], [], [], Stp.laid R1 hD, R1.begin hD (fun _ e => by cases e), upd_same, rfl, by simp [RVs], List.nodup_nil, (fun _ h => by cases h), Nat.zero_le _, by rw [List.drop_zero]; exact p1⟩
  · rintro i H' _ ⟨ρ', S', ks, vs, kvs, st, R', hd, e1, rs, nd, okl, hz, q⟩
    refine hG (D :: N.ex) ρ' S' H' m st.stay R' ?_
    cases hx : w.xs.drop i with
    | nil =>
      rw [hx] at q
      unfold dcompLoop at q
      split at q
      · assumption
      · exact q.elim
    | cons x l =>
      rw [hx] at q
      unfold dcompLoop at q
      split at q
      · assumption
      · exact q.elim
  · rintro i x H' H'' hi ⟨ρ', S', ks, vs, kvs, st, R', hd, e1, rs, nd, okl, hz, q⟩ y
    have hdr : ∃ v, w.xs[i]? = some v ∧ w.xs.drop i = v :: w.xs.drop (i + 1) := ⟨w.xs[i], by simp [hi], by rw [List.drop_eq_getElem_cons hi]⟩
    obtain ⟨v, ev, hdr⟩ := hdr
    rw [hdr] at q
    unfold dcompLoop at q
    by_cases hok : stay w.ls S' = true
    · rw [if_pos hok] at q
      obtain ⟨v', ev', nw, rv⟩ := hY (D :: N.ex) i x H' H'' ρ' S' m hi st.stay R' hok y
      rw [ev] at ev'; cases ev'
      have st2 : Stp (N.un (D :: N.ex)) n ρ' S' H' ρ' S' H'' := nw.stp R'
      have slX : SlR (N.un (D :: N.ex)) ρ' H'' (wipeP ps own) (L2.wipe σ own) :=
        SlR.wipe (SlR.stp ((SlR.more m sl1).stay (st.stay.more m)) st2) own
      cases hb : bindPat p v (wipeP ps own) S' with
      | none =>
        have hTv : T v S' = .stuck := by rw [← hT]; dsimp only; rw [hb]
        rw [hTv] at q
        exact q.elim
      | some ps' =>
        have hTv : T v S' = ft ps' S' := by rw [← hT]; dsimp only; rw [hb]
        rw [hTv] at q
        refine gPat_ok (N := N.un (D :: N.ex)) hK rv slX hb fun xs sl'' => ⟨by rw [wipe_pat hp, wipe_idem], D :: N.ex, ρ', S', ps', st2.rel, sl'', ?_⟩
        cases hf : ft ps' S' with
        | stuck => rw [hf] at q; exact q.elim
        | exn e Sa => rw [hf] at q; exact q.elim
        | ok c Sa =>
          rw [hf] at q
          intro ρa Ha x3 st3 ex
          have ex' : x3 = c := ex
          subst ex'
          have sta := (st.trans st2.lessN).trans st3.lessN
          have hda : Ha D = some (.dK kvs) := (st2.trans st3).ext D _ hd (R'.ex D List.mem_cons_self).1
          have rsa := (rs.stp st2).stp st3
          cases x3 with
          | false => exact iteF ⟨ρa, Sa, ks, vs, kvs, sta, st3.rel, hda, e1, rsa, nd, okl, hz, q⟩
          | true =>
            refine iteT ⟨D :: N.ex, ρa, Sa, ps', st3.rel, sl''.stp st3, ?_⟩
            have hEv : E v Sa = (fk ps' Sa).bind fun a S' => (fv ps' S').bind fun b S'' => (match a.key with
                | some q => Res.ok (q, b) S''
                | none => .stuck) := by rw [← hE]; dsimp only; rw [bindPat_S (S' := S'), hb]
            simp only [Res.bind_ok, if_true] at q
            rw [hEv] at q
            cases hg : fk ps' Sa with
            | stuck => rw [hg] at q; exact q.elim
            | exn e Sb => rw [hg] at q; exact q.elim
            | ok a2 Sb =>
              rw [hg] at q
              simp only [Res.bind_ok] at q
              intro ρb Hb y2 st4 ra2
              refine ⟨D :: N.ex, ρb, Sb, ps', st4.rel, (sl''.stp st3).stp st4, ?_⟩
              cases hg2 : fv ps' Sb with
              | stuck => rw [hg2] at q; exact q.elim
              | exn e Sc => rw [hg2] at q; exact q.elim
              | ok b2 Sc =>
                rw [hg2] at q
                simp only [Res.bind_ok] at q
                intro ρc Hc z2 st5 rb2
                cases hk : a2.key with
                | none => rw [hk] at q; exact q.elim
                | some kq =>
                  rw [hk] at q
                  simp only [Res.bind_ok] at q
                  split at q
                  · rename_i gd
                    rw [Bool.and_eq_true, decide_eq_true_eq] at gd
                    rw [key_pv hk] at ra2
                    have okk := ra2.okL
                    have hT' : kq.isT = false := by simpa using gd.2
                    have hdc : Hc D = some (.dK kvs) := (st4.trans st5).ext D _ hda (st3.rel.ex D List.mem_cons_self).1
                    rcases ra2.asKey with ⟨wk', e5, e6⟩ | ⟨w', b, e5, _⟩
                    · subst e5; subst e6
                      obtain ⟨y1, y2'⟩ := putK_keys dk1 (fun _ _ => dk1_inj) wk' z2 kvs (nodup_fst dk1 (by rw [← e1]; exact nd))
                      have Rg := st5.rel.grow (u := .dK (putK kvs wk' z2)) (fun _ e => by cases e)
                      have rs5 : RVs (N.un (D :: N.ex)) ρc (upd Hc D (.dK (putK kvs wk' z2))) (putVs ks vs (dk1 wk') b2) ((putK kvs wk' z2).map (·.2)) := by
                        rw [y2', ← e1]
                        exact RVs.putVs (RVs.stay Stay.grow ((rsa.stp st4).stp st5)) (RV.stay Stay.grow rb2)
                      refine ⟨kvs, wk', rfl, hdc, by have := gd.1; rw [e1, List.length_map] at this; exact this, ρc, Sc, putKs ks (dk1 wk'), putVs ks vs (dk1 wk') b2, putK kvs wk' z2, ((sta.trans st4.lessN).trans st5.lessN).grow hD Rg.less, Rg, upd_same, by rw [y1, ← e1], rs5, putKs_nodup nd, fun z hz' => (putKs_mem hz').elim (okl z) fun e => by rw [e]; exact okk, Nat.le_trans putKs_length gd.1, q⟩
                    · subst e5; cases hT'
                  · exact q.elim
    · rw [if_neg hok] at q
      exact q.elim
  · rintro H' ⟨ρ', S', ks, vs, kvs, st, R', hd, e1, rs, nd, okl, hz, q⟩
    rw [List.drop_length] at q
    unfold dcompLoop at q
    split at q
    · simp only [Res.noX_ok, Res.bind_ok] at q
      have off : Off N ρ' D := ⟨(R'.ex D List.mem_cons_self).1, fun z => by
        obtain ⟨_, zs, e, _⟩ := R1.ex D z
        rw [hD] at e; exact (nomatch e)⟩
      have dc : DC ks (kvs.map (·.2)) (.dK kvs) := .k _ e1 rfl okl nd hz
      cases fr with
      | true =>
        refine q ρ' H' _ st ?_
        simp only [RV]
        exact ⟨D, _, _, rfl, off, dc, .inl hd, rs.less, fun _ => hd⟩
      | false =>
        refine q (ρ' ++ [D]) H' _ (st.doneD hD R' off dc hd rs) ?_
        simp only [RV]
        exact ⟨D, by rw [← R'.len]; simp, rfl⟩
    · exact q.elim
theorem e_dc (g : Good N X W kk) {fr : Bool} {p : Pat} {kx vx tg iter : Expr} {ifs : List Expr} {scope : Scope} {own : List (Str × Nat)} {pos : Pos} {fi : Ev → Store → Res Walked} {ft : Ev → Store → Res Bool} {fk fv : Ev → Store → Res PV}
    (hp : ∀ i ∈ p.ix, i ∈ own.map (·.2)) (hi : PI X tg iter (tI N n W fi)) (ok : BlkOk X.N X.env.scope scope own)
    (hg : ∀ (s : Shared) (H : Hp) (C : Addr) (cl : List (Str × Addr)) (fp : List Addr), PG (X.blk s H scope (compEnvC scope cl C X.env) fp) tg (gPat X.K p))
    (ht : ∀ (s : Shared) (H : Hp) (C : Addr) (cl : List (Str × Addr)) (fp : List Addr), PTs (X.blk s H scope (compEnvC scope cl C X.env) fp) ifs (tTx N n ft))
    (hk : ∀ (s : Shared) (H : Hp) (C : Addr) (cl : List (Str × Addr)) (fp : List Addr), PE (X.blk s H scope (compEnvC scope cl C X.env) fp) kx (tEx N n fk))
    (he : ∀ (s : Shared) (H : Hp) (C : Addr) (cl : List (Str × Addr)) (fp : List Addr), PE (X.blk s H scope (compEnvC scope cl C X.env) fp) vx (tEx N n fv)) (hs : ∀ x, foldedSetIterable iter X.env x = pure x) :
    PE X (.DictComp kx vx [⟨tg, iter, ifs, 0⟩] scope pos) (tE N n W fun ps S => (fi ps S).bind fun w S1 => (dcompF p (own.map (·.2)) ft fk fv w ps S1).noX.bind fun kv S2 => mkD fr kv.1 kv.2 S2) :=
  (pe_dc g.calm g.nd hi ok hg ht hk he hs).imp fun σ H Q h => dc_read g.hK hp h
end
end PyI
set_option Elab.async false
set_option linter.all false
set_option maxRecDepth 100000
set_option maxHeartbeats 2000000
/-! PyU: enumerate over a tuple -/
namespace PySem
open Sem (wp)
theorem pyi_enum_new {v : Value} {o : Obj} {H : Heap → Prop} (B : Begins v o H) :
    Meets (Builtin.«enumerate.__new__» ⟨[.type "enumerate", v], []⟩) (fun _ R s => H s.heap ∧
      R (.ok (.ret (.ref (s.heap.push o).objs.size))) { s with heap := (s.heap.push o).push { cls := .type "enumerate", data := .fields #[.none, .bool false, .ref s.heap.objs.size, rawInt 0, .none, .none] } }) :=
  .of_wp fun prog w A R s h => by
    obtain ⟨hp, g, d, tk, os⟩ := s; obtain ⟨h1, h⟩ := h
    have hsub := sub_enumerate
    have q1 : ∀ {A' : Around} {E : Value → Shared → Prop} {Q : Value → Shared → Prop}, Q (.ref hp.objs.size) ⟨hp.push o, g, d, tk, os⟩ → wpAny (model prog w) A' (pyIter v) Q E ⟨hp, g, d, tk, os⟩ :=
      fun q => B.iter prog w _ _ ⟨hp, g, d, tk, os⟩ _ h1 q
    wp_walk using q1
    refine wpAny_stack_any fun st => wpAny_pure ?_
    split
    · rename_i c _ _ _ _ _
      cases (c == Value.type "enumerate")
      · wp_walk using q1
        exact ⟨_, rfl, h⟩
      · wp_walk using q1
        exact ⟨_, rfl, h⟩
    · wp_walk using q1
      exact ⟨_, rfl, h⟩
section
variable {prog : Program} {w : World} {A : Around} {E : Value → Shared → Prop} {s : Shared}
theorem pyi_enum_begins {v : Value} {o : Obj} {H : Heap → Prop} {Q : Value → Shared → Prop} (B : Begins v o H) (h1 : H s.heap)
    (h : ∀ h', IsEnum h' (s.heap.objs.size + 1) s.heap.objs.size 0 .none → h'.get? s.heap.objs.size = some o → h'.objs.size = s.heap.objs.size + 2 →
      (∀ b o, s.heap.get? b = some o → h'.get? b = some o) → Q (.ref (s.heap.objs.size + 1)) { s with heap := h' }) :
    wpAny (model prog w) A (call (.type "enumerate") [v]) Q E s := by
  refine callType_new F.called_enumerate (by decide) (F.typeCall_enumerate_1 _) (F.newCall_enumerate_1 _) (fun obj => F.args_object_init_2 obj _) F.entry_enumerate_new
    (pyi_enum_new B) ⟨h1, ?_⟩
  have hz : (s.heap.push o).objs.size = s.heap.objs.size + 1 := Heap.size_push ..
  show _ ∧ _
  rw [hz]
  have he : IsEnum ((s.heap.push o).push { cls := .type "enumerate", data := .fields #[.none, .bool false, .ref s.heap.objs.size, rawInt 0, .none, .none] }) (s.heap.objs.size + 1) s.heap.objs.size 0 .none := by
    have := Heap.get?_push_size (s.heap.push o) (o := { cls := .type "enumerate", data := .fields #[.none, .bool false, .ref s.heap.objs.size, rawInt 0, .none, .none] }) rfl
    rw [hz] at this; exact this
  refine ⟨⟨_, he, rfl⟩, h _ he (Heap.get?_push_of_some _ (Heap.get?_push_size _ B.free)) (by rw [Heap.size_push, hz]) fun b o x => Heap.get?_push_of_some _ (Heap.get?_push_of_some _ x)⟩
end
end PySem
namespace PyI
open PySem PySem.Spec PyProof.Rows L2
/-- the tuple at a as it stands at each turn, each item in a new pair -/
def IteT (K : PySem.W.Frag) (a : Addr) : It :=
  ⟨fun i H => ∃ (xs : List V) (x : V), SqT K H a xs ∧ xs[i]? = some x, fun i H v H' => ∃ T x, v = .ref T ∧ H T = none ∧ H' = upd H T (.tup [.int (i : Nat), x]) ∧ ∀ xs, SqT K H a xs → xs[i]? = some x, fun i H => ∃ xs : List V, SqT K H a xs ∧ xs.length ≤ i⟩
theorem turn_enumT {P : Program} {w : World} {K : PySem.W.Frag} {elts : List Expr} {kk : Nat} {tpos : Pos} (a e it : Addr) (hae : a ≠ e) (hai : a ≠ it) :
    Turn P w K (.Tuple elts kk tpos) (IteT K a) [e, it] e (fun i h => (∃ old, IsEnum h e it ((i : Nat) : Int) old) ∧ h.IsTupleIter it a i ∧ e ≠ it) where
  mem := by simp
  obj := fun i h st b hb => by
    obtain ⟨⟨old, he⟩, ⟨o, ho, hc, hd⟩, _⟩ := st
    have e' : b = e ∨ b = it := by simpa using hb
    rcases e' with z | z
    · rw [z]; exact ⟨_, he, fun v q => nomatch q⟩
    · rw [z]; exact ⟨o, ho, fun v q => by rw [hd] at q; cases q⟩
  keep := fun i h h' st k => let ⟨⟨old, he⟩, hi, hne⟩ := st; ⟨⟨old, k e (by simp) _ he⟩, hi.at fun o q => k it (by simp) o q, hne⟩
  item := by
    intro X hP hw hK hc i pins s σ H E I hf st hg
    subst hP hw hK
    obtain ⟨⟨old, he⟩, hit, hne⟩ := st
    obtain ⟨xs, x, hq, hx⟩ := hg
    obtain ⟨its, rv, p, hz⟩ := I.tuple hq
    obtain ⟨u, hu, ru⟩ := rv.get hx
    have hel : e < s.heap.objs.size := Heap.lt_size he
    have hil : it < s.heap.objs.size := by obtain ⟨_, q, _⟩ := hit; exact Heap.lt_size q
    have ht : s.heap.IsTuple a its.toArray := p
    refine wpAny_pyNext_enum_itemD (Draws.tuple (prog := X.prog) (w := X.w) (A := X.A.in1) (show X.A.in1.handled = none from I.ok.hd hc) it a hai its.toArray) he ⟨hit, ht⟩ (by have := (List.getElem?_eq_some_iff.mp hu).1; simpa using this) hne (fun z => (show e = it ∨ e = a by simpa using z).elim hne fun z => hae z.symm) fun u2 h' tk hu2 ho hst' hT hsz hk => ?_
    have eu : u2 = u := by
      have : its[i]? = some u2 := by simpa using hu2
      rw [hu] at this
      exact (Option.some.inj this).symm
    subst eu
    obtain ⟨hit', _⟩ := hst'
    refine ⟨_, rfl, wpAny_letOwnedTupleGo_enum (s := { s with heap := h', toks := tk + 1 }) ho fun h'' he' sb => ?_⟩
    have hT2 : h''.get? s.heap.objs.size = some { cls := .type "tuple", data := .seq #[.int i tk, u2] } := (sb.2 _ (Nat.ne_of_gt hel)).trans hT
    have new : ObjOk X.prog X.w (upd H s.heap.objs.size (.tup [.int (i : Nat), x])) h'' s.heap.objs.size (.tup [.int (i : Nat), x]) :=
      ⟨by show 2 ≤ sizeLine; decide, [.int i tk, u2], .cons ⟨_, rfl⟩ (.cons ru .nil), ⟨_, hT2, rfl, _, rfl⟩⟩
    have I1 : L2.Inv X pins σ (upd H s.heap.objs.size (.tup [.int (i : Nat), x])) { s with heap := h'', toks := tk + 1 } :=
      I.turnedNew (ch := [e, it]) (fun b ob hb q => (sb.2 b (fun z => hb (by simp [z]))).trans (hk b ob (fun z => hb (by simp [z])) (fun z => hb (by simp [z])) q)) hf (Nat.le_refl _) new
    refine ⟨.ref s.heap.objs.size, _, I1, rfl, ⟨_, x, rfl, I.hok.fresh (Nat.le_refl _), rfl, fun ys hy => by rw [I.tuple_inj hy hq]; exact hx⟩, ⟨⟨u2, ?_⟩, hit'.at fun o q => (sb.2 it (Ne.symm hne)).trans q, hne⟩, fun b hb => ?_⟩
    · have e1 : ((i + 1 : Nat) : Int) = (i : Int) + 1 := by omega
      rw [e1]; exact he'
    · have hb' : b < s.heap.objs.size := by
        have e' : b = e ∨ b = it := by simpa using hb
        rcases e' with z | z
        · rw [z]; exact hel
        · rw [z]; exact hil
      rw [upd_ne (Nat.ne_of_lt hb')]
      exact (hf b hb).1
  done := by
    intro X hP hw hK hc i pins s σ H E I hf st hg
    subst hP hw hK
    obtain ⟨⟨old, he⟩, hit, hne⟩ := st
    obtain ⟨xs, hq, hx⟩ := hg
    obtain ⟨its, rv, p, hz⟩ := I.tuple hq
    obtain ⟨f0, f1, f2, f3, f4, f5⟩ := hf it (by simp)
    have hl := rv.length
    have ht : s.heap.IsTuple a its.toArray := p
    have hT : s.TypeIs (.ref e) "enumerate" := ⟨_, he, rfl⟩
    unfold pyNext
    refine wpAny_bind (wpAny_attempt (wpAny_callSpecial?_slot (name := Str.ofString "__next__") hT F.slot_enumerate_next
      (wpAny_call_entry F.slot_enumerate_next hT F.entry_enumerate_next ?_ (F.args_enumerate_next_1 _))))
    show wpAny _ _ (field (.ref e) 2 >>= _) _ _ _
    refine wpAny_bind (wpAny_field he rfl (x := .ref it) rfl ?_)
    refine wpAny_bind (wpAny_nextOf_tuple_end (I.ok.hd hc) hit ht (by simp; omega) fun h' x he' hx' => ?_)
    obtain ⟨o, ho, hc'⟩ := hx'
    refine wpAny_bind (wpAny_isInstance (T := "StopIteration") (b := true) ⟨o, ho, hc'⟩ isSubtype_stop ?_)
    exact wpAny_pure ⟨rfl, I.turned (t' := s.toks) (fun b o hb q => he' b o hb q) f0 f1 f3 f4 f5⟩
  self := fun A i s Q E st h => let ⟨⟨_, he⟩, _⟩ := st; wpAny_pyIter_enum he h
section
variable {N : Nm} {X : Cx} {W : WX} {kk k n : Nat}
def iEnumA (K : PySem.W.Frag) (ta : TA) : TI := fun σ H R => ta σ H fun vs H1 => ∃ a xs, vs = [.ref a] ∧ ((SqL K H1 a xs ∧ R (Ite K a) H1) ∨ (SqT K H1 a xs ∧ R (IteT K a) H1))
theorem pi_enumA {e : Expr} {ta : TA} {p pos tpos : Pos} {elts : List Expr} {j : Nat} (hg : Gl X "enumerate") (hm : X.mg "enumerate" = none) (ha : PA X [e] ta) (hs : starEach [e] X.env = [(false, PySem.eval e X.env)]) :
    PI X (.Tuple elts j tpos) (.Call (.Name "enumerate" p) [e] [] pos) (iEnumA X.K ta) := by
  refine ⟨fun pins s σ H R I h => ?_⟩
  refine Call_ (ld_blt I hg hm boot_enumerate (PyProof.Rows.callWith_type1 (thn (ha.run pos pins s σ H _ I h) fun us s1 ⟨vs, H1, I1, r1, q1⟩ => ?_) hs rfl))
  obtain ⟨a, xs, ex, q1⟩ := q1
  subst ex
  cases r1 with
  | cons r rr =>
    cases rr
    cases r
    have fr : ∀ b, b ∈ [s1.heap.objs.size + 1, s1.heap.objs.size] → FpOk X pins H1 b := fun b hb => by
      have e' : b = s1.heap.objs.size + 1 ∨ b = s1.heap.objs.size := by simpa using hb
      have hle : s1.heap.objs.size ≤ b := by
        rcases e' with z | z
        · rw [z]; exact Nat.le_add_right _ _
        · rw [z]; exact Nat.le_refl _
      exact I1.fpOk hle (I1.hok.fresh hle)
    rcases q1 with ⟨hq, q⟩ | ⟨hq, q⟩
    · obtain ⟨its, rv, p', hz⟩ := I1.list hq
      refine call_enumerate_list p'.isList fun h' he hit hsz hk => wpAny_pyIter_enum he ?_
      have I2 : L2.Inv X pins σ H1 { s1 with heap := h' } := I1.kept (t' := s1.toks) hk
      exact ⟨s1.heap.objs.size + 1, [s1.heap.objs.size + 1, s1.heap.objs.size], _, _, H1, rfl, I2, turn_enum a (s1.heap.objs.size + 1) s1.heap.objs.size, ⟨⟨.none, he⟩, hit, Nat.succ_ne_self _⟩, fr, q⟩
    · obtain ⟨its, rv, p', hz⟩ := I1.tuple hq
      have ht : s1.heap.IsTuple a its.toArray := p'
      have hal : a < s1.heap.objs.size := by obtain ⟨o, ho, _⟩ := ht; exact Heap.lt_size ho
      refine pyi_enum_begins (begins_tuple a its.toArray) ht fun h' he hit hsz hk => wpAny_pyIter_enum he ?_
      have I2 : L2.Inv X pins σ H1 { s1 with heap := h' } := I1.kept (t' := s1.toks) hk
      exact ⟨s1.heap.objs.size + 1, [s1.heap.objs.size + 1, s1.heap.objs.size], _, _, H1, rfl, I2, turn_enumT a (s1.heap.objs.size + 1) s1.heap.objs.size (Nat.ne_of_lt (Nat.lt_succ_of_lt hal)) (Nat.ne_of_lt hal), ⟨⟨.none, he⟩, ⟨_, hit, rfl, rfl⟩, Nat.succ_ne_self _⟩, fr, q⟩
theorem walkEnumT {K : PySem.W.Frag} {ρ : List Addr} {H : Hp} {xs : List PV} {ls : List (Nat × List PV)} {a : Addr} (s : SeqAt N ρ H xs ls a false) : WalkOk N ρ H { xs := enumFrom 0 xs, ls := ls } (IteT K a) := by
  refine ⟨fun H' => ∃ ys, SqT K H' a ys ∧ ys.length = xs.length, (IteT K a).yld, ⟨fun i H' hi ⟨ys, h, hl⟩ => ⟨ys, ys[i]'(by dsimp only at hi; rw [enumFrom_length] at hi; omega), h, by simp⟩, fun H' ⟨ys, h, hl⟩ => ⟨ys, h, by dsimp only; rw [enumFrom_length]; omega⟩, fun _ _ _ _ _ _ y => y⟩, fun ξ ρ' S' H' m t R hs => ?_, fun ξ i x H' H2 ρ' S' m hi t R hs y => ?_⟩
  · obtain ⟨ys, h1, _, _, h2⟩ := s.now (K := K) m t R hs
    exact ⟨ys, h1.get.2 rfl, h2.length.symm⟩
  · obtain ⟨ys, h1, _, _, h2⟩ := s.now (K := K) m t R hs
    obtain ⟨T, z, e1, e2, e3, y⟩ := y
    subst e1; subst e3
    have hx := y ys (h1.get.2 rfl)
    dsimp only at hi
    rw [enumFrom_length] at hi
    obtain ⟨z', q1, q2⟩ := h2.get (i := i) (v := xs[i]) (by simp [hi])
    rw [hx] at q1; cases q1
    refine ⟨.tup [.int i, xs[i]], by simp [enumFrom_get, hi], .inr ⟨T, _, _, e2, rfl⟩, ?_⟩
    simp only [RV]
    have st := Stp.laid (n := 0) R (u := .tup [.int (i : Nat), z]) e2
    exact ⟨T, _, rfl, R.fresh e2, upd_same, .cons (RV.int_iff.mpr rfl) (.cons (q2.stp st) (by simp [RVs])), by rw [sizeLine_eq]; simp⟩
theorem i_enum {e : Expr} {f : Ev → Store → Res PV} {p pos tpos : Pos} {elts : List Expr} {j : Nat} (hg : Gl X "enumerate") (hm : X.mg "enumerate" = none) (ha : PE X e (tE N n W f)) (hs : starEach [e] X.env = (false, PySem.eval e X.env) :: starEach [] X.env) :
    PI X (.Tuple elts j tpos) (.Call (.Name "enumerate" p) [e] [] pos) (tI N n W fun ps S => (f ps S).bind fun v S1 => PyI.ofO (enumW v S1) S1) := by
  refine (pi_enumA hg hm (pa_cons ha pa_nil hs) hs).imp fun σ H Q hq => ?_
  obtain ⟨ρ, S, ps, R, sl, p⟩ := hq
  refine ⟨ρ, S, ps, R, sl, (Post.bind (R := RVl N) p).mono fun x H1 ⟨ρ1, v, S1, st, rv, p1⟩ => ?_⟩
  obtain ⟨w, ew, p1⟩ := p1.ofO
  unfold enumW at ew
  rw [Option.map_eq_some_iff] at ew
  obtain ⟨⟨xs, ls⟩, e1, e2⟩ := ew
  subst e2
  obtain ⟨a, us, ex, s1, t1, t2⟩ := seqOf_at st.rel rv e1
  subst ex
  cases hc : isLst v with
  | true =>
    rw [hc] at s1 t1
    exact ⟨a, us, rfl, .inl ⟨.inl (.inl (t1 rfl)), p1.ok st.rel (walkEnumL s1)⟩⟩
  | false =>
    rw [hc] at s1 t2
    exact ⟨a, us, rfl, .inr ⟨.inl (.inl (t2 rfl)), p1.ok st.rel (walkEnumT s1)⟩⟩
end
end PyI
set_option Elab.async false
set_option linter.all false
set_option maxRecDepth 100000
set_option maxHeartbeats 2000000
/-! PyV: which text a piece of the small language stands for -/
namespace PyI
open PySem PySem.Spec PyProof.Rows L2
/-- what a name of the module is -/
inductive GV where
  | fn (f : Nat) | cls (c : Nat) | cst (v : PV) | none_
structure CC where
  N : List Str
  sc : Scope
  gl : List (Str × GV)
  fl : List Str
  kl : List (Nat × Nat × List Str × List Nat) := []
  cm : List (Nat × Str × Nat) := []
  /-- none: a def's own block: captured names may be stored; else a comprehension's block -/
  cel : Option Scope := none
def CC.celB (C : CC) (x : Str) : Bool := match C.cel with
  | none => true
  | some s => s.names.lookup x == some .cell
def strB (x y : Str) : Bool := decide (x = y)
def isLoc (C : CC) (x : Str) : Bool := decide (C.sc.names.lookup x = some .local) || (C.celB x && decide (C.sc.names.lookup x = some .cell))
def isVis (C : CC) (x : Str) : Bool := decide (C.sc.names.lookup x = some .local) || decide (C.sc.names.lookup x = some .cell) || decide (C.sc.names.lookup x = some .free)
def isGl (C : CC) (x : Str) : Bool := decide (C.sc.names.lookup x = some .globalImplicit)
def okName (x : Str) : Bool := !(x == ("__debug__" : Str)) && !(x == ("__classdict__" : Str)) && !decide (x = ("__name__" : Str))
def isVar (C : CC) (i : Nat) (x : Str) : Bool := decide (C.N[i]? = some x) && isVis C x && okName x
/-- a name that the module lacks -/
def isNo (C : CC) (x : Str) : Bool := isGl C x && okName x && (match C.gl.lookup x with
  | some .none_ => true
  | _ => false)
def isFn (C : CC) (x : Str) (f : Nat) : Bool := isGl C x && okName x && (match C.gl.lookup x with
  | some (.fn g) => decide (f = g)
  | _ => false)
def isCl (C : CC) (x : Str) (c : Nat) : Bool := isGl C x && okName x && (match C.gl.lookup x with
  | some (.cls g) => decide (c = g)
  | _ => false)
def scEq (a b : PV) : Bool := match a, b with
  | .int i, .int j => decide (i = j)
  | .str x, .str y => decide (x = y)
  | .wtp x, .wtp y => decide (x = y)
  | _, _ => false
theorem scEq_eq {a b : PV} (h : scEq a b = true) : a = b := by
  unfold scEq at h
  split at h <;> first | (rw [of_decide_eq_true h]) | cases h
def isCst (C : CC) (x : Str) (v : PV) : Bool := isGl C x && okName x && (match C.gl.lookup x with
  | some (.cst w) => scEq v w
  | _ => false)
def cstOk (v : PV) (c : Const) : Bool := match v, c with
  | .int i, .int j => decide (i = j)
  | .str x, .str y => decide (x = y) && decide (x.length ≤ 16777216)
  | .bl a, .bool b => decide (a = b)
  | .non, .none => true
  | _, _ => false
def noStar : Expr → Bool
  | .Starred _ _ => false
  | _ => true
def noSlice : Expr → Bool
  | .Slice _ _ _ _ => false
  | _ => true
/-- no bare call of a name: super() -/
def noCall0 : Expr → Bool
  | .Call (.Name _ _) [] [] _ => false
  | _ => true
def noComp : Expr → Bool
  | .ListComp .. => false
  | .SetComp .. => false
  | .DictComp .. => false
  | _ => true
def noTup : Expr → Bool
  | .Tuple .. => false
  | .List .. => false
  | _ => true
def noSet : Expr → Bool
  | .Set .. => false
  | _ => true
def bfName : BF → Str
  | .len => "len"
  | .tuple => "tuple"
  | .list => "list"
  | .all => "all"
  | .any => "any"
  | .sum => "sum"
  | .min => "min"
  | .max => "max"
  | .abs => "abs"
  | .int => "int"
  | .str => "str"
  | .repr => "repr"
  | .bool => "bool"
  | .sorted => "sorted"
  | .divmod => "divmod"
  | .dict => "dict"
def bmName : BM → Str
  | .append => "append"
  | .extend => "extend"
  | .pop => "pop"
  | .index => "index"
  | .count => "count"
  | .join => "join"
  | .split => "split"
  | .partition => "partition"
  | .removeprefix => "removeprefix"
  | .find => "find"
  | .replace => "replace"
  | .upper => "upper"
  | .get => "get"
  | .update => "update"
def bmOk : BM → Bool
  | .append | .extend | .pop | .join | .split | .partition | .removeprefix | .find => true
  | _ => false
def tyName : TyC → Str
  | .int => "int"
  | .bool => "bool"
  | .str => "str"
  | .tuple => "tuple"
  | .list => "list"
  | .dict => "dict"
  | .own _ => "object"
def chkT (C : CC) (t : TyC) (e : Expr) : Bool := match e with
  | .Name x _ => (match t with
    | .own c => isCl C x c
    | t => decide (x = tyName t) && isNo C x)
  | _ => false
def chkNs (C : CC) : List Nat → List Expr → Bool
  | [], [] => true
  | i :: is, .Name x _ :: es => decide (C.N[i]? = some x) && isLoc C x && chkNs C is es
  | _, _ => false
def chkP (C : CC) (p : Pat) (e : Expr) : Bool := match p, e with
  | .nm i, .Name x _ => decide (C.N[i]? = some x) && isLoc C x
  | .tp is, .Tuple es _ _ => chkNs C is es
  | _, _ => false
def isTup : Expr → Bool
  | .Tuple .. => true
  | _ => false
def CC.blk (C : CC) (scope : Scope) : CC := { C with sc := relS scope C.sc, cel := some scope }
def ownPs (C : CC) (own : List Nat) : List (Str × Nat) := own.map fun i => (C.N.getD i Str.empty, i)
def oneLit : Expr → Bool
  | .UnaryOp .USub (.Constant (.int 1) _ _) _ => true
  | _ => false
mutual
def chkE (C : CC) : IE → Expr → Bool
  | .var i, e => (match e with
    | .Name x _ => isVar C i x
    | _ => false)
  | .cst v, e => (match e with
    | .Constant c _ _ => cstOk v c
    | _ => false)
  | .glb v, e => (match e with
    | .Name x _ => isCst C x v
    | _ => false)
  | .callK f es ks ord, e => (match e with
    | .Call (.Name x _) xs (kw :: kws) _ => isFn C x f && chkL C es xs && chkL C ks ((kw :: kws).map (·.value)) && (kw :: kws).all (·.arg.isSome) && decide (((f, es.len, (kw :: kws).filterMap (·.arg), ord) : Nat × Nat × List Str × List Nat) ∈ C.kl) && decide (ks.len = ((kw :: kws).filterMap (·.arg)).length)
    | _ => false)
  | .cmeth c f es, e => (match e with
    | .Call (.Attribute (.Name x xp) m ap) xs [] pos => isCl C x c && decide (((c, m, f) : Nat × Str × Nat) ∈ C.cm) && chkL C es xs && !xs.isEmpty && decide (xs.length < 20) && (ap.endLine == pos.line)
    | _ => false)
  | .tup es, e => (match e with
    | .Tuple xs _ _ => chkL C es xs
    | _ => false)
  | .lst _ es, e => (match e with
    | .List xs _ => chkL C es xs
    | _ => false)
  | .dct0 _, e => (match e with
    | .Dict [] [] _ => true
    | _ => false)
  | .neg a, e => (match e with
    | .UnaryOp .USub x _ => chkE C a x
    | _ => false)
  | .bin op a b, e => (match e with
    | .BinOp x o y _ => decide (op = o) && chkE C a x && chkE C b y
    | _ => false)
  | .cmp op a b, e => (match e with
    | .Compare x [o] [y] _ => decide (op = o) && chkE C a x && chkE C b y && noSet y
    | _ => false)
  | .chain op op' a b c, e => (match e with
    | .Compare x [o, o'] [y, z] _ => decide (op = o) && decide (op' = o') && chkE C a x && chkE C b y && chkE C c z && noSet z
    | _ => false)
  | .andE es, e => (match e with
    | .BoolOp .And xs _ => chkL C es xs && !xs.isEmpty
    | _ => false)
  | .orE es, e => (match e with
    | .BoolOp .Or xs _ => chkL C es xs && !xs.isEmpty
    | _ => false)
  | .notE a, e => (match e with
    | .UnaryOp .Not x _ => chkE C a x
    | _ => false)
  | .ife c a b, e => (match e with
    | .IfExp x y z _ => chkE C c x && chkE C a y && chkE C b z
    | _ => false)
  | .sub a i, e => (match e with
    | .Subscript x y _ => chkE C a x && chkE C i y && noSlice y
    | _ => false)
  | .sl1 a lo, e => (match e with
    | .Subscript x (.Slice (some l) none none _) _ => chkE C a x && chkE C lo l
    | _ => false)
  | .sl2 a hi, e => (match e with
    | .Subscript x (.Slice none (some h) none _) _ => chkE C a x && chkE C hi h
    | _ => false)
  | .sl3 a lo hi, e => (match e with
    | .Subscript x (.Slice (some l) (some h) none _) _ => chkE C a x && chkE C lo l && chkE C hi h
    | _ => false)
  | .rev _ a, e => (match e with
    | .Subscript x (.Slice none none (some s) _) _ => chkE C a x && oneLit s
    | _ => false)
  | .attr a m, e => (match e with
    | .Attribute x f _ => chkE C a x && decide (C.fl[m]? = some f) && noCall0 x
    | _ => false)
  | .call f es, e => (match e with
    | .Call (.Name x _) xs [] _ => isFn C x f && chkL C es xs
    | _ => false)
  | .new c es, e => (match e with
    | .Call (.Name x _) xs [] _ => isCl C x c && chkL C es xs && !xs.isEmpty
    | _ => false)
  | .newV i es, e => (match e with
    | .Call (.Name x _) xs [] _ => isVar C i x && chkL C es xs && !xs.isEmpty
    | _ => false)
  | .meth m o es, e => (match e with
    | .Call (.Attribute x f ap) xs [] pos => chkE C o x && decide (C.fl[m]? = some f) && noCall0 x && chkL C es xs && decide (xs.length < 20) && (ap.endLine == pos.line)
    | _ => false)
  | .bf f _ es, e => (match e with
    | .Call (.Name x _) xs [] _ => decide (x = bfName f) && isNo C x && chkL C es xs && !xs.isEmpty
    | _ => false)
  | .bm m _ o es, e => (match e with
    | .Call (.Attribute x f ap) xs [] cp => chkE C o x && decide (f = bmName m) && bmOk m && noCall0 x && chkL C es xs && decide (xs.length < 20) && (ap.endLine == cp.line)
    | _ => false)
  | .isi a t, e => (match e with
    | .Call (.Name x _) [y, z] [] _ => decide (x = ("isinstance" : Str)) && isNo C x && chkE C a y && chkT C t z && noStar y && noStar z
    | _ => false)
  | .comp _ own elt p it ifs, e => (match e with
    | .ListComp x [⟨tg, iter, cs, 0⟩] scope _ => blkC C.N C.sc scope (ownPs C own) && chkE (C.blk scope) elt x && chkP (C.blk scope) p tg && (p.ix.all fun i => own.contains i) && chkI C it iter tg && chkF (C.blk scope) ifs cs
    | _ => false)
  | .dcomp _ own k v p it ifs, e => (match e with
    | .DictComp x y [⟨tg, iter, cs, 0⟩] scope _ => blkC C.N C.sc scope (ownPs C own) && chkE (C.blk scope) k x && chkE (C.blk scope) v y && chkP (C.blk scope) p tg && (p.ix.all fun i => own.contains i) && chkI C it iter tg && chkF (C.blk scope) ifs cs
    | _ => false)
  | .fstr es, e => (match e with
    | .JoinedStr xs _ => chkJ C es xs && decide (2 ≤ xs.length)
    | _ => false)
  | _, _ => false
def chkL (C : CC) : IEs → List Expr → Bool
  | .nil, xs => xs.isEmpty
  | .cons a r, xs => (match xs with
    | x :: t => chkE C a x && noStar x && chkL C r t
    | [] => false)
/-- at most one test -/
def chkF (C : CC) : IEs → List Expr → Bool
  | .nil, xs => xs.isEmpty
  | .cons a r, xs => (match xs with
    | [x] => chkE C a x && (match r with
      | .nil => true
      | _ => false)
    | _ => false)
def chkJ (C : CC) : IEs → List Expr → Bool
  | .nil, xs => xs.isEmpty
  | .cons a r, xs => (match xs with
    | x :: t => (match x with
      | .FormattedValue y k none _ => decide (k = -1) && chkE C a y
      | .Constant (.str s) _ _ => (match a with
        | .cst (.str z) => decide (s = z)
        | _ => false)
      | _ => false) && chkJ C r t
    | [] => false)
def chkI (C : CC) : II → Expr → Expr → Bool
  | .e a, it, _ => chkE C a it && noSet it
  | .rng es, it, _ => (match it with
    | .Call (.Name x _) xs [] _ => decide (x = ("range" : Str)) && isNo C x && chkL C es xs && (decide (xs.length = 1) || decide (xs.length = 2))
    | _ => false)
  | .enum a, it, tg => (match it with
    | .Call (.Name x _) [y] [] _ => decide (x = ("enumerate" : Str)) && isNo C x && chkE C a y && noStar y && isTup tg
    | _ => false)
  | .zip a b, it, tg => (match it with
    | .Call (.Name x _) [y, z] [] _ => decide (x = ("zip" : Str)) && isNo C x && chkE C a y && chkE C b z && noStar y && noStar z && isTup tg
    | _ => false)
  | _, _, _ => false
end
end PyI
set_option Elab.async false
set_option linter.all false
set_option maxRecDepth 100000
set_option maxHeartbeats 4000000
/-! PyW: the checker is right: expressions -/
namespace PyI
open PySem PySem.Spec PyProof.Rows L2
theorem star_cons {x : Expr} {t : List Expr} {env : Env} (h : noStar x = true) : starEach (x :: t) env = (false, PySem.eval x env) :: starEach t env := by
  cases x <;> first | rfl | cases h
theorem chkL_star {C : CC} : ∀ {es : IEs} {xs : List Expr}, chkL C es xs = true → xs.all noStar = true
  | .nil, xs, h => by
    unfold chkL at h
    cases xs with
    | nil => rfl
    | cons _ _ => cases h
  | .cons a r, xs, h => by
    unfold chkL at h
    cases xs with
    | nil => cases h
    | cons x t =>
      simp only [Bool.and_eq_true] at h
      rw [List.all_cons, h.1.2, chkL_star h.2]; rfl
theorem back_star {pos : Pos} {env : Env} : ∀ {xs : List Expr}, xs.all noStar = true → (backTo pos (starEach xs env)).any (·.1) = false
  | [], _ => rfl
  | x :: t, h => by
    rw [List.all_cons, Bool.and_eq_true] at h
    rw [star_cons h.1]
    show (false || (backTo pos (starEach t env)).any (·.1)) = false
    rw [back_star h.2]; rfl
theorem back_all {pos : Pos} {env : Env} : ∀ {xs : List Expr}, xs.all noStar = true → (backTo pos (starEach xs env)).all (fun x => !x.1) = true
  | [], _ => rfl
  | x :: t, h => by
    rw [List.all_cons, Bool.and_eq_true] at h
    rw [star_cons h.1]
    show (!false && (backTo pos (starEach t env)).all (fun x => !x.1)) = true
    rw [back_all h.2]; rfl
theorem attrBase {x : Expr} {f : Str} {env : Env} (h : noCall0 x = true) : attributeBase x f env (PySem.eval x env) = PySem.eval x env := by
  unfold attributeBase
  split
  · cases h
  · rfl
theorem plainIx {y : Expr} (h : noSlice y = true) : PlainIx y := fun o i => by
  cases y <;> first | rfl | cases h
theorem noMark {op : CmpOp} {y : Expr} (h : noSet y = true) : behindInMarks op y = false := by
  cases y <;> first | rfl | cases h
theorem noFold {it : Expr} {env : Env} (h : noSet it = true) : ∀ x, foldedSetIterable it env x = pure x := fun x => by
  cases it <;> first | rfl | cases h
theorem okName_spec {x : Str} (h : okName x = true) : (x == ("__debug__" : Str)) = false ∧ (x == ("__classdict__" : Str)) = false ∧ x ≠ ("__name__" : Str) := by
  unfold okName at h
  simp only [Bool.and_eq_true, Bool.not_eq_true', decide_eq_false_iff_not] at h
  exact ⟨h.1.1, h.1.2, h.2⟩
structure Fits (C : CC) (N : Nm) (G : Tab) (fa : Nat → Addr) (X : Cx) : Prop where
  hN : X.N = C.N
  sc : X.env.scope = C.sc
  fn : ∀ x f, C.gl.lookup x = some (.fn f) → X.mg x = some (.ref (fa f)) ∧ ∃ d, G.fns[f]? = some d
  cls : ∀ x c, C.gl.lookup x = some (.cls c) → X.mg x = some (.ref (N.ca c)) ∧ ∃ kd, G.cls[c]? = some kd
  no : ∀ x, C.gl.lookup x = some .none_ → X.mg x = none
  fl : ∀ (m : Nat) f, C.fl[m]? = some f → m < N.nf ∧ N.fld m = f
  cst : ∀ x v, C.gl.lookup x = some (.cst v) → ∃ u y, X.mg x = some u ∧ RelV y u ∧ ∀ ξ ρ H, RV (N.un ξ) ρ H v y
  kl : ∀ x ∈ C.kl, x ∈ G.kl
  cm : ∀ x ∈ C.cm, x ∈ G.cm
  cel : ∀ x, C.celB x = true → X.fn x = true
section
variable {N : Nm} {G : Tab} {fa : Nat → Addr} {C : CC} {X : Cx} {W : WX} {n : Nat}
theorem isGl_spec (F : Fits C N G fa X) {x : Str} (h : isGl C x = true) : Gl X x := by
  have := of_decide_eq_true h
  show X.env.scope.names.lookup x = _
  rw [F.sc]; exact this
theorem isVar_spec (F : Fits C N G fa X) {i : Nat} {x : Str} (h : isVar C i x = true) : X.N[i]? = some x ∧ Vis X.env.scope x ∧ (x == ("__debug__" : Str)) = false ∧ (x == ("__classdict__" : Str)) = false := by
  unfold isVar at h
  simp only [Bool.and_eq_true] at h
  obtain ⟨⟨h1, h2⟩, h3⟩ := h
  obtain ⟨z1, z2, _⟩ := okName_spec h3
  refine ⟨by rw [F.hN]; exact of_decide_eq_true h1, ?_, z1, z2⟩
  unfold isVis at h2
  simp only [Bool.or_eq_true, decide_eq_true_eq] at h2
  rw [F.sc]
  rcases h2 with (h2 | h2) | h2
  · exact .inl h2
  · exact .inr (.inl h2)
  · exact .inr (.inr h2)
theorem isLoc_spec (F : Fits C N G fa X) {x : Str} (h : isLoc C x = true) : Loc X.env.scope x ∧ (X.fn x = true ∨ X.env.scope.names.lookup x = some .local) := by
  unfold isLoc at h
  rw [← F.sc, Bool.or_eq_true, Bool.and_eq_true, decide_eq_true_eq, decide_eq_true_eq] at h
  rcases h with h | ⟨h1, h2⟩
  · exact ⟨.inl h, .inr h⟩
  · exact ⟨.inr h2, .inl (F.cel x h1)⟩
theorem isCst_spec (F : Fits C N G fa X) {x : Str} {v : PV} (h : isCst C x v = true) : Gl X x ∧ (∃ u y, X.mg x = some u ∧ RelV y u ∧ ∀ ξ ρ H, RV (N.un ξ) ρ H v y) ∧ (x == ("__debug__" : Str)) = false := by
  unfold isCst at h
  simp only [Bool.and_eq_true] at h
  obtain ⟨⟨h1, h2⟩, h3⟩ := h
  obtain ⟨z1, z2, z3⟩ := okName_spec h2
  split at h3
  · rename_i w e
    have := scEq_eq h3
    subst this
    exact ⟨isGl_spec F h1, F.cst x _ e, z1⟩
  · cases h3
theorem isNo_spec (F : Fits C N G fa X) {x : Str} (h : isNo C x = true) : Gl X x ∧ X.mg x = none ∧ (x == ("__debug__" : Str)) = false ∧ x ≠ ("__name__" : Str) := by
  unfold isNo at h
  simp only [Bool.and_eq_true] at h
  obtain ⟨⟨h1, h2⟩, h3⟩ := h
  obtain ⟨z1, z2, z3⟩ := okName_spec h2
  refine ⟨isGl_spec F h1, ?_, z1, z3⟩
  split at h3
  · rename_i e; exact F.no x e
  · cases h3
theorem isFn_spec (F : Fits C N G fa X) {x : Str} {f : Nat} (h : isFn C x f = true) : Gl X x ∧ X.mg x = some (.ref (fa f)) ∧ (∃ d, G.fns[f]? = some d) ∧ (x == ("__debug__" : Str)) = false := by
  unfold isFn at h
  simp only [Bool.and_eq_true] at h
  obtain ⟨⟨h1, h2⟩, h3⟩ := h
  obtain ⟨z1, z2, z3⟩ := okName_spec h2
  split at h3
  · rename_i g e
    have := of_decide_eq_true h3
    subst this
    obtain ⟨q1, q2⟩ := F.fn x _ e
    exact ⟨isGl_spec F h1, q1, q2, z1⟩
  · cases h3
theorem isCl_spec (F : Fits C N G fa X) {x : Str} {c : Nat} (h : isCl C x c = true) : Gl X x ∧ X.mg x = some (.ref (N.ca c)) ∧ (∃ kd, G.cls[c]? = some kd) ∧ (x == ("__debug__" : Str)) = false := by
  unfold isCl at h
  simp only [Bool.and_eq_true] at h
  obtain ⟨⟨h1, h2⟩, h3⟩ := h
  obtain ⟨z1, z2, z3⟩ := okName_spec h2
  split at h3
  · rename_i g e
    have := of_decide_eq_true h3
    subst this
    obtain ⟨q1, q2⟩ := F.cls x _ e
    exact ⟨isGl_spec F h1, q1, q2, z1⟩
  · cases h3
theorem Fits.blk (F : Fits C N G fa X) {s : Shared} {H : Hp} {scope : Scope} {cl : List (Str × Addr)} {Ca : Addr} {fp : List Addr} : Fits (C.blk scope) N G fa (X.blk s H scope (compEnvC scope cl Ca X.env) fp) :=
  ⟨F.hN, by show relS scope X.env.scope = relS scope C.sc; rw [F.sc], F.fn, F.cls, F.no, F.fl, F.cst, F.kl, F.cm, fun x h => h⟩
theorem takes00 {X : Cx} : Takes X W0 := fun _ _ x => by
  obtain ⟨_, _, _, _, _, _, _, _, _, _, _, _, _, _, _, _, z⟩ := x
  exact z.elim
theorem Good.blk {kk : Nat} {ξ : List Addr} (g : Good (N.un ξ) X W kk) {s : Shared} {H : Hp} {scope : Scope} {cl : List (Str × Addr)} {Ca : Addr} {fp : List Addr} (ξ' : List Addr) : Good (N.un ξ') (X.blk s H scope (compEnvC scope cl Ca X.env) fp) W0 kk :=
  ⟨g.hK, g.calm, g.nd, g.room, g.guards, takes00⟩
/-- == of own objects is not looked at -/
theorem cmpOk {call : Nat → Nat → List PV → Store → Res PV} {kk : Nat} (g : Good N X W kk) (ne : ∀ (c : Nat) (kd : ClsDef), G.cls[c]? = some kd → kd.eqm = none) (op : CmpOp) : CmpOk G call N n X W op := by
  intro σ0 pins s σ H x y v u Q I rx ry h
  obtain ⟨ρ, S, a, b, R, ra, rb, p⟩ := h
  have no : ∀ {c f : Nat}, ((G.cls[c]?).bind fun k => k.eqm) = some f → False := fun {c f} e => by
    rw [Option.bind_eq_some_iff] at e
    obtain ⟨kd, e1, e2⟩ := e
    rw [ne c kd e1] at e2; cases e2
  unfold cmpR at p
  split at p
  · split at p
    · rename_i e; exact (no e).elim
    · exact p.elim
  · split at p
    · rename_i e; exact (no e).elim
    · exact p.elim
  · obtain ⟨c, e, p⟩ := p.ofO
    exact op_cmp g.hK (by have := g.room.un; omega) _ pins s σ H x y v u Q I rx ry ⟨ρ, S, a, b, c, R, ra, rb, e, p.ok R rfl⟩
theorem chkNs_ok (F : Fits C N G fa X) (nd : X.N.Nodup) : ∀ {is : List Nat} {es : List Expr}, chkNs C is es = true → PGs X es (gNs is) ∧ (assignEach es X.env).length = is.length ∧ (assignEach es X.env).findIdx? (·.1) = none
  | [], [], _ => ⟨pgs_nil, rfl, rfl⟩
  | [], e :: es, h => by simp [chkNs] at h
  | i :: is, [], h => by simp [chkNs] at h
  | i :: is, e :: es, h => by
    cases e <;> simp [chkNs] at h
    rename_i x p
    obtain ⟨⟨h1, h2⟩, h3⟩ := h
    obtain ⟨q1, q2, q3⟩ := chkNs_ok F nd h3
    have hl := isLoc_spec F h2
    refine ⟨pgs_cons (pg_name nd (by rw [F.hN]; exact h1) hl.1 hl.2) q1, ?_, ?_⟩
    · show (assignEach es X.env).length + 1 = _
      rw [q2]; rfl
    · have e0 : assignEach (.Name x p :: es) X.env = (false, assign (.Name x p) X.env) :: assignEach es X.env := rfl
      rw [e0, List.findIdx?_cons]
      simp [q3]
theorem chkP_ok (F : Fits C N G fa X) (nd : X.N.Nodup) (hc : X.calm = true) {p : Pat} {e : Expr} (h : chkP C p e = true) : PG X e (gPat X.K p) := by
  unfold chkP at h
  split at h
  · rename_i i x _
    simp only [Bool.and_eq_true] at h
    have hl := isLoc_spec F h.2
    exact pg_name nd (by rw [F.hN]; exact of_decide_eq_true h.1) hl.1 hl.2
  · obtain ⟨q1, q2, q3⟩ := chkNs_ok F nd h
    exact pg_tup hc q1 q2 q3
  · cases h
theorem ownPs_snd {C : CC} {own : List Nat} : (ownPs C own).map (·.2) = own := by
  unfold ownPs
  rw [List.map_map]
  exact List.map_id _
theorem PE.cast {X : Cx} {e : Expr} {f f' : Ev → Store → Res PV} (h : PE X e (tE N n W f)) (q : ∀ ps S, f' ps S = f ps S) : PE X e (tE N n W f') := by
  have : f' = f := funext fun ps => funext fun S => q ps S
  rw [this]; exact h
theorem PT.cast {X : Cx} {e : Expr} {f f' : Ev → Store → Res Bool} (h : PT X e (tT N n W f)) (q : ∀ ps S, f' ps S = f ps S) : PT X e (tT N n W f') := by
  have : f' = f := funext fun ps => funext fun S => q ps S
  rw [this]; exact h
end
end PyI
set_option Elab.async false
set_option linter.all false
set_option maxRecDepth 100000
set_option maxHeartbeats 8000000
/-! PyX: the checker is right: expressions -/
namespace PyI
open PySem PySem.Spec PyProof.Rows L2
/-- a call by name binds -/
def KwOk (fd : Nat → FuncData) (ps : Nat → List Str) (x : Nat × Nat × List Str × List Nat) : Prop := ∀ us ws : List Value, us.length = x.2.1 → ws.length = x.2.2.1.length → bindArgs (fd x.1) ⟨us, x.2.2.1.zip ws⟩ = pure ((ps x.1).zip (x.2.2.2.map fun j => (us ++ ws).getD j .none))
/-- what all the program gives -/
structure All (P : Program) (w : World) (mg : Str → Option Value) (base : Heap) (N : Nm) (G : Tab) (fa : Nat → Addr) (fd : Nat → FuncData) (ps : Nat → List Str) (k : Nat) : Prop where
  T : ∀ ξ, FnT P w mg base (N.un ξ) G fa fd ps k
  cl : ∀ ξ, ClT (N.un ξ) G fa
  cs : ∀ ξ, ClS (N.un ξ) G fa
  ne : ∀ (c : Nat) (kd : ClsDef), G.cls[c]? = some kd → kd.eqm = none
  nr : ∀ (c : Nat) (kd : ClsDef), G.cls[c]? = some kd → kd.reprm = none ∧ kd.lenm = none
  kb : ∀ x ∈ G.kl, KwOk fd ps x
  cm : ∀ x ∈ G.cm, ClM N G fa x.1 x.2.1 x.2.2
section
variable {N : Nm} {G : Tab} {fa : Nat → Addr} {fd : Nat → FuncData} {ps : Nat → List Str} {k kk n : Nat}
/-- e and its text, as a value and as a test -/
def Ok (N : Nm) (n : Nat) (X : Cx) (W : WX) (e : Expr) (f : Ev → Store → Res PV) : Prop := ∀ ξ, PE X e (tE (N.un ξ) n W f) ∧ PT X e (tT (N.un ξ) n W (tst f))
theorem Ok.plain {X : Cx} {W : WX} {e : Expr} {f : Ev → Store → Res PV} (g : ∀ ξ, Good (N.un ξ) X W kk) (h : ∀ ξ, PE X e (tE (N.un ξ) n W f)) (hw : ∀ whole, PySem.isTrue e X.env whole = (do let v ← whole; standAt e.pos; holding [v] (truthy v))) : Ok N n X W e f :=
  fun ξ => ⟨h ξ, t_any (g ξ) (h ξ) hw⟩
theorem Ok.cast {X : Cx} {W : WX} {e : Expr} {f f' : Ev → Store → Res PV} (h : Ok N n X W e f) (q : ∀ ps S, f' ps S = f ps S) : Ok N n X W e f' := by
  have : f' = f := funext fun ps => funext fun S => q ps S
  rw [this]; exact h
/-- .. also behind a test's own road -/
def OkW (N : Nm) (n : Nat) (X : Cx) (W : WX) (e : Expr) (f : Ev → Store → Res PV) : Prop := ∀ ξ, PE X e (tE (N.un ξ) n W f) ∧ PW X e (tT (N.un ξ) n W (tst f))
theorem OkW.cast {X : Cx} {W : WX} {e : Expr} {f f' : Ev → Store → Res PV} (h : OkW N n X W e f) (q : ∀ ps S, f' ps S = f ps S) : OkW N n X W e f' := by
  have : f' = f := funext fun ps => funext fun S => q ps S
  rw [this]; exact h
theorem OkW.ok {X : Cx} {W : WX} {e : Expr} {f : Ev → Store → Res PV} (h : OkW N n X W e f) : Ok N n X W e f := fun ξ => ⟨(h ξ).1, (h ξ).2.pt⟩
variable {C : CC} {W : WX}
theorem cst_ok {X : Cx} (g : ∀ ξ, Good (N.un ξ) X W kk) {v : PV} {c : Const} {j : Nat} {pos : Pos} (h : cstOk v c = true) : Ok N n X W (.Constant c j pos) (fun _ S => .ok v S) := by
  refine Ok.plain g (fun ξ => ?_) (fun _ => rfl)
  unfold cstOk at h
  split at h
  · have := of_decide_eq_true h; subst this
    exact e_cst pe_int fun _ _ => RV.int_iff.mpr rfl
  · rw [Bool.and_eq_true] at h
    have := of_decide_eq_true h.1; subst this
    exact e_cst pe_str fun _ _ => RV.str_iff.mpr ⟨rfl, by rw [sizeLine_eq]; exact of_decide_eq_true h.2⟩
  · have := of_decide_eq_true h; subst this
    exact e_cst pe_bl fun _ _ => RV.bl_iff.mpr rfl
  · exact e_cst pe_non fun _ _ => RV.non_iff.mpr rfl
  · cases h
def plOf (o : Expr) (env : Env) : Sem Bool := do return (← importBound o env).getD true
theorem methText {X : Cx} {o : Expr} {f : Str} {xs : List Expr} {ap pos : Pos} (h : noCall0 o = true) (hs : xs.all noStar = true) (hl : xs.length < 20) (hline : (ap.endLine == pos.line) = true) : PySem.eval (.Call (.Attribute o f ap) xs [] pos) X.env = (do
      let ov ← PySem.eval o X.env
      standAt ap.atName
      let (f, first) ← holding [ov] (getMethod ov f (plOf o X.env))
      callWith pos f first (backTo pos (starEach xs X.env)) (backToKw pos (keywordEach [] X.env))) := by
  have hbase := attrBase (f := f) (env := X.env) h
  have few : methodCallForm (xs.length + ([] : List Keyword).length) (backTo pos (starEach xs X.env)) (backToKw pos (keywordEach [] X.env)) = true := by
    unfold methodCallForm
    rw [back_all hs]
    show (true && true && decide (xs.length + 0 + 0 < 30)) = true
    simp; omega
  have e1 : ∀ ov, methodCall o f ap pos X.env ov (xs.length + ([] : List Keyword).length) (backTo pos (starEach xs X.env)) (backToKw pos (keywordEach [] X.env)) = (do
      let (f, first) ← holding [ov] (getMethod ov f (plOf o X.env))
      callWith pos f first (backTo pos (starEach xs X.env)) (backToKw pos (keywordEach [] X.env))) := fun ov => by
    unfold methodCall
    rw [few]
    unfold calleeOf methodCallPos
    rw [if_pos rfl, hline]
    rfl
  rw [arm_eval_Call, hbase]
  simp only [e1]
theorem methText0 {X : Cx} {o : Expr} {f : Str} {ap pos : Pos} (h : noCall0 o = true) (hline : (ap.endLine == pos.line) = true) : PySem.eval (.Call (.Attribute o f ap) [] [] pos) X.env = (do
      let ov ← PySem.eval o X.env
      standAt ap.atName
      let (f, first) ← holding [ov] (getMethod ov f (plOf o X.env))
      callWith pos f first (backTo pos (starEach [] X.env)) (backToKw pos (keywordEach [] X.env))) := methText h rfl (by simp) hline
theorem fewOk {X : Cx} {xs : List Expr} {cpos : Pos} (hs : xs.all noStar = true) (hl : xs.length < 20) : ((backTo cpos (starEach xs X.env)).all (fun x => !x.1) && (backToKw cpos (keywordEach [] X.env)).all (fun x => x.1.isSome)
      && decide (xs.length + ([] : List Keyword).length + (if ([] : List Keyword).isEmpty then 0 else 1) < 30)) = true := by
  rw [back_all hs]
  show (true && true && decide (xs.length + 0 + 0 < 30)) = true
  simp; omega
theorem kw_all {pos : Pos} {env : Env} : ∀ {kws : List Keyword}, kws.all (·.arg.isSome) = true → (backToKw pos (keywordEach kws env)).all (·.1.isSome) = true
  | [], _ => rfl
  | ⟨nm, v, p⟩ :: t, h => by
    rw [List.all_cons, Bool.and_eq_true] at h
    show (nm.isSome && (backToKw pos (keywordEach t env)).all (·.1.isSome)) = true
    rw [kw_all h.2, Bool.and_true]; exact h.1
theorem kw_none {pos : Pos} {env : Env} : ∀ {kws : List Keyword}, kws.all (·.arg.isSome) = true → (backToKw pos (keywordEach kws env)).any (·.1.isNone) = false
  | [], _ => rfl
  | ⟨nm, v, p⟩ :: t, h => by
    rw [List.all_cons, Bool.and_eq_true] at h
    show (nm.isNone || (backToKw pos (keywordEach t env)).any (·.1.isNone)) = false
    rw [kw_none h.2, Bool.or_false]
    have := h.1
    cases nm with
    | none => cases this
    | some _ => rfl
theorem kw_names {pos : Pos} {env : Env} : ∀ {kws : List Keyword}, (backToKw pos (keywordEach kws env)).filterMap (·.1) = kws.filterMap (·.arg)
  | [] => rfl
  | ⟨nm, v, p⟩ :: t => by
    show ((nm, _) :: backToKw pos (keywordEach t env)).filterMap (·.1) = (⟨nm, v, p⟩ :: t : List Keyword).filterMap (·.arg)
    rw [List.filterMap_cons, List.filterMap_cons, kw_names]
theorem bfOwn {X : Cx} {ξ : List Addr} (al : All X.prog X.w X.mg X.base N G fa fd ps k) (hk : 2 * k + 1 ≤ kk) (g : Good (N.un ξ) X W kk) (f : BF) : OwnOk G (callN G k) (N.un ξ) n X W f := by
  cases f
  case str => exact own_str (N := N.un ξ) g (al.T ξ) (al.cs ξ) hk
  case repr =>
    intro σ pins s σ' H xs us Q I r q
    obtain ⟨_, _, _, c, _, _, kd, _, _, _, _, _, _, e1, e2, _⟩ := q
    have := (al.nr c kd e1).1
    simp only [ownF, this] at e2; cases e2
  case len =>
    intro σ pins s σ' H xs us Q I r q
    obtain ⟨_, _, _, c, _, _, kd, _, _, _, _, _, _, e1, e2, _⟩ := q
    have := (al.nr c kd e1).2
    simp only [ownF, this] at e2; cases e2
  all_goals exact own_no fun _ => rfl
theorem bfRule {X : Cx} {ξ : List Addr} (g : Good (N.un ξ) X W kk) {f : BF} {fr : Bool} {p pos : Pos} {e : Expr} {es : List Expr} {h : Ev → Store → Res (List PV)} {call : Nat → Nat → List PV → Store → Res PV} (own : OwnOk G call (N.un ξ) n X W f) (hg : Gl X (bfName f)) (hm : X.mg (bfName f) = none) (ha : PA X (e :: es) (tA (N.un ξ) n W h))
    (hn : bfName f ≠ "__name__") (hdb : (bfName f == ("__debug__" : Str)) = false) (he : starEach (e :: es) X.env = (false, PySem.eval e X.env) :: starEach es X.env) (hpl : (backTo pos (starEach es X.env)).any (·.1) = false) :
    PE X (.Call (.Name (bfName f) p) (e :: es) [] pos) (tE (N.un ξ) n W fun ps S => (h ps S).bind fun vs S1 => bfunR G call f fr vs S1) := by
  cases f <;> first
    | exact e_bfF g own rfl hg hm (by rfl) ha hn hdb he hpl
    | exact e_bfT g own rfl hg hm (by rfl) ha hn hdb he hpl
theorem bmRule {X : Cx} {ξ : List Addr} (g : Good (N.un ξ) X W kk) {m : BM} {fr : Bool} {o e : Expr} {es : List Expr} {apos cpos : Pos} {f : Ev → Store → Res PV} {h : Ev → Store → Res (List PV)} (hm : bmOk m = true) (ho : PE X o (tE (N.un ξ) n W f)) (ha : PA X (e :: es) (tA (N.un ξ) n W h))
    (hbase : attributeBase o (bmName m) X.env (PySem.eval o X.env) = PySem.eval o X.env)
    (hfew : ((backTo cpos (starEach (e :: es) X.env)).all (fun x => !x.1) && (backToKw cpos (keywordEach [] X.env)).all (fun x => x.1.isSome)
      && decide ((e :: es).length + ([] : List Keyword).length + (if ([] : List Keyword).isEmpty then 0 else 1) < 30)) = true)
    (hline : (apos.endLine == cpos.line) = true) (hs : starEach (e :: es) X.env = (false, PySem.eval e X.env) :: starEach es X.env) (hplain : (backTo cpos (starEach es X.env)).any (·.1) = false) :
    PE X (.Call (.Attribute o (bmName m) apos) (e :: es) [] cpos) (tE (N.un ξ) n W fun ps S => (f ps S).bind fun v S1 => guardR (bmT m v S1) ((h ps S1).bind fun vs S2 => bmR n m fr v vs S2)) := by
  cases m <;> first | cases hm | skip
  · exact e_bm g (by decide) (fun σ => mt_lappend g) PySem.F.plainAttrs_list PySem.F.slot_list_append PySem.F.type_list_append ho ha hbase hfew hline hs hplain
  · exact e_bm g (by decide) (fun σ => mt_lextend g) PySem.F.plainAttrs_list PySem.F.slot_list_extend PySem.F.type_list_extend ho ha hbase hfew hline hs hplain
  · exact e_bm g (by decide) (fun σ => mt_lpop g) PySem.F.plainAttrs_list PySem.F.slot_list_pop PySem.F.type_list_pop ho ha hbase hfew hline hs hplain
  · exact e_bm g (by decide) (fun σ => mt_sjoin g) PySem.F.plainAttrs_str PySem.F.slot_str_join PySem.F.type_str_join ho ha hbase hfew hline hs hplain
  · exact e_bm g (by decide) (fun σ => mt_ssplit g) PySem.F.plainAttrs_str PySem.F.slot_str_split PySem.F.type_str_split ho ha hbase hfew hline hs hplain
  · exact e_bm g (by decide) (fun σ => mt_spart g) PySem.F.plainAttrs_str PySem.F.slot_str_partition PySem.F.type_str_partition ho ha hbase hfew hline hs hplain
  · exact e_bm g (by decide) (fun σ => mt_sremp g) PySem.F.plainAttrs_str PySem.F.slot_str_removeprefix PySem.F.type_str_removeprefix ho ha hbase hfew hline hs hplain
  · exact e_bm g (by decide) (fun σ => mt_sfind g) PySem.F.plainAttrs_str PySem.F.slot_str_find PySem.F.type_str_find ho ha hbase hfew hline hs hplain
theorem bmRule0 {X : Cx} {ξ : List Addr} (g : Good (N.un ξ) X W kk) {m : BM} {fr : Bool} {o : Expr} {apos cpos : Pos} {f : Ev → Store → Res PV} (hm : bmOk m = true) (ho : PE X o (tE (N.un ξ) n W f))
    (hbase : attributeBase o (bmName m) X.env (PySem.eval o X.env) = PySem.eval o X.env) (hline : (apos.endLine == cpos.line) = true) :
    PE X (.Call (.Attribute o (bmName m) apos) [] [] cpos) (tE (N.un ξ) n W fun ps S => (f ps S).bind fun v S1 => guardR (bmT m v S1) ((Res.ok [] S1).bind fun vs S2 => bmR n m fr v vs S2)) := by
  cases m <;> first | cases hm | skip
  · exact e_bm0 g (by decide) (fun σ => mt_lappend g) PySem.F.plainAttrs_list PySem.F.slot_list_append PySem.F.type_list_append ho hbase hline
  · exact e_bm0 g (by decide) (fun σ => mt_lextend g) PySem.F.plainAttrs_list PySem.F.slot_list_extend PySem.F.type_list_extend ho hbase hline
  · exact e_bm0 g (by decide) (fun σ => mt_lpop g) PySem.F.plainAttrs_list PySem.F.slot_list_pop PySem.F.type_list_pop ho hbase hline
  · exact e_bm0 g (by decide) (fun σ => mt_sjoin g) PySem.F.plainAttrs_str PySem.F.slot_str_join PySem.F.type_str_join ho hbase hline
  · exact e_bm0 g (by decide) (fun σ => mt_ssplit g) PySem.F.plainAttrs_str PySem.F.slot_str_split PySem.F.type_str_split ho hbase hline
  · exact e_bm0 g (by decide) (fun σ => mt_spart g) PySem.F.plainAttrs_str PySem.F.slot_str_partition PySem.F.type_str_partition ho hbase hline
  · exact e_bm0 g (by decide) (fun σ => mt_sremp g) PySem.F.plainAttrs_str PySem.F.slot_str_removeprefix PySem.F.type_str_removeprefix ho hbase hline
  · exact e_bm0 g (by decide) (fun σ => mt_sfind g) PySem.F.plainAttrs_str PySem.F.slot_str_find PySem.F.type_str_find ho hbase hline
theorem chkI_noSet {C : CC} {i : II} {it tg : Expr} (h : chkI C i it tg = true) : noSet it = true := by
  cases i <;> unfold chkI at h
  · rw [Bool.and_eq_true] at h; exact h.2
  · split at h <;> first | rfl | cases h
  · split at h <;> first | rfl | cases h
  · split at h <;> first | rfl | cases h
  · cases h
theorem chkL_len {C : CC} : ∀ {es : IEs} {xs : List Expr}, chkL C es xs = true → es.len = xs.length
  | .nil, xs, h => by
    unfold chkL at h
    cases xs with
    | nil => rfl
    | cons _ _ => cases h
  | .cons a r, xs, h => by
    unfold chkL at h
    cases xs with
    | nil => cases h
    | cons x t =>
      simp only [Bool.and_eq_true] at h
      simp [IEs.len, chkL_len h.2]
theorem evalL_len {call : Nat → Nat → List PV → Store → Res PV} : ∀ (es : IEs) {ps : Ev} {S : Store} {vs : List PV} {S' : Store}, evalL G call n es ps S = .ok vs S' → vs.length = es.len
  | .nil, ps, S, vs, S', h => by
    simp only [evalL] at h; cases h; rfl
  | .cons a r, ps, S, vs, S', h => by
    simp only [evalL] at h
    cases e1 : eval G call n a ps S with
    | exn _ _ => rw [e1] at h; cases h
    | stuck => rw [e1] at h; cases h
    | ok v S1 =>
      rw [e1] at h
      simp only [Res.bind_ok] at h
      cases e2 : evalL G call n r ps S1 with
      | exn _ _ => rw [e2] at h; cases h
      | stuck => rw [e2] at h; cases h
      | ok us S2 =>
        rw [e2] at h
        simp only [Res.bind_ok] at h
        cases h
        simp [IEs.len, evalL_len r e2]
theorem chkT_ok {X : Cx} (F : Fits C N G fa X) {t : TyC} {e : Expr} (h : chkT C t e = true) : PE X e (tC (tyCV N t)) ∧ t.inb G = true := by
  unfold chkT at h
  split at h
  · rename_i x pos
    split at h
    · obtain ⟨q1, q2, ⟨kd, q3⟩, q4⟩ := isCl_spec F h
      refine ⟨⟨fun pins s σ H Q I q => ld_glob I q1 q2 ⟨.ref (N.ca _), H, I, rfl, q⟩ q4⟩, ?_⟩
      exact decide_eq_true (List.getElem?_eq_some_iff.mp q3).1
    · rename_i t' ht
      rw [Bool.and_eq_true, decide_eq_true_eq] at h
      obtain ⟨h1, h2⟩ := h
      subst h1
      obtain ⟨q1, q2, q3, q4⟩ := isNo_spec F h2
      cases t
      case own c => exact (ht c rfl).elim
      all_goals exact ⟨⟨fun pins s σ H Q I q => ld_blt I q1 q2 (by rfl) ⟨.ty _, H, I, rfl, q⟩ q4 q3⟩, rfl⟩
  · cases h
mutual
theorem chkE_ok (hk : 2 * k + 1 ≤ kk) : ∀ (ir : IE) {X : Cx} {C : CC} {e : Expr} {W : WX}, All X.prog X.w X.mg X.base N G fa fd ps k → Fits C N G fa X → (∀ ξ, Good (N.un ξ) X W kk) → chkE C ir e = true → Ok N n X W e (eval G (callN G k) n ir)
  | .var i, X, C, e, W, al, F, g, h => by
    unfold chkE at h
    split at h
    · obtain ⟨h1, h2, h3, h4⟩ := isVar_spec F h
      exact (Ok.plain g (fun ξ => e_var (i := i) h1 h2 h3 h4) (fun _ => rfl)).cast fun _ _ => by first | (simp only [eval, fVar]; done) | (simp only [eval, fVar]; rfl)
    · cases h
  | .cst v, X, C, e, W, al, F, g, h => by
    unfold chkE at h
    split at h
    · exact (cst_ok g h).cast fun _ _ => by first | (simp only [eval]; done) | (simp only [eval]; rfl)
    · cases h
  | .tup es, X, C, e, W, al, F, g, h => by
    unfold chkE at h
    split at h
    · exact (Ok.plain g (fun ξ => e_tup (chkL_ok hk es al F g h ξ)) (fun _ => rfl)).cast fun _ _ => by first | (simp only [eval]; done) | (simp only [eval]; rfl)
    · cases h
  | .lst fr es, X, C, e, W, al, F, g, h => by
    unfold chkE at h
    split at h
    · exact (Ok.plain g (fun ξ => e_lst (fr := fr) (chkL_ok hk es al F g h ξ)) (fun _ => rfl)).cast fun _ _ => by first | (simp only [eval]; done) | (simp only [eval]; rfl)
    · cases h
  | .dct0 fr, X, C, e, W, al, F, g, h => by
    unfold chkE at h
    split at h
    · exact (Ok.plain g (fun ξ => e_dct0 (fr := fr)) (fun _ => rfl)).cast fun _ _ => by first | (simp only [eval]; done) | (simp only [eval]; rfl)
    · cases h
  | .neg a, X, C, e, W, al, F, g, h => by
    unfold chkE at h
    split at h
    · have ha := chkE_ok hk a al F g h
      exact (Ok.plain g (fun ξ => e_neg (ha ξ).1) (fun _ => rfl)).cast fun _ _ => by first | (simp only [eval]; done) | (simp only [eval]; rfl)
    · cases h
  | .bin op a b, X, C, e, W, al, F, g, h => by
    unfold chkE at h
    split at h
    · simp only [Bool.and_eq_true, decide_eq_true_eq] at h
      obtain ⟨⟨h0, h1⟩, h2⟩ := h
      subst h0
      have ha := chkE_ok hk a al F g h1
      have hb := chkE_ok hk b al F g h2
      exact (Ok.plain g (fun ξ => e_bin (g ξ) (ha ξ).1 (hb ξ).1) (fun _ => rfl)).cast fun _ _ => by first | (simp only [eval]; done) | (simp only [eval]; rfl)
    · cases h
  | .cmp op a b, X, C, e, W, al, F, g, h => by
    unfold chkE at h
    split at h
    · simp only [Bool.and_eq_true, decide_eq_true_eq] at h
      obtain ⟨⟨⟨h0, h1⟩, h2⟩, h3⟩ := h
      subst h0
      have ha := chkE_ok hk a al F g h1
      have hb := chkE_ok hk b al F g h2
      refine Ok.cast (f := fun ps S => (eval G (callN G k) n a ps S).bind fun x S1 => (eval G (callN G k) n b ps S1).bind fun y S2 => (cmpR G (callN G k) op x y S2).bind fun c S3 => .ok (.bl c) S3) (fun ξ => ⟨?_, ?_⟩) fun _ _ => by first | (simp only [eval]; done) | (simp only [eval]; rfl)
      · exact e_cmp (g ξ) (cmpOk (g ξ) al.ne op) (ha ξ).1 (hb ξ).1 (noMark h3)
      · exact t_cmp (g ξ) (cmpOk (g ξ) al.ne op) (ha ξ).1 (hb ξ).1 (noMark h3)
    · cases h
  | .chain op op' a b c, X, C, e, W, al, F, g, h => by
    unfold chkE at h
    split at h
    · simp only [Bool.and_eq_true, decide_eq_true_eq] at h
      obtain ⟨⟨⟨⟨⟨h0, h0'⟩, h1⟩, h2⟩, h3⟩, h4⟩ := h
      subst h0; subst h0'
      have ha := chkE_ok hk a al F g h1
      have hb := chkE_ok hk b al F g h2
      have hc := chkE_ok hk c al F g h3
      refine Ok.cast (f := fChain G (callN G k) op op' (eval G (callN G k) n a) (eval G (callN G k) n b) (eval G (callN G k) n c)) (fun ξ => ⟨?_, ?_⟩) fun _ _ => by first | (simp only [eval, fChain]; done) | (simp only [eval, fChain]; rfl)
      · exact e_chain (cmpOk (g ξ) al.ne op) (cmpOk (g ξ) al.ne op') (ha ξ).1 (hb ξ).1 (hc ξ).1 (noMark (op := op') h4)
      · exact t_chain (cmpOk (g ξ) al.ne op) (cmpOk (g ξ) al.ne op') (ha ξ).1 (hb ξ).1 (hc ξ).1 (noMark (op := op') h4)
    · cases h
  | .andE es, X, C, e, W, al, F, g, h => by
    unfold chkE at h
    split at h
    · rw [Bool.and_eq_true] at h
      exact (chkAnd_ok hk es al F g h.1 h.2).ok.cast fun _ _ => by first | (simp only [eval]; done) | (simp only [eval]; rfl)
    · cases h
  | .orE es, X, C, e, W, al, F, g, h => by
    unfold chkE at h
    split at h
    · rw [Bool.and_eq_true] at h
      exact (chkOr_ok hk es al F g h.1 h.2).ok.cast fun _ _ => by first | (simp only [eval]; done) | (simp only [eval]; rfl)
    · cases h
  | .notE a, X, C, e, W, al, F, g, h => by
    unfold chkE at h
    split at h
    · have ha := chkE_ok hk a al F g h
      refine Ok.cast (f := fun ps S => (eval G (callN G k) n a ps S).bind fun v S1 => (match v.truth S1 with
        | some b => .ok (.bl (!b)) S1
        | none => .stuck)) (fun ξ => ⟨e_not (g ξ) (ha ξ).1, t_not (ha ξ).2⟩) fun _ _ => by first | (simp only [eval]; done) | (simp only [eval]; rfl)
    · cases h
  | .ife c a b, X, C, e, W, al, F, g, h => by
    unfold chkE at h
    split at h
    · simp only [Bool.and_eq_true] at h
      obtain ⟨⟨h0, h1⟩, h2⟩ := h
      have hc := chkE_ok hk c al F g h0
      have ha := chkE_ok hk a al F g h1
      have hb := chkE_ok hk b al F g h2
      refine Ok.cast (f := fun ps S => (eval G (callN G k) n c ps S).bind fun v S1 => (match v.truth S1 with
        | some true => eval G (callN G k) n a ps S1
        | some false => eval G (callN G k) n b ps S1
        | none => .stuck)) (fun ξ => ⟨e_ife (hc ξ).2 (ha ξ).1 (hb ξ).1, t_ife (hc ξ).2 (ha ξ).2 (hb ξ).2⟩) fun _ _ => by first | (simp only [eval]; done) | (simp only [eval]; rfl)
    · cases h
  | .sub a i, X, C, e, W, al, F, g, h => by
    unfold chkE at h
    split at h
    · simp only [Bool.and_eq_true] at h
      have ha := chkE_ok hk a al F g h.1.1
      have hi := chkE_ok hk i al F g h.1.2
      exact (Ok.plain g (fun ξ => e_sub (g ξ) (ha ξ).1 (hi ξ).1 (plainIx h.2)) (fun _ => rfl)).cast fun _ _ => by first | (simp only [eval]; done) | (simp only [eval]; rfl)
    · cases h
  | .sl1 a lo, X, C, e, W, al, F, g, h => by
    unfold chkE at h
    split at h
    · simp only [Bool.and_eq_true] at h
      have ha := chkE_ok hk a al F g h.1
      have hl := chkE_ok hk lo al F g h.2
      exact (Ok.plain g (fun ξ => e_sl1 (g ξ) (ha ξ).1 (hl ξ).1) (fun _ => rfl)).cast fun _ _ => by first | (simp only [eval]; done) | (simp only [eval]; rfl)
    · cases h
  | .sl2 a hi, X, C, e, W, al, F, g, h => by
    unfold chkE at h
    split at h
    · simp only [Bool.and_eq_true] at h
      have ha := chkE_ok hk a al F g h.1
      have hl := chkE_ok hk hi al F g h.2
      exact (Ok.plain g (fun ξ => e_sl2 (g ξ) (ha ξ).1 (hl ξ).1) (fun _ => rfl)).cast fun _ _ => by first | (simp only [eval]; done) | (simp only [eval]; rfl)
    · cases h
  | .sl3 a lo hi, X, C, e, W, al, F, g, h => by
    unfold chkE at h
    split at h
    · simp only [Bool.and_eq_true] at h
      have ha := chkE_ok hk a al F g h.1.1
      have hl := chkE_ok hk lo al F g h.1.2
      have hh := chkE_ok hk hi al F g h.2
      exact (Ok.plain g (fun ξ => e_sl3 (g ξ) (ha ξ).1 (hl ξ).1 (hh ξ).1) (fun _ => rfl)).cast fun _ _ => by first | (simp only [eval]; done) | (simp only [eval]; rfl)
    · cases h
  | .rev fr a, X, C, e, W, al, F, g, h => by
    unfold chkE at h
    split at h
    · rw [Bool.and_eq_true] at h
      obtain ⟨h1, h2⟩ := h
      have ha := chkE_ok hk a al F g h1
      unfold oneLit at h2
      split at h2
      · exact (Ok.plain g (fun ξ => e_rev (fr := fr) (ha ξ).1) (fun _ => rfl)).cast fun _ _ => by first | (simp only [eval]; done) | (simp only [eval]; rfl)
      · cases h2
    · cases h
  | .attr a m, X, C, e, W, al, F, g, h => by
    unfold chkE at h
    split at h
    · simp only [Bool.and_eq_true, decide_eq_true_eq] at h
      obtain ⟨⟨h1, h2⟩, h3⟩ := h
      have ha := chkE_ok hk a al F g h1
      obtain ⟨m1, m2⟩ := F.fl m _ h2
      subst m2
      exact (Ok.plain g (fun ξ => e_attr (N := N.un ξ) (g ξ) (al.T ξ) (al.cl ξ) hk (m := m) m1 (ha ξ).1 (attrBase h3)) (fun _ => rfl)).cast fun _ _ => by first | (simp only [eval]; done) | (simp only [eval]; rfl)
    · cases h
  | .call f es, X, C, e, W, al, F, g, h => by
    unfold chkE at h
    split at h
    · rename_i x p xs pos
      rw [Bool.and_eq_true] at h
      obtain ⟨h1, h2⟩ := h
      obtain ⟨q1, q2, ⟨d, q3⟩, q4⟩ := isFn_spec F h1
      have hs := chkL_star h2
      have ha := chkL_ok hk es al F g h2
      cases xs with
      | nil =>
        cases es with
        | cons _ _ => unfold chkL at h2; cases h2
        | nil => exact (Ok.plain g (fun ξ => e_call0 (n := n) (g ξ) (al.T ξ) (by omega) q3 q1 q2 q4) (fun _ => rfl)).cast fun _ _ => by first | (simp only [eval, evalL]; done) | (simp only [eval, evalL]; rfl)
      | cons y t =>
        rw [List.all_cons, Bool.and_eq_true] at hs
        exact (Ok.plain g (fun ξ => e_call (g ξ) (al.T ξ) (by omega) q3 q1 q2 (ha ξ) q4 (star_cons hs.1) (back_star hs.2)) (fun _ => rfl)).cast fun _ _ => by first | (simp only [eval]; done) | (simp only [eval]; rfl)
    · cases h
  | .new c es, X, C, e, W, al, F, g, h => by
    unfold chkE at h
    split at h
    · rename_i x p xs pos
      simp only [Bool.and_eq_true] at h
      obtain ⟨⟨h1, h2⟩, h3⟩ := h
      obtain ⟨q1, q2, ⟨kd, q3⟩, q4⟩ := isCl_spec F h1
      have hs := chkL_star h2
      have ha := chkL_ok hk es al F g h2
      cases xs with
      | nil => cases h3
      | cons y t =>
        rw [List.all_cons, Bool.and_eq_true] at hs
        exact (Ok.plain g (fun ξ => e_new (N := N.un ξ) (g ξ) (al.T ξ) (al.cl ξ) hk q3 q1 q2 (ha ξ) q4 (star_cons hs.1) (back_star hs.2)) (fun _ => rfl)).cast fun _ _ => by first | (simp only [eval]; done) | (simp only [eval]; rfl)
    · cases h
  | .newV i es, X, C, e, W, al, F, g, h => by
    unfold chkE at h
    split at h
    · rename_i x p xs pos
      simp only [Bool.and_eq_true] at h
      obtain ⟨⟨h1, h2⟩, h3⟩ := h
      obtain ⟨q1, q2, q3, q4⟩ := isVar_spec F h1
      have hs := chkL_star h2
      have ha := chkL_ok hk es al F g h2
      cases xs with
      | nil => cases h3
      | cons y t =>
        rw [List.all_cons, Bool.and_eq_true] at hs
        exact (Ok.plain g (fun ξ => e_newV (N := N.un ξ) (g ξ) (al.T ξ) (al.cl ξ) hk (pe_var q1 q2 q3 q4) (ha ξ) (star_cons hs.1) (back_star hs.2)) (fun _ => rfl)).cast fun _ _ => by first | (simp only [eval]; done) | (simp only [eval]; rfl)
    · cases h
  | .meth m o es, X, C, e, W, al, F, g, h => by
    unfold chkE at h
    split at h
    · rename_i x f ap xs pos
      simp only [Bool.and_eq_true, decide_eq_true_eq] at h
      obtain ⟨⟨⟨⟨⟨h1, h2⟩, h3⟩, h4⟩, h5⟩, h6⟩ := h
      have ho := chkE_ok hk o al F g h1
      obtain ⟨m1, m2⟩ := F.fl m _ h2
      subst m2
      have hs := chkL_star h4
      have ha := chkL_ok hk es al F g h4
      cases xs with
      | nil =>
        cases es with
        | cons _ _ => unfold chkL at h4; cases h4
        | nil => exact (Ok.plain g (fun ξ => e_meth0 (N := N.un ξ) (m := m) (g ξ) (al.T ξ) (al.cl ξ) (by omega) (ho ξ).1 (methText0 h3 h6)) (fun _ => rfl)).cast fun _ _ => by first | (simp only [eval, evalL]; done) | (simp only [eval, evalL]; rfl)
      | cons y t =>
        rw [List.all_cons, Bool.and_eq_true] at hs
        exact (Ok.plain g (fun ξ => e_meth (N := N.un ξ) (m := m) (g ξ) (al.T ξ) (al.cl ξ) (by omega) (ho ξ).1 (ha ξ) (star_cons hs.1) (back_star hs.2) (methText h3 (by rw [List.all_cons, hs.1, hs.2]; rfl) h5 h6)) (fun _ => rfl)).cast fun _ _ => by first | (simp only [eval]; done) | (simp only [eval]; rfl)
    · cases h
  | .bf f fr es, X, C, e, W, al, F, g, h => by
    unfold chkE at h
    split at h
    · rename_i x p xs pos
      simp only [Bool.and_eq_true, decide_eq_true_eq] at h
      obtain ⟨⟨⟨h1, h2⟩, h3⟩, h4⟩ := h
      subst h1
      obtain ⟨q1, q2, q3, q4⟩ := isNo_spec F h2
      have hs := chkL_star h3
      have ha := chkL_ok hk es al F g h3
      have own : ∀ ξ, OwnOk G (callN G k) (N.un ξ) n X W f := fun ξ => bfOwn al hk (g ξ) f
      cases xs with
      | nil => cases h4
      | cons y t =>
        rw [List.all_cons, Bool.and_eq_true] at hs
        exact (Ok.plain g (fun ξ => bfRule (g ξ) (own ξ) q1 q2 (ha ξ) q4 q3 (star_cons hs.1) (back_star hs.2)) (fun _ => rfl)).cast fun _ _ => by first | (simp only [eval]; done) | (simp only [eval]; rfl)
    · cases h
  | .bm m fr o es, X, C, e, W, al, F, g, h => by
    unfold chkE at h
    split at h
    · rename_i x f ap xs cp
      simp only [Bool.and_eq_true, decide_eq_true_eq] at h
      obtain ⟨⟨⟨⟨⟨⟨h1, h2⟩, h3⟩, h4⟩, h5⟩, h6⟩, h7⟩ := h
      subst h2
      have ho := chkE_ok hk o al F g h1
      have hs := chkL_star h5
      have ha := chkL_ok hk es al F g h5
      cases xs with
      | nil =>
        cases es with
        | cons _ _ => unfold chkL at h5; cases h5
        | nil => exact (Ok.plain g (fun ξ => bmRule0 (fr := fr) (g ξ) h3 (ho ξ).1 (attrBase h4) h7) (fun _ => rfl)).cast fun _ _ => by first | (simp only [eval, evalL]; done) | (simp only [eval, evalL]; rfl)
      | cons y t =>
        have hs' := hs
        rw [List.all_cons, Bool.and_eq_true] at hs
        exact (Ok.plain g (fun ξ => bmRule (fr := fr) (g ξ) h3 (ho ξ).1 (ha ξ) (attrBase h4) (fewOk hs' h6) h7 (star_cons hs.1) (back_star hs.2)) (fun _ => rfl)).cast fun _ _ => by first | (simp only [eval]; done) | (simp only [eval]; rfl)
    · cases h
  | .comp fr own elt p it ifs, X, C, e, W, al, F, g, h => by
    unfold chkE at h
    split at h
    · rename_i x tg iter cs scope pos
      simp only [Bool.and_eq_true] at h
      obtain ⟨⟨⟨⟨⟨h1, h2⟩, h3⟩, h4⟩, h5⟩, h6⟩ := h
      refine (Ok.plain g (fun ξ => e_lc (N := N.un ξ) (g ξ) (fr := fr) (p := p) (own := ownPs C own) (fi := evalI G (callN G k) n it) (ft := testL G (callN G k) n ifs) (fe := eval G (callN G k) n elt) (by
          rw [ownPs_snd]
          exact fun i hi => by simpa using List.all_eq_true.mp h4 i hi) (chkI_ok hk it al F g h5 ξ) (blkOk_by (by rw [F.hN, F.sc]; exact h1))
        (fun s H Ca cl fp => chkP_ok F.blk (g ξ).nd (g ξ).calm h3)
        (fun s H Ca cl fp => chkF_ok hk ifs (X := X.blk s H scope (compEnvC scope cl Ca X.env) fp) al F.blk (fun ξ' => (g ξ).blk ξ') h6)
        (fun s H Ca cl fp => tExOk fun ξ' => (chkE_ok hk elt (X := X.blk s H scope (compEnvC scope cl Ca X.env) fp) (W := W0) al F.blk (fun ξ' => (g ξ).blk ξ') h2 ξ').1) (noFold (chkI_noSet h5))) (fun _ => rfl)).cast fun ps S => ?_
      rw [ownPs_snd]
      first | (simp only [eval, compF]; done) | (simp only [eval, compF]; rfl)
    · cases h
  | .dcomp fr own kx vx p it ifs, X, C, e, W, al, F, g, h => by
    unfold chkE at h
    split at h
    · rename_i x y tg iter cs scope pos
      simp only [Bool.and_eq_true] at h
      obtain ⟨⟨⟨⟨⟨⟨h1, h2⟩, h2'⟩, h3⟩, h4⟩, h5⟩, h6⟩ := h
      refine (Ok.plain g (fun ξ => e_dc (N := N.un ξ) (g ξ) (fr := fr) (p := p) (own := ownPs C own) (fi := evalI G (callN G k) n it) (ft := testL G (callN G k) n ifs) (fk := eval G (callN G k) n kx) (fv := eval G (callN G k) n vx) (by
          rw [ownPs_snd]
          exact fun i hi => by simpa using List.all_eq_true.mp h4 i hi) (chkI_ok hk it al F g h5 ξ) (blkOk_by (by rw [F.hN, F.sc]; exact h1))
        (fun s H Ca cl fp => chkP_ok F.blk (g ξ).nd (g ξ).calm h3)
        (fun s H Ca cl fp => chkF_ok hk ifs (X := X.blk s H scope (compEnvC scope cl Ca X.env) fp) al F.blk (fun ξ' => (g ξ).blk ξ') h6)
        (fun s H Ca cl fp => tExOk fun ξ' => (chkE_ok hk kx (X := X.blk s H scope (compEnvC scope cl Ca X.env) fp) (W := W0) al F.blk (fun ξ' => (g ξ).blk ξ') h2 ξ').1)
        (fun s H Ca cl fp => tExOk fun ξ' => (chkE_ok hk vx (X := X.blk s H scope (compEnvC scope cl Ca X.env) fp) (W := W0) al F.blk (fun ξ' => (g ξ).blk ξ') h2' ξ').1) (noFold (chkI_noSet h5))) (fun _ => rfl)).cast fun ps S => ?_
      rw [ownPs_snd]
      first | (simp only [eval, dcompF]; done) | (simp only [eval, dcompF]; rfl)
    · cases h
  | .isi a t, X, C, e, W, al, F, g, h => by
    unfold chkE at h
    split at h
    · rename_i x p y z pos
      simp only [Bool.and_eq_true, decide_eq_true_eq] at h
      obtain ⟨⟨⟨⟨⟨h1, h2⟩, h3⟩, h4⟩, h5⟩, h6⟩ := h
      subst h1
      obtain ⟨q1, q2, q3, q4⟩ := isNo_spec F h2
      have ha := chkE_ok hk a al F g h3
      obtain ⟨r1, r2⟩ := chkT_ok F h4
      exact (Ok.plain g (fun ξ => e_isi (N := N.un ξ) (g ξ) (al.cl ξ).wd (ha ξ).1 r1 r2 q1 q2 (star_cons h5) (star_cons h6) (back_star (by simp [h6]))) (fun _ => rfl)).cast fun _ _ => by first | (simp only [eval]; done) | (simp only [eval]; rfl)
    · cases h
  | .fstr es, X, C, e, W, al, F, g, h => by
    unfold chkE at h
    split at h
    · rename_i xs pos
      rw [Bool.and_eq_true] at h
      have hj := chkJ_ok hk es al F g h.1
      match xs, h.2, hj with
      | v1 :: v2 :: rest, _, hj =>
        exact (Ok.plain g (fun ξ => by
          obtain ⟨ts, j1, j2, j3⟩ := hj ξ
          exact e_joined j1 j2 j3) (fun _ => rfl)).cast fun _ _ => by first | (simp only [eval]; done) | (simp only [eval]; rfl)
      | [], h2, _ => simp at h2
      | [_], h2, _ => simp at h2
    · cases h
  | .glb v, X, C, e, W, al, F, g, h => by
    unfold chkE at h
    split at h
    · obtain ⟨q1, ⟨u, y, q2, q3, q4⟩, q5⟩ := isCst_spec F h
      exact (Ok.plain g (fun ξ => e_cst (pe_glob q1 q2 q3 q5) fun ρ H => q4 ξ ρ H) (fun _ => rfl)).cast fun _ _ => by first | (simp only [eval]; done) | (simp only [eval]; rfl)
    · cases h
  | .cmeth c f es, X, C, e, W, al, F, g, h => by
    unfold chkE at h
    split at h
    · rename_i x xp m ap xs pos
      simp only [Bool.and_eq_true, decide_eq_true_eq] at h
      obtain ⟨⟨⟨⟨⟨h1, h2⟩, h3⟩, h4⟩, h5⟩, h6⟩ := h
      obtain ⟨q1, q2, _, q4⟩ := isCl_spec F h1
      have M := al.cm _ (F.cm _ h2)
      have hs := chkL_star h3
      have ha := chkL_ok hk es al F g h3
      cases xs with
      | nil => cases h4
      | cons y t =>
        rw [List.all_cons, Bool.and_eq_true] at hs
        exact (Ok.plain g (fun ξ => e_cmeth (N := N.un ξ) (g ξ) (al.T ξ) (by omega) (⟨M.ex⟩ : ClM (N.un ξ) G fa c m f) (pe_glob q1 q2 rfl q4) (ha ξ) (star_cons hs.1) (back_star hs.2) (methText rfl (by rw [List.all_cons, hs.1, hs.2]; rfl) h5 h6)) (fun _ => rfl)).cast fun _ _ => by first | (simp only [eval]; done) | (simp only [eval]; rfl)
    · cases h
  | .callK f es ks ord, X, C, e, W, al, F, g, h => by
    unfold chkE at h
    split at h
    · rename_i x p xs kw kws pos
      simp only [Bool.and_eq_true, decide_eq_true_eq] at h
      obtain ⟨⟨⟨⟨⟨h1, h2⟩, h3⟩, h4⟩, h5⟩, h6⟩ := h
      obtain ⟨q1, q2, ⟨d, q3⟩, q4⟩ := isFn_spec F h1
      have hs := chkL_star h2
      have ha := chkL_ok hk es al F g h2
      have hw := chkK_ok hk ks (kws := kw :: kws) al F g h3
      have B := al.kb _ (F.kl _ h5)
      refine (Ok.plain g (fun ξ => e_callK (N := N.un ξ) (g ξ) (al.T ξ) (by omega) q3 q1 q2 (ha ξ) (hw ξ) q4 (fun e r he => by subst he; exact star_cons (by rw [List.all_cons, Bool.and_eq_true] at hs; exact hs.1)) ?_ (fun he => ?_) (kw_all h4) (kw_names) (a := es.len) (b := ks.len) (fun us ws l1 l2 => B us ws l1 (by rw [l2]; exact h6))) (fun _ => rfl)).cast fun _ _ => by first | (simp only [eval]; done) | (simp only [eval]; rfl)
      · rw [back_star hs, Bool.false_or]
        exact kw_none h4
      · subst he
        cases es with
        | cons _ _ => unfold chkL at h2; cases h2
        | nil => exact fun _ _ => by simp only [evalL]
    · cases h
  | .dct _ _, X, C, e, W, al, F, g, h | .slc _ _ _, X, C, e, W, al, F, g, h | .newK _ _ _, X, C, e, W, al, F, g, h | .methK _ _ _ _, X, C, e, W, al, F, g, h | .comp2 _ _ _ _ _ _ _ _ _ _, X, C, e, W, al, F, g, h => by
    unfold chkE at h; cases h
theorem chkL_ok (hk : 2 * k + 1 ≤ kk) : ∀ (es : IEs) {X : Cx} {C : CC} {xs : List Expr} {W : WX}, All X.prog X.w X.mg X.base N G fa fd ps k → Fits C N G fa X → (∀ ξ, Good (N.un ξ) X W kk) → chkL C es xs = true → ∀ ξ, PA X xs (tA (N.un ξ) n W (evalL G (callN G k) n es))
  | .nil, X, C, xs, W, al, F, g, h, ξ => by
    unfold chkL at h
    cases xs with
    | cons _ _ => cases h
    | nil =>
      have : evalL G (callN G k) n .nil = fun _ S => .ok [] S := funext fun _ => funext fun _ => by simp only [evalL]
      rw [this]; exact a_nil
  | .cons a r, X, C, xs, W, al, F, g, h, ξ => by
    unfold chkL at h
    cases xs with
    | nil => cases h
    | cons x t =>
      simp only [Bool.and_eq_true] at h
      have ha := chkE_ok hk a al F g h.1.1
      have hr := chkL_ok hk r al F g h.2 ξ
      have : evalL G (callN G k) n (.cons a r) = aCons (eval G (callN G k) n a) (evalL G (callN G k) n r) := funext fun _ => funext fun _ => by simp only [evalL, aCons]
      rw [this]
      exact a_cons (ha ξ).1 hr (star_cons h.1.2)
theorem chkK_ok (hk : 2 * k + 1 ≤ kk) : ∀ (es : IEs) {X : Cx} {C : CC} {kws : List Keyword} {W : WX}, All X.prog X.w X.mg X.base N G fa fd ps k → Fits C N G fa X → (∀ ξ, Good (N.un ξ) X W kk) → chkL C es (kws.map (·.value)) = true → ∀ ξ, PK X kws (tA (N.un ξ) n W (evalL G (callN G k) n es))
  | .nil, X, C, kws, W, al, F, g, h, ξ => by
    unfold chkL at h
    cases kws with
    | cons _ _ => cases h
    | nil =>
      have : evalL G (callN G k) n .nil = fun _ S => .ok [] S := funext fun _ => funext fun _ => by simp only [evalL]
      rw [this]; exact k_nil
  | .cons a r, X, C, kws, W, al, F, g, h, ξ => by
    unfold chkL at h
    cases kws with
    | nil => cases h
    | cons x t =>
      rw [List.map_cons] at h
      simp only [Bool.and_eq_true] at h
      have ha := chkE_ok hk a al F g h.1.1
      have hr := chkK_ok hk r al F g h.2 ξ
      have : evalL G (callN G k) n (.cons a r) = aCons (eval G (callN G k) n a) (evalL G (callN G k) n r) := funext fun _ => funext fun _ => by simp only [evalL, aCons]
      rw [this]
      obtain ⟨nm, v, kp⟩ := x
      exact k_cons (ha ξ).1 hr
theorem chkAnd_ok (hk : 2 * k + 1 ≤ kk) : ∀ (es : IEs) {X : Cx} {C : CC} {xs : List Expr} {W : WX} {pos : Pos}, All X.prog X.w X.mg X.base N G fa fd ps k → Fits C N G fa X → (∀ ξ, Good (N.un ξ) X W kk) → chkL C es xs = true → (!xs.isEmpty) = true → OkW N n X W (.BoolOp .And xs pos) (evalAnd G (callN G k) n es)
  | .nil, X, C, xs, W, pos, al, F, g, h, hne => by
    unfold chkL at h
    cases xs with
    | cons _ _ => cases h
    | nil => cases hne
  | .cons a r, X, C, xs, W, pos, al, F, g, h, hne => by
    unfold chkL at h
    cases xs with
    | nil => cases h
    | cons x t =>
      simp only [Bool.and_eq_true] at h
      have ha := chkE_ok hk a al F g h.1.1
      cases r with
      | nil =>
        have ht : t = [] := by
          have := h.2
          unfold chkL at this
          cases t with
          | nil => rfl
          | cons _ _ => cases this
        subst ht
        refine OkW.cast (f := eval G (callN G k) n a) (fun ξ => ⟨e_one (ha ξ).1, w_and1 (ha ξ).2⟩) fun ps S => ?_
        simp only [evalAnd]
        cases eval G (callN G k) n a ps S <;> rfl
      | cons b r' =>
        cases t with
        | nil => have := h.2; unfold chkL at this; cases this
        | cons y t' =>
          have hr := chkAnd_ok hk (.cons b r') (pos := pos) al F g h.2 rfl
          refine OkW.cast (f := fun ps S => (eval G (callN G k) n a ps S).bind fun v S1 => (match v.truth S1 with
            | some true => evalAnd G (callN G k) n (.cons b r') ps S1
            | some false => .ok v S1
            | none => .stuck)) (fun ξ => ⟨e_and (g ξ) (ha ξ).1 (hr ξ).1, w_and (ha ξ).2 (hr ξ).2⟩) fun ps S => ?_
          rw [evalAnd]
          try rfl
theorem chkOr_ok (hk : 2 * k + 1 ≤ kk) : ∀ (es : IEs) {X : Cx} {C : CC} {xs : List Expr} {W : WX} {pos : Pos}, All X.prog X.w X.mg X.base N G fa fd ps k → Fits C N G fa X → (∀ ξ, Good (N.un ξ) X W kk) → chkL C es xs = true → (!xs.isEmpty) = true → OkW N n X W (.BoolOp .Or xs pos) (evalOr G (callN G k) n es)
  | .nil, X, C, xs, W, pos, al, F, g, h, hne => by
    unfold chkL at h
    cases xs with
    | cons _ _ => cases h
    | nil => cases hne
  | .cons a r, X, C, xs, W, pos, al, F, g, h, hne => by
    unfold chkL at h
    cases xs with
    | nil => cases h
    | cons x t =>
      simp only [Bool.and_eq_true] at h
      have ha := chkE_ok hk a al F g h.1.1
      cases r with
      | nil =>
        have ht : t = [] := by
          have := h.2
          unfold chkL at this
          cases t with
          | nil => rfl
          | cons _ _ => cases this
        subst ht
        refine OkW.cast (f := eval G (callN G k) n a) (fun ξ => ⟨e_one (ha ξ).1, w_or1 (ha ξ).2⟩) fun ps S => ?_
        simp only [evalOr]
        cases eval G (callN G k) n a ps S <;> rfl
      | cons b r' =>
        cases t with
        | nil => have := h.2; unfold chkL at this; cases this
        | cons y t' =>
          have hr := chkOr_ok hk (.cons b r') (pos := pos) al F g h.2 rfl
          refine OkW.cast (f := fun ps S => (eval G (callN G k) n a ps S).bind fun v S1 => (match v.truth S1 with
            | some false => evalOr G (callN G k) n (.cons b r') ps S1
            | some true => .ok v S1
            | none => .stuck)) (fun ξ => ⟨e_or (g ξ) (ha ξ).1 (hr ξ).1, w_or (ha ξ).2 (hr ξ).2⟩) fun ps S => ?_
          rw [evalOr]
          try rfl
theorem chkF_ok (hk : 2 * k + 1 ≤ kk) : ∀ (es : IEs) {X : Cx} {C : CC} {xs : List Expr}, All X.prog X.w X.mg X.base N G fa fd ps k → Fits C N G fa X → (∀ ξ, Good (N.un ξ) X W0 kk) → chkF C es xs = true → PTs X xs (tTx N n (testL G (callN G k) n es))
  | .nil, X, C, xs, al, F, g, h => by
    unfold chkF at h
    cases xs with
    | cons _ _ => cases h
    | nil =>
      have : testL G (callN G k) n .nil = fun _ S => .ok true S := funext fun _ => funext fun _ => by simp only [testL]
      rw [this]; exact tTx_nil
  | .cons a r, X, C, xs, al, F, g, h => by
    unfold chkF at h
    split at h
    · rename_i x
      rw [Bool.and_eq_true] at h
      have ha := chkE_ok hk a (W := W0) al F g h.1
      have : testL G (callN G k) n (.cons a r) = tst (eval G (callN G k) n a) := funext fun _ => funext fun _ => by first | (simp only [testL, tst]; done) | (simp only [testL, tst]; rfl)
      rw [this]
      exact tTxOk fun ξ => (ha ξ).2
    · cases h
theorem chkI_ok (hk : 2 * k + 1 ≤ kk) : ∀ (i : II) {X : Cx} {C : CC} {it tg : Expr} {W : WX}, All X.prog X.w X.mg X.base N G fa fd ps k → Fits C N G fa X → (∀ ξ, Good (N.un ξ) X W kk) → chkI C i it tg = true → ∀ ξ, PI X tg it (tI (N.un ξ) n W (evalI G (callN G k) n i))
  | .e a, X, C, it, tg, W, al, F, g, h, ξ => by
    unfold chkI at h
    rw [Bool.and_eq_true] at h
    have ha := chkE_ok hk a al F g h.1
    have : evalI G (callN G k) n (.e a) = fun ps S => (eval G (callN G k) n a ps S).bind fun v S1 => PyI.ofO (walkOf v S1) S1 := funext fun _ => funext fun _ => by first | (simp only [evalI]; done) | (simp only [evalI]; rfl)
    rw [this]
    exact i_e (g ξ).hK (ha ξ).1
  | .rng es, X, C, it, tg, W, al, F, g, h, ξ => by
    unfold chkI at h
    split at h
    · rename_i x p xs pos
      simp only [Bool.and_eq_true, decide_eq_true_eq] at h
      obtain ⟨⟨⟨h1, h2⟩, h3⟩, h4⟩ := h
      subst h1
      obtain ⟨q1, q2, q3, q4⟩ := isNo_spec F h2
      have ha := chkL_ok hk es al F g h3 ξ
      have hs := chkL_star h3
      have hl := chkL_len h3
      have : evalI G (callN G k) n (.rng es) = fun ps S => (evalL G (callN G k) n es ps S).bind fun vs S1 => PyI.ofO ((rangeOf vs).map fun xs => { xs := xs }) S1 := funext fun _ => funext fun _ => by first | (simp only [evalI]; done) | (simp only [evalI]; rfl)
      rw [this]
      rw [Bool.or_eq_true, decide_eq_true_eq, decide_eq_true_eq] at h4
      match xs, h4, ha, hs, hl with
      | [a], _, ha, hs, hl =>
        exact i_rng1 q1 q2 ha (star_cons (by simpa using hs)) fun ps S vs S' e => by rw [evalL_len es e, hl]; rfl
      | [a, b], _, ha, hs, hl =>
        have z : noStar a = true ∧ noStar b = true := by simpa using hs
        exact i_rng2 q1 q2 ha (by rw [star_cons z.1, star_cons z.2]; rfl) (star_cons z.2) fun ps S vs S' e => by rw [evalL_len es e, hl]; rfl
      | [], h4, _, _, _ => simp at h4
      | _ :: _ :: _ :: _, h4, _, _, _ => simp at h4
    · cases h
  | .enum a, X, C, it, tg, W, al, F, g, h, ξ => by
    unfold chkI at h
    split at h
    · rename_i x p y pos
      simp only [Bool.and_eq_true, decide_eq_true_eq] at h
      obtain ⟨⟨⟨⟨h1, h2⟩, h3⟩, h4⟩, h5⟩ := h
      subst h1
      obtain ⟨q1, q2, q3, q4⟩ := isNo_spec F h2
      have ha := chkE_ok hk a al F g h3
      have : evalI G (callN G k) n (.enum a) = fun ps S => (eval G (callN G k) n a ps S).bind fun v S1 => PyI.ofO (enumW v S1) S1 := funext fun _ => funext fun _ => by first | (simp only [evalI]; done) | (simp only [evalI]; rfl)
      rw [this]
      unfold isTup at h5
      split at h5
      · exact i_enum q1 q2 (ha ξ).1 (star_cons h4)
      · cases h5
    · cases h
  | .zip a b, X, C, it, tg, W, al, F, g, h, ξ => by
    unfold chkI at h
    split at h
    · rename_i x p y z pos
      simp only [Bool.and_eq_true, decide_eq_true_eq] at h
      obtain ⟨⟨⟨⟨⟨⟨h1, h2⟩, h3⟩, h3'⟩, h4⟩, h4'⟩, h5⟩ := h
      subst h1
      obtain ⟨q1, q2, q3, q4⟩ := isNo_spec F h2
      have ha := chkE_ok hk a al F g h3
      have hb := chkE_ok hk b al F g h3'
      have : evalI G (callN G k) n (.zip a b) = fun ps S => (eval G (callN G k) n a ps S).bind fun v S1 => (eval G (callN G k) n b ps S1).bind fun u S2 => PyI.ofO (zipW v u S2) S2 := funext fun _ => funext fun _ => by first | (simp only [evalI]; done) | (simp only [evalI]; rfl)
      rw [this]
      unfold isTup at h5
      split at h5
      · exact i_zip q1 q2 (ha ξ).1 (hb ξ).1 (star_cons h4) (star_cons h4') (back_star (by simp [h4']))
      · cases h5
    · cases h
  | .items a, X, C, it, tg, W, al, F, g, h, ξ => by
    unfold chkI at h; cases h
theorem chkJ_ok (hk : 2 * k + 1 ≤ kk) : ∀ (es : IEs) {X : Cx} {C : CC} {xs : List Expr} {W : WX}, All X.prog X.w X.mg X.base N G fa fd ps k → Fits C N G fa X → (∀ ξ, Good (N.un ξ) X W kk) → chkJ C es xs = true →
    ∀ ξ, ∃ ts, PJ X xs ts ∧ fF (N.un ξ) n W ts (evalF G (callN G k) n es) ∧ ∀ acc ps S out S', acc.length ≤ sizeLine → evalF G (callN G k) n es acc ps S = .ok out S' → out.length ≤ sizeLine
  | .nil, X, C, xs, W, al, F, g, h, ξ => by
    unfold chkJ at h
    cases xs with
    | cons _ _ => cases h
    | nil =>
      have : evalF G (callN G k) n .nil = fun acc _ S => .ok acc S := funext fun _ => funext fun _ => funext fun _ => by simp only [evalF]
      rw [this]
      exact ⟨[], .nil, fF_nil, fun acc ps S out S' h1 h2 => by cases h2; exact h1⟩
  | .cons a r, X, C, xs, W, al, F, g, h, ξ => by
    unfold chkJ at h
    cases xs with
    | nil => cases h
    | cons x t =>
      rw [Bool.and_eq_true] at h
      obtain ⟨h1, h2⟩ := h
      obtain ⟨ts, j1, j2, j3⟩ := chkJ_ok hk r al F g h2 ξ
      have e0 : evalF G (callN G k) n (.cons a r) = fStep (eval G (callN G k) n a) (evalF G (callN G k) n r) := funext fun _ => funext fun _ => funext fun _ => by first | (simp only [evalF, fStep]; done) | (simp only [evalF, fStep]; rfl)
      rw [e0]
      split at h1
      · rw [Bool.and_eq_true, decide_eq_true_eq] at h1
        obtain ⟨h0, h1⟩ := h1
        subst h0
        have ha := chkE_ok hk a al F g h1
        exact ⟨_, .cons (pe_fmt (ha ξ).1) j1, fF_fmt j2, fStep_z j3⟩
      · rename_i s _ _
        split at h1
        · rename_i z
          have hz := of_decide_eq_true h1
          subst hz
          have e1 : eval G (callN G k) n (.cst (.str s)) = fun _ S => .ok (.str s) S := funext fun _ => funext fun _ => by simp only [eval]
          refine ⟨_, .cons pe_str j1, ?_, fStep_z j3⟩
          rw [e1]
          exact fF_txt j2
        · cases h1
      · cases h1
end
end
end PyI
set_option Elab.async false
set_option linter.all false
set_option maxRecDepth 100000
set_option maxHeartbeats 8000000
/-! PyY: statements -/
namespace PyI
open PySem PySem.Spec PyProof.Rows L2
def isDoc : Stmt → Bool
  | .Expr (.Constant (.str _) _ _) _ => true
  | _ => false
/-- the module's kind of block -/
def isFun (sc : Scope) : Bool := (if sc.kind.isAnnotationScope then ScopeKind.function else sc.kind) == .function
/-- name = [..] as one whole -/
def swB (sc : Scope) (x : Str) (p : Pos) (v : Expr) : Bool := match v with
  | .ListComp _ _ s vp => isFun sc && sc.names.lookup x == some .local && p.line == vp.line && !(s.names.any fun (n, k) => n == x && (k == .local || k == .cell))
  | .SetComp _ _ s vp => isFun sc && sc.names.lookup x == some .local && p.line == vp.line && !(s.names.any fun (n, k) => n == x && (k == .local || k == .cell))
  | .DictComp _ _ _ s vp => isFun sc && sc.names.lookup x == some .local && p.line == vp.line && !(s.names.any fun (n, k) => n == x && (k == .local || k == .cell))
  | _ => false
theorem swB_ok {x : Str} {p : Pos} {v : Expr} {l : Nat} {env : Env} : swapsWith v (some (.Name x p)) l env = pure (swB env.scope x p v) := by
  cases v <;> rfl
def isLC : Expr → Bool
  | .ListComp .. => true
  | _ => false
/-- x, y = a, b with stores from the right -/
def parB (sc : Scope) (ts vs : List Expr) : Bool := match ts, vs with
  | [.Name x px, .Name y py], [a, b] => isFun sc && noStar a && noStar b && decide (sc.names.lookup x = some .local) && decide (sc.names.lookup y = some .local) && py.line == px.line && !(x == y) && !([a, b].all (foldedForSure 8)) && !([a, b].all (constantsAlone 8))
  | [.Name x px, .Name y py, .Name z pz], [a, b, c] => isFun sc && noStar a && noStar b && noStar c && decide (sc.names.lookup x = some .local) && decide (sc.names.lookup y = some .local) && decide (sc.names.lookup z = some .local) && py.line == px.line && pz.line == px.line && !(x == y) && !(x == z) && !(y == z) && !([a, b, c].all (foldedForSure 8)) && !([a, b, c].all (constantsAlone 8))
  | _, _ => false
def allLoc (sc : Scope) (ts : List Expr) : Bool := ts.all fun
  | .Name x _ => sc.names.lookup x == some .local
  | _ => false
def parNo (sc : Scope) (ts vs : List Expr) : Bool := (vs.all (foldedForSure 8) || !(ts.length == 2 || ts.length == 3)) || !allLoc sc ts
theorem filterMap_all {α β : Type} {f : α → Option β} : ∀ {l : List α}, (l.filterMap f).length = l.length → ∀ a ∈ l, (f a).isSome = true
  | [], _, a, h => by cases h
  | x :: t, e, a, h => by
    rw [List.filterMap_cons] at e
    cases hx : f x with
    | none =>
      rw [hx] at e
      have := List.length_filterMap_le f t
      simp at e; omega
    | some y =>
      rw [hx] at e
      have e' : (t.filterMap f).length = t.length := by simpa using e
      rcases List.mem_cons.mp h with h | h
      · subst h; rw [hx]; rfl
      · exact filterMap_all e' a h
theorem parNo_ok {ts vs : List Expr} {a c : Nat} {b d : Pos} {env : Env} (h : parNo env.scope ts vs = true) : swappedStores [.Tuple ts a b] (.Tuple vs c d) env = pure none := by
  unfold swappedStores
  unfold parNo at h
  rw [Bool.or_eq_true] at h
  rw [Bool.or_eq_true] at h
  dsimp only [pure_bind]
  rcases h with (h | h) | h
  · rw [if_pos h]
    split <;> try rfl
    split <;> try rfl
    split <;> rfl
  · rw [h]; rfl
  · split <;> try rfl
    split <;> try rfl
    rw [if_pos]
    rw [Bool.or_eq_true]
    left
    rw [bne_iff_ne]
    intro z
    have q := filterMap_all z
    rw [Bool.not_eq_true'] at h
    have h2 : allLoc env.scope ts = true := by
      unfold allLoc
      rw [List.all_eq_true]
      intro t ht
      have := q t ht
      cases t <;> first | (exact absurd this (by intro y; cases y)) | skip
      dsimp only at this
      split at this
      · rename_i y
        rw [Bool.and_eq_true] at y
        exact y.1
      · cases this
    rw [h2] at h; cases h
theorem any_star (vs : List Expr) : (vs.any fun | .Starred .. => true | _ => false) = vs.any fun e => !noStar e := by
  congr 1
  funext e
  cases e <;> rfl
theorem par2_ok {x y : Str} {px py : Pos} {e1 e2 : Expr} {a c : Nat} {b d : Pos} {env : Env} (h : parB env.scope [.Name x px, .Name y py] [e1, e2] = true) : swappedStores [.Tuple [.Name x px, .Name y py] a b] (.Tuple [e1, e2] c d) env = pure (some [x, y]) := by
  unfold parB at h
  simp only [Bool.and_eq_true, decide_eq_true_eq, Bool.not_eq_true'] at h
  obtain ⟨⟨⟨⟨⟨⟨⟨⟨h1, h2⟩, h3⟩, h4⟩, h5⟩, h6⟩, h7⟩, h8⟩, h9⟩ := h
  have k1 : env.kindOf x = some .local := h4
  have k2 : env.kindOf y = some .local := h5
  have bk : (env.blockKind != .function) = false := by
    show (!(env.blockKind == .function)) = false
    have : (env.blockKind == .function) = true := h1
    rw [this]; rfl
  have st : ([e1, e2].any fun | .Starred .. => true | _ => false) = false := by
    rw [any_star]; simp [h2, h3]
  have h6' : (py.line == px.line) = true := h6
  have e0 : ([Expr.Name x px, Expr.Name y py].filterMap fun
    | .Name id pos => if env.kindOf id == some .local && pos.line == px.line then some id else none
    | _ => none) = [x, y] := by
    simp only [List.filterMap_cons, List.filterMap_nil, k1, k2, h6', beq_self_eq_true, Bool.and_self, if_true]
  have er : [x, y].eraseDups = [x, y] := by
    have : (x == y) = false := h7
    have h7' : (y == x) = false := by
      rw [beq_eq_false_iff_ne] at this ⊢
      exact fun z => this z.symm
    simp [List.eraseDups_cons, h7']
  unfold swappedStores
  dsimp only [pure_bind]
  rw [bk, h8, h9]
  refine (if_neg (by simp)).trans ?_
  refine (if_neg (fun q => ?_)).trans ?_
  · have q' : ([e1, e2].any fun | .Starred .. => true | _ => false) = true := q
    rw [st] at q'; cases q'
  · generalize hf : List.filterMap _ [Expr.Name x px, Expr.Name y py] = l
    have el : l = [x, y] := by rw [← hf]; exact e0
    subst el
    rw [er]
    rfl
theorem par3_ok {x y z : Str} {px py pz : Pos} {e1 e2 e3 : Expr} {a c : Nat} {b d : Pos} {env : Env} (h : parB env.scope [.Name x px, .Name y py, .Name z pz] [e1, e2, e3] = true) : swappedStores [.Tuple [.Name x px, .Name y py, .Name z pz] a b] (.Tuple [e1, e2, e3] c d) env = pure (some [x, y, z]) := by
  unfold parB at h
  simp only [Bool.and_eq_true, decide_eq_true_eq, Bool.not_eq_true'] at h
  obtain ⟨⟨⟨⟨⟨⟨⟨⟨⟨⟨⟨⟨⟨h1, h2⟩, h3⟩, h3'⟩, h4⟩, h5⟩, h5'⟩, h6⟩, h6'⟩, h7⟩, h7'⟩, h7''⟩, h8⟩, h9⟩ := h
  have k1 : env.kindOf x = some .local := h4
  have k2 : env.kindOf y = some .local := h5
  have k3 : env.kindOf z = some .local := h5'
  have bk : (env.blockKind != .function) = false := by
    show (!(env.blockKind == .function)) = false
    have : (env.blockKind == .function) = true := h1
    rw [this]; rfl
  have st : ([e1, e2, e3].any fun | .Starred .. => true | _ => false) = false := by
    rw [any_star]; simp [h2, h3, h3']
  have q6 : (py.line == px.line) = true := h6
  have q7 : (pz.line == px.line) = true := h6'
  have e0 : ([Expr.Name x px, Expr.Name y py, Expr.Name z pz].filterMap fun
    | .Name id pos => if env.kindOf id == some .local && pos.line == px.line then some id else none
    | _ => none) = [x, y, z] := by
    simp only [List.filterMap_cons, List.filterMap_nil, k1, k2, k3, q6, q7, beq_self_eq_true, Bool.and_self, if_true]
  have er : [x, y, z].eraseDups = [x, y, z] := by
    have sy : ∀ {u v : Str}, (u == v) = false → (v == u) = false := fun {u v} w => by
      rw [beq_eq_false_iff_ne] at w ⊢
      exact fun z => w z.symm
    have a1 := sy h7
    have a2 := sy h7'
    have a3 := sy h7''
    simp [List.eraseDups_cons, a1, a2, a3]
  unfold swappedStores
  dsimp only [pure_bind]
  rw [bk, h8, h9]
  refine (if_neg (by simp)).trans ?_
  refine (if_neg (fun q => ?_)).trans ?_
  · have q' : ([e1, e2, e3].any fun | .Starred .. => true | _ => false) = true := q
    rw [st] at q'; cases q'
  · generalize hf : List.filterMap _ [Expr.Name x px, Expr.Name y py, Expr.Name z pz] = l
    have el : l = [x, y, z] := by rw [← hf]; exact e0
    subst el
    rw [er]
    rfl
mutual
def chkS (C : CC) : IS → Stmt → Bool
  | .asg i e, s => (match s with
    | .Assign [.Name x p] v _ => decide (C.N[i]? = some x) && isLoc C x && chkE C e v && (noComp v || !swB C.sc x p v || (isLC v && (match e with
      | .comp .. => true
      | _ => false)))
    | _ => false)
  | .asgT is e, s => (match s with
    | .Assign [tg] v _ => chkP C (.tp is) tg && chkE C e v && (match v with
      | .Tuple vs _ _ => (match tg with
        | .Tuple ts _ _ => (parNo C.sc ts vs || parB C.sc ts vs) && decide is.Nodup && (match e with
          | .tup _ => true
          | _ => false)
        | _ => false)
      | _ => noComp v && noTup v)
    | _ => false)
  | .asgS a i e, s => (match s with
    | .Assign [.Subscript x y _] v _ => chkE C a x && chkE C i y && chkE C e v && noComp v && noSlice y
    | _ => false)
  | .asgA a m e, s => (match s with
    | .Assign [.Attribute x f _] v _ => chkE C a x && decide (C.fl[m]? = some f) && chkE C e v
    | _ => false)
  | .aug i op e, s => (match s with
    | .AugAssign (.Name x _) o v _ => decide (C.N[i]? = some x) && isLoc C x && decide (op = o) && chkE C e v
    | _ => false)
  | .ex e, s => (match s with
    | .Expr x _ => chkE C e x && noComp x
    | _ => false)
  | .ret e, s => (match s with
    | .Return (some x) _ => chkE C e x
    | _ => false)
  | .retN, s => (match s with
    | .Return none _ => true
    | _ => false)
  | .ifs c a b, s => (match s with
    | .If x y z _ => chkE C c x && chkSs C a y && chkSs C b z
    | _ => false)
  | .for_ p it b, s => (match s with
    | .For tg iter body [] _ => chkP C p tg && chkI C it iter tg && chkSs C b body
    | _ => false)
  | .whl c b, s => (match s with
    | .While x body [] _ => chkE C c x && chkSs C b body
    | _ => false)
  | .pass, s => (match s with
    | .Pass _ => true
    | s => isDoc s)
  | .brk, s => (match s with
    | .Break _ => true
    | _ => false)
  | .cnt, s => (match s with
    | .Continue _ => true
    | _ => false)
  | .tryE b _, s => (match s with
    | .Try body (_ :: _) [] [] _ => chkSs C b body
    | _ => false)
  | .nope, _ => true
  | _, _ => false
def chkSs (C : CC) : ISs → List Stmt → Bool
  | .nil, xs => xs.isEmpty
  | .cons a r, xs => (match xs with
    | x :: t => chkS C a x && chkSs C r t
    | [] => false)
end
theorem sw_no {v : Expr} {tg : Option Expr} {l : Nat} {env : Env} (h : noComp v = true) : swapsWith v tg l env = pure false := by
  cases v <;> first | rfl | cases h
theorem sw_sole {v tg : Expr} {l : Nat} {env : Env} (h : noComp v = true) : swapsWithSole [tg] v l env = pure false := sw_no (tg := some tg) h
theorem stores_no {tg v : Expr} {env : Env} (h : noTup v = true) : swappedStores [tg] v env = pure none := by
  cases v <;> first | (cases tg <;> rfl) | cases h
theorem augs_no {a i v : Expr} {p : Pos} {env : Env} : swappedStores [.Subscript a i p] v env = pure none := by
  cases v <;> rfl
theorem sw_attr {v x : Expr} {f : Str} {p : Pos} {l : Nat} {env : Env} : swapsWith v (some (.Attribute x f p)) l env = pure false := by
  cases v <;> rfl
theorem assign_sub {x y : Expr} {p : Pos} {env : Env} (h : noSlice y = true) : ∀ v, assign (.Subscript x y p) env v = (do
      let ov ← holding [v] (PySem.eval x env)
      let iv ← holding [v, ov] (PySem.eval y env)
      standAt p
      holding [v, ov, iv] (setItem ov iv v)
      release [v, ov, iv] []) := fun v => by
  cases y <;> first | rfl | cases h
theorem each_one {tg : Expr} {env : Env} (h : noStar tg = true) : (assignEach [tg] env).map (·.2) = [assign tg env] := by
  cases tg <;> first | rfl | cases h
section
variable {N : Nm} {G : Tab} {fa : Nat → Addr} {fd : Nat → FuncData} {ps : Nat → List Str} {k kk n : Nat}
def OkS (N : Nm) (n : Nat) (X : Cx) (W : WX) (s : Stmt) (f : Ev → Store → SR) : Prop := ∀ ξ, PS X s (tS (N.un ξ) n W f)
theorem OkS.cast {X : Cx} {W : WX} {s : Stmt} {f f' : Ev → Store → SR} (h : OkS N n X W s f) (q : ∀ ps S, f' ps S = f ps S) : OkS N n X W s f' := by
  have : f' = f := funext fun ps => funext fun S => q ps S
  rw [this]; exact h
theorem chkP_star {C : CC} {p : Pat} {tg : Expr} (h : chkP C p tg = true) : noStar tg = true := by
  unfold chkP at h
  split at h <;> first | rfl | cases h
mutual
theorem chkS_ok (hk : 2 * k + 1 ≤ kk) : ∀ (ir : IS) {X : Cx} {C : CC} {s : Stmt} {W : WX}, All X.prog X.w X.mg X.base N G fa fd ps k → Fits C N G fa X → (∀ ξ, Good (N.un ξ) X W kk) → PassesOwn (model X.prog X.w) X.A X.env X.xe → chkS C ir s = true → OkS N n X W s (exec G (callN G k) n ir)
  | .asg i e, X, C, s, W, al, F, g, hp, h => by
    unfold chkS at h
    split at h
    · rename_i x p v pos
      simp only [Bool.and_eq_true, decide_eq_true_eq] at h
      obtain ⟨⟨⟨h1, h2⟩, h3⟩, h4⟩ := h
      have he := chkE_ok (n := n) hk e al F g h3
      have hl := isLoc_spec F h2
      have hsw : swapsWith v (some (.Name x p)) pos.line X.env = pure (swB C.sc x p v) := by rw [← F.sc]; exact swB_ok
      by_cases hb : swB C.sc x p v = true
      · rw [hb] at hsw h4
        rw [Bool.not_true, Bool.or_false, Bool.or_eq_true] at h4
        rcases h4 with h4 | h4
        · rw [sw_no h4] at hsw
          exact absurd hb (by cases v <;> first | (intro z; cases z) | cases h4)
        · rw [Bool.and_eq_true] at h4
          cases e <;> first | cases h4.2 | skip
          rename_i fr own elt pt it ifs
          have hll : X.env.scope.names.lookup x = some .local := by
            unfold swB at hb
            rw [F.sc]
            split at hb
            · simp only [Bool.and_eq_true] at hb
              exact eq_of_beq hb.1.1.2
            · simp only [Bool.and_eq_true] at hb
              exact eq_of_beq hb.1.1.2
            · simp only [Bool.and_eq_true] at hb
              exact eq_of_beq hb.1.1.2
            · cases hb
          unfold chkE at h3
          split at h3
          · rename_i x' tg iter cs scope pos'
            simp only [Bool.and_eq_true] at h3
            obtain ⟨⟨⟨⟨⟨h1', h2'⟩, h3'⟩, h4'⟩, h5'⟩, h6'⟩ := h3
            refine OkS.cast (fun ξ => s_setLc (N := N.un ξ) (g ξ) (fr := fr) (p := pt) (own := ownPs C own) (fi := evalI G (callN G k) n it) (ft := testL G (callN G k) n ifs) (fe := PyI.eval G (callN G k) n elt) (by rw [F.hN]; exact h1) hll hsw (by
                rw [ownPs_snd]
                exact fun i hi => by simpa using List.all_eq_true.mp h4' i hi) (chkI_ok hk it al F g h5' ξ) (blkOk_by (by rw [F.hN, F.sc]; exact h1'))
              (fun s H Ca cl fp => chkP_ok F.blk (g ξ).nd (g ξ).calm h3')
              (fun s H Ca cl fp => chkF_ok (N := N) hk ifs (X := X.blk s H scope (compEnvC scope cl Ca X.env) fp) al F.blk (fun ξ' => (g ξ).blk ξ') h6')
              (fun s H Ca cl fp => tExOk fun ξ' => (chkE_ok (N := N) hk elt (X := X.blk s H scope (compEnvC scope cl Ca X.env) fp) (W := W0) al F.blk (fun ξ' => (g ξ).blk ξ') h2' ξ').1) (noFold (chkI_noSet h5'))) fun ps S => ?_
            rw [ownPs_snd]
            first | (simp only [exec, PyI.eval, compF]; done) | (simp only [exec, PyI.eval, compF]; rfl)
          · cases h3
      · have hb' : swB C.sc x p v = false := by simpa using hb
        rw [hb'] at hsw
        exact OkS.cast (fun ξ => s_set (g ξ) (i := i) (by rw [F.hN]; exact h1) hl.1 (he ξ).1 hsw hl.2) fun _ _ => by first | (simp only [exec]; done) | (simp only [exec]; rfl)
    · cases h
  | .ex e, X, C, s, W, al, F, g, hp, h => by
    unfold chkS at h
    split at h
    · rw [Bool.and_eq_true] at h
      have he := chkE_ok (n := n) hk e al F g h.1
      exact OkS.cast (fun ξ => s_expr (he ξ).1 (sw_no h.2)) fun _ _ => by first | (simp only [exec]; done) | (simp only [exec]; rfl)
    · cases h
  | .ret e, X, C, s, W, al, F, g, hp, h => by
    unfold chkS at h
    split at h
    · have he := chkE_ok (n := n) hk e al F g h
      exact OkS.cast (fun ξ => s_ret (he ξ).1) fun _ _ => by first | (simp only [exec]; done) | (simp only [exec]; rfl)
    · cases h
  | .retN, X, C, s, W, al, F, g, hp, h => by
    unfold chkS at h
    split at h
    · exact OkS.cast (fun ξ => s_retN) fun _ _ => by first | (simp only [exec]; done) | (simp only [exec]; rfl)
    · cases h
  | .brk, X, C, s, W, al, F, g, hp, h => by
    unfold chkS at h
    split at h
    · exact OkS.cast (fun ξ => s_brk) fun _ _ => by first | (simp only [exec]; done) | (simp only [exec]; rfl)
    · cases h
  | .cnt, X, C, s, W, al, F, g, hp, h => by
    unfold chkS at h
    split at h
    · exact OkS.cast (fun ξ => s_cnt) fun _ _ => by first | (simp only [exec]; done) | (simp only [exec]; rfl)
    · cases h
  | .nope, X, C, s, W, al, F, g, hp, h => OkS.cast (fun ξ => s_never) fun _ _ => by first | (simp only [exec]; done) | (simp only [exec]; rfl)
  | .ifs c a b, X, C, s, W, al, F, g, hp, h => by
    unfold chkS at h
    split at h
    · simp only [Bool.and_eq_true] at h
      obtain ⟨⟨h1, h2⟩, h3⟩ := h
      have hc := chkE_ok (n := n) hk c al F g h1
      have ha := chkSs_ok hk a al F g hp h2
      have hb := chkSs_ok hk b al F g hp h3
      exact OkS.cast (fun ξ => s_if (hc ξ).2 (ha ξ) (hb ξ)) fun _ _ => by first | (simp only [exec, test, tst]; done) | (simp only [exec, test, tst]; rfl)
    · cases h
  | .for_ p it b, X, C, s, W, al, F, g, hp, h => by
    unfold chkS at h
    split at h
    · simp only [Bool.and_eq_true] at h
      obtain ⟨⟨h1, h2⟩, h3⟩ := h
      have hi := chkI_ok (n := n) hk it al F g h2
      have hb := chkSs_ok hk b al F g hp h3
      exact OkS.cast (fun ξ => s_for (g ξ) hp (hi ξ) (chkP_ok F (g ξ).nd (g ξ).calm h1) (hb ξ) (noFold (chkI_noSet h2))) fun _ _ => by first | (simp only [exec]; done) | (simp only [exec]; rfl)
    · cases h
  | .whl c b, X, C, s, W, al, F, g, hp, h => by
    unfold chkS at h
    split at h
    · rw [Bool.and_eq_true] at h
      have hc := chkE_ok (n := n) hk c al F g h.1
      have hb := chkSs_ok hk b al F g hp h.2
      exact OkS.cast (fun ξ => s_while hp (hc ξ).2 (hb ξ)) fun _ _ => by first | (simp only [exec]; done) | (simp only [exec]; rfl)
    · cases h
  | .asgT is e, X, C, s, W, al, F, g, hp, h => by
    unfold chkS at h
    split at h
    · rename_i tg v pos
      simp only [Bool.and_eq_true] at h
      obtain ⟨⟨h1, h2⟩, h3⟩ := h
      have he := chkE_ok (n := n) hk e al F g h2
      have ht : ∀ ξ, PG X tg (gPat X.K (.tp is)) := fun ξ => chkP_ok F (g ξ).nd (g ξ).calm h1
      split at h3
      · rename_i vs kv pv
        split at h3
        · rename_i ts kt pt
          rw [Bool.and_eq_true, Bool.and_eq_true] at h3
          obtain ⟨⟨h3, h5⟩, h4⟩ := h3
          by_cases hn : parNo C.sc ts vs = true
          · exact OkS.cast (fun ξ => s_setT (p := .tp is) (g ξ) (he ξ).1 (ht ξ) rfl (parNo_ok (by rw [F.sc]; exact hn)) (each_one (chkP_star h1))) fun _ _ => by first | (simp only [exec]; done) | (simp only [exec]; rfl)
          · rw [Bool.or_eq_true] at h3
            have hp := h3.resolve_left hn
            cases e <;> first | cases h4 | skip
            rename_i es
            unfold chkE at h2
            dsimp only at h2
            have ha := chkL_ok (n := n) hk es al F g h2
            unfold chkP at h1
            dsimp only at h1
            have hnd := of_decide_eq_true h5
            rw [← F.sc] at hp
            have hp0 := hp
            unfold parB at hp
            split at hp
            · rename_i x px y py a b
              simp only [Bool.and_eq_true, decide_eq_true_eq, Bool.not_eq_true'] at hp
              obtain ⟨⟨⟨⟨⟨⟨⟨⟨_, _⟩, _⟩, k1⟩, k2⟩, _⟩, _⟩, _⟩, _⟩ := hp
              match is, h1, hnd with
              | [i, j], h1, hnd =>
                simp only [chkNs, Bool.and_eq_true, decide_eq_true_eq] at h1
                have hij : i ≠ j := by
                  intro z; subst z; simp at hnd
                exact OkS.cast (fun ξ => s_par (g ξ) (i := i) (j := j) (by rw [F.hN]; exact h1.1.1) (by rw [F.hN]; exact h1.2.1.1) hij k1 k2 (ha ξ) (par2_ok hp0)) fun _ _ => by first | (simp only [exec, PyI.eval]; done) | (simp only [exec, PyI.eval]; rfl)
              | [], h1, _ => cases h1
              | [_], h1, _ => simp [chkNs] at h1
              | _ :: _ :: _ :: _, h1, _ => simp [chkNs] at h1
            · rename_i x px y py z pz a b c
              simp only [Bool.and_eq_true, decide_eq_true_eq, Bool.not_eq_true'] at hp
              obtain ⟨⟨⟨⟨⟨⟨⟨⟨⟨⟨⟨⟨⟨_, _⟩, _⟩, _⟩, k1⟩, k2⟩, k3⟩, _⟩, _⟩, _⟩, _⟩, _⟩, _⟩, _⟩ := hp
              match is, h1, hnd with
              | [i, j, l], h1, hnd =>
                simp only [chkNs, Bool.and_eq_true, decide_eq_true_eq] at h1
                have hij : i ≠ j := by
                  intro z; subst z; simp at hnd
                have hil : i ≠ l := by
                  intro z; subst z; simp at hnd
                have hjl : j ≠ l := by
                  intro z; subst z; simp at hnd
                exact OkS.cast (fun ξ => s_par3 (g ξ) (i := i) (j := j) (l := l) (by rw [F.hN]; exact h1.1.1) (by rw [F.hN]; exact h1.2.1.1) (by rw [F.hN]; exact h1.2.2.1.1) hij hil hjl k1 k2 k3 (ha ξ) (par3_ok hp0)) fun _ _ => by first | (simp only [exec, PyI.eval]; done) | (simp only [exec, PyI.eval]; rfl)
              | [], h1, _ => cases h1
              | [_], h1, _ => simp [chkNs] at h1
              | [_, _], h1, _ => simp [chkNs] at h1
              | _ :: _ :: _ :: _ :: _, h1, _ => simp [chkNs] at h1
            · cases hp
        · cases h3
      · rw [Bool.and_eq_true] at h3
        exact OkS.cast (fun ξ => s_setT (p := .tp is) (g ξ) (he ξ).1 (ht ξ) (sw_no h3.1) (stores_no h3.2) (each_one (chkP_star h1))) fun _ _ => by first | (simp only [exec]; done) | (simp only [exec]; rfl)
    · cases h
  | .asgA a m e, X, C, s, W, al, F, g, hp, h => by
    unfold chkS at h
    split at h
    · simp only [Bool.and_eq_true, decide_eq_true_eq] at h
      obtain ⟨⟨h1, h2⟩, h3⟩ := h
      have ha := chkE_ok (n := n) hk a al F g h1
      have he := chkE_ok (n := n) hk e al F g h3
      obtain ⟨m1, m2⟩ := F.fl m _ h2
      subst m2
      exact OkS.cast (fun ξ => s_setA (N := N.un ξ) (g ξ) (al.cl ξ).wd (m := m) m1 (ha ξ).1 (he ξ).1 (sw_attr)) fun _ _ => by first | (simp only [exec]; done) | (simp only [exec]; rfl)
    · cases h
  | .aug i op e, X, C, s, W, al, F, g, hp, h => by
    unfold chkS at h
    split at h
    · rename_i x p o v pos
      simp only [Bool.and_eq_true, decide_eq_true_eq] at h
      obtain ⟨⟨⟨h1, h2⟩, h3⟩, h4⟩ := h
      subst h3
      have he := chkE_ok (n := n) hk e al F g h4
      have hl := isLoc_spec F h2
      exact OkS.cast (fun ξ => s_aug (g ξ) (i := i) (by rw [F.hN]; exact h1) hl.1 (he ξ).1 hl.2) fun _ _ => by first | (simp only [exec]; done) | (simp only [exec]; rfl)
    · cases h
  | .tryE b hs, X, C, s, W, al, F, g, hp, h => by
    unfold chkS at h
    split at h
    · have hb := chkSs_ok hk b (X := X.nox) (W := W0) al ⟨F.hN, F.sc, F.fn, F.cls, F.no, F.fl, F.cst, F.kl, F.cm, F.cel⟩ (fun ξ => ⟨(g ξ).hK, (g ξ).calm, (g ξ).nd, (g ξ).room, (g ξ).guards, takes00⟩) PassesOwn.never h
      exact OkS.cast (fun ξ => s_try (hb ξ)) fun _ _ => by first | (simp only [exec]; done) | (simp only [exec]; rfl)
    · cases h
  | .asgS a i e, X, C, s, W, al, F, g, hp, h => by
    unfold chkS at h
    split at h
    · simp only [Bool.and_eq_true] at h
      obtain ⟨⟨⟨⟨h1, h2⟩, h3⟩, h4⟩, h5⟩ := h
      have ha := chkE_ok (n := n) hk a al F g h1
      have hi := chkE_ok (n := n) hk i al F g h2
      have he := chkE_ok (n := n) hk e al F g h3
      exact OkS.cast (fun ξ => s_setS (g ξ) (he ξ).1 (ha ξ).1 (hi ξ).1 (sw_sole h4) augs_no (assign_sub h5)) fun _ _ => by first | (simp only [exec]; done) | (simp only [exec]; rfl)
    · cases h
  | .pass, X, C, s, W, al, F, g, hp, h => by
    unfold chkS at h
    split at h
    · exact OkS.cast (fun ξ => s_pass) fun _ _ => by first | (simp only [exec]; done) | (simp only [exec]; rfl)
    · unfold isDoc at h
      split at h
      · exact OkS.cast (fun ξ => s_doc) fun _ _ => by first | (simp only [exec]; done) | (simp only [exec]; rfl)
      · cases h
  | .augS _ _ _ _, X, C, s, W, al, F, g, hp, h | .raise _ _, X, C, s, W, al, F, g, hp, h => by
    unfold chkS at h; cases h
theorem chkSs_ok (hk : 2 * k + 1 ≤ kk) : ∀ (ir : ISs) {X : Cx} {C : CC} {s : List Stmt} {W : WX}, All X.prog X.w X.mg X.base N G fa fd ps k → Fits C N G fa X → (∀ ξ, Good (N.un ξ) X W kk) → PassesOwn (model X.prog X.w) X.A X.env X.xe → chkSs C ir s = true → ∀ ξ, PSs X s (tS (N.un ξ) n W (execs G (callN G k) n ir))
  | .nil, X, C, s, W, al, F, g, hp, h, ξ => by
    unfold chkSs at h
    cases s with
    | cons _ _ => cases h
    | nil =>
      have : execs G (callN G k) n .nil = fun ps S => .ok .next ps S := funext fun _ => funext fun _ => by simp only [execs]
      rw [this]; exact ss_nil
  | .cons a r, X, C, s, W, al, F, g, hp, h, ξ => by
    unfold chkSs at h
    cases s with
    | nil => cases h
    | cons x t =>
      simp only [Bool.and_eq_true] at h
      have ha := chkS_ok hk a al F g hp h.1 ξ
      have hr := chkSs_ok hk r al F g hp h.2 ξ
      have : execs G (callN G k) n (.cons a r) = fun ps S => (exec G (callN G k) n a ps S).seq fun ps' S' => execs G (callN G k) n r ps' S' := funext fun _ => funext fun _ => by simp only [execs]
      rw [this]
      exact ss_cons ha hr
end
end
end PyI
set_option Elab.async false
set_option linter.all false
set_option maxRecDepth 100000
set_option maxHeartbeats 8000000
/-! PyZ: defs, by their levels -/
namespace PyI
open PySem PySem.Spec PyProof.Rows L2
section
variable {P : Program} {w : World} {mg : Str → Option Value} {base : Heap} {N : Nm} {G : Tab} {fa : Nat → Addr} {fd : Nat → FuncData} {ps : Nat → List Str} {k : Nat}
theorem start_rel {ρ : List Addr} {H : Hp} {pvs : List PV} {vs : List V} {names : List Str} (r : RVs N ρ H pvs vs) (hl : vs.length ≤ names.length) : SlR N ρ H (pvs.map some ++ List.replicate (names.length - pvs.length) none) (L2.start names vs) := by
  have hlen := r.length
  refine ⟨by unfold L2.start; simp [hlen], fun i v e => ?_⟩
  by_cases hi : i < pvs.length
  · rw [List.getElem?_append_left (by simpa using hi), List.getElem?_map] at e
    rw [Option.map_eq_some_iff] at e
    obtain ⟨u, e1, e2⟩ := e
    cases e2
    obtain ⟨y, e3, ry⟩ := r.get e1
    refine ⟨y, ?_, ry⟩
    unfold L2.start
    rw [List.getElem?_append_left (by rw [List.length_map, ← hlen]; exact hi), List.getElem?_map, e3]; rfl
  · rw [List.getElem?_append_right (by simpa using hi), List.getElem?_replicate] at e
    split at e <;> cases e
/-- what a run of a def leaves -/
theorem run_post {b : Nat} {d : FnDef} {E : XK} {Q : VK} {ρ : List Addr} {S : Store} {H : Hp} {pvs : List PV} (R : Rel N ρ H S) (hb : b ≤ S.length) (p : Post N b (RVl N) E Q ρ S H (runFn G (callN G k) d b pvs S)) :
    pvs.length = d.np ∧ d.np ≤ d.nl ∧ PostS N b (fun c dd _ H => E c dd H) { nx := fun _ H' => Q .non H', rt := Q } ρ S H (execs G (callN G k) b d.body (pvs.map some ++ List.replicate (d.nl - pvs.length) none) S) := by
  unfold runFn at p
  split at p
  · rename_i hc
    refine ⟨hc.1, hc.2.1, ?_⟩
    cases hr : execs G (callN G k) b d.body (pvs.map some ++ List.replicate (d.nl - pvs.length) none) S with
    | stuck => rw [hr] at p; exact p
    | ok fl ps' S' =>
      rw [hr] at p
      dsimp only at p
      cases fl with
      | brk => exact p.elim
      | cnt => exact p.elim
      | ret v =>
        intro ρ' H' x st rv
        dsimp only at p
        split at p
        · exact p ρ' H' x st rv
        · rename_i hkp
          have eb : b = S.length := hc.2.2.resolve_left hkp
          subst eb
          cases e : fz S' S.length 6 v with
          | none => rw [e] at p; exact p.elim
          | some v' =>
            rw [e] at p
            obtain ⟨c1, c2⟩ := st.cut (n := S.length) R
            have q := fz_rel st.rel S.length 6 e rv
            rw [c1] at q
            exact p ρ H' x c2 q
      | next =>
        intro ρ' H' σ' st sl
        dsimp only at p
        split at p
        · exact p ρ' H' _ st (RV.non_iff.mpr rfl)
        · rename_i hkp
          have eb : b = S.length := hc.2.2.resolve_left hkp
          subst eb
          obtain ⟨c1, c2⟩ := st.cut (n := S.length) R
          exact p ρ H' _ c2 (RV.non_iff.mpr rfl)
    | exn e ps' S' =>
      rw [hr] at p
      intro ρ' H' σ' cls dd st sl ex
      dsimp only at p
      split at p
      · rename_i hrf
        split at p
        · exact p ρ' H' cls dd st ex
        · rename_i hkp
          have eb : b = S.length := hc.2.2.resolve_left hkp
          subst eb
          obtain ⟨c1, c2⟩ := st.cut (n := S.length) R
          have q := ex.cut S.length hrf
          rw [c1] at q
          exact p ρ H' cls dd c2 q
      · exact p.elim
  · exact p.elim
/-- a def's text and its piece of the small language -/
structure FnText (K : PySem.W.Frag) (C : CC) (f : Addr) (fdd : FuncData) (psn : List Str) (d : FnDef) : Prop where
  ex : ∃ (oc : Value) (od : Option Addr) (osl : Array (Option Value)) (name qual : Str) (params : Arguments) (body : List Stmt) (dV kV doc pm : Value) (an : Option Addr) (cdv ct : Value),
    fdd = PySem.W.fnOf name qual params body C.sc dV kV doc pm an cdv ct ∧ K.lookup f = some ⟨oc, od, .func fdd, osl⟩ ∧ PySem.W.codeIn K cdv qual = true ∧ chkSs C d.body body = true
  sc : FnScope C.N psn C.sc
  nl : C.N.length = d.nl
  np : psn.length = d.np
/-- the module's names -/
structure GlOk (mg : Str → Option Value) (N : Nm) (G : Tab) (fa : Nat → Addr) (C : CC) : Prop where
  cst : ∀ x v, C.gl.lookup x = some (.cst v) → ∃ u y, mg x = some u ∧ RelV y u ∧ ∀ ξ ρ H, RV (N.un ξ) ρ H v y
  kl : ∀ x ∈ C.kl, x ∈ G.kl
  cm : ∀ x ∈ C.cm, x ∈ G.cm
  fn : ∀ x f, C.gl.lookup x = some (.fn f) → mg x = some (.ref (fa f)) ∧ ∃ d, G.fns[f]? = some d
  cls : ∀ x c, C.gl.lookup x = some (.cls c) → mg x = some (.ref (N.ca c)) ∧ ∃ kd, G.cls[c]? = some kd
  no : ∀ x, C.gl.lookup x = some .none_ → mg x = none
  fl : ∀ (m : Nat) f, C.fl[m]? = some f → m < N.nf ∧ N.fld m = f
theorem fn_step (al : All P w mg base N G fa fd ps k) (hK : N.K = N.K) {f : Nat} {d : FnDef} (hd : G.fns[f]? = some d) (hl : d.lv = k + 1) {C : CC} (T : FnText N.K C (fa f) (fd f) (ps f) d) (gl : GlOk mg N G fa C) (ξ : List Addr) :
    FnG P w N.K mg base (2 * d.lv) (fa f) (fd f) (ps f) (spF (N.un ξ) G f d) := by
  obtain ⟨oc, od, osl, name, qual, params, body, dV, kV, doc, pm, an, cdv, ct, e1, lk, hcd, hchk⟩ := T.ex
  have e2 : 2 * d.lv = (2 * k + 1) + 1 := by omega
  rw [e2]
  rw [e1] at lk ⊢
  refine fn_ofG lk hcd T.sc (fun vs H Q E h => by rw [h.1, T.np]) fun A outer s H vs Q E hr hg h => ?_
  obtain ⟨hv, ρ, S, pvs, b, hb, R, rs, p⟩ := h
  rw [callN_le hd (by omega) (Nat.le_refl _), show d.lv - 1 = k by omega] at p
  obtain ⟨p1, p2, p3⟩ := run_post R hb p
  have G0 : ∀ ξ', Good (N.un ξ') (cxOf (L2.CX P w) P w N.K mg base C.N qual C.sc (fa f) cdv A outer s H E) (fun c dd _ H => E c dd H) (2 * k + 1) := fun ξ' => ⟨rfl, rfl, T.sc.nd, hr, hg, takes_of rfl rfl rfl rfl⟩
  have hbody := chkSs_ok (n := b) (k := k) (kk := 2 * k + 1) (Nat.le_refl _) d.body (X := cxOf (L2.CX P w) P w N.K mg base C.N qual C.sc (fa f) cdv A outer s H E) (C := C) (W := fun c dd _ H => E c dd H) al ⟨rfl, rfl, gl.fn, gl.cls, gl.no, gl.fl, gl.cst, gl.kl, gl.cm, fun _ _ => rfl⟩ G0 (passes_of rfl) hchk ξ
  refine ⟨_, hbody, ρ, S, _, R, ?_, p3⟩
  rw [← T.nl]
  exact start_rel rs (by rw [← rs.length, p1, T.nl]; exact p2)
/-- all that is asked of a program, once -/
structure Prog (P : Program) (w : World) (mg : Str → Option Value) (base : Heap) (N : Nm) (G : Tab) (fa : Nat → Addr) (fd : Nat → FuncData) (ps : Nat → List Str) (CF : Nat → CC) : Prop where
  txt : ∀ f d, G.fns[f]? = some d → FnText N.K (CF f) (fa f) (fd f) (ps f) d
  gl : ∀ f d, G.fns[f]? = some d → GlOk mg N G fa (CF f)
  bind : ∀ f d, G.fns[f]? = some d → ∀ us : List Value, us.length = d.np → bindArgs (fd f) ⟨us, []⟩ = pure ((ps f).zip us)
  kp : ∀ f d, G.fns[f]? = some d → PySem.W.keepIn N.K (.ref (fa f)) = true
  cl : ClT N G fa
  cs : ClS N G fa
  ne : ∀ (c : Nat) (kd : ClsDef), G.cls[c]? = some kd → kd.eqm = none
  nr : ∀ (c : Nat) (kd : ClsDef), G.cls[c]? = some kd → kd.reprm = none ∧ kd.lenm = none
  kb : ∀ x ∈ G.kl, KwOk fd ps x
  cm : ∀ x ∈ G.cm, ClM N G fa x.1 x.2.1 x.2.2
theorem Prog.all {CF : Nat → CC} (p : Prog P w mg base N G fa fd ps CF) : ∀ k, All P w mg base N G fa fd ps k
  | 0 => ⟨fun ξ => ⟨fun f d hd h1 h2 => by omega, fun f d hd => (p.txt f d hd).np, p.bind, p.kp⟩, fun ξ => ⟨⟨p.cl.wd.hn, p.cl.wd.htk, fun c kd h => let z := p.cl.wd.cls c kd h; ⟨z.cls, z.ha, z.hm, z.fld⟩, p.cl.wd.isi⟩, p.cl.meth, p.cl.mlt, p.cl.prop, p.cl.init⟩, fun ξ => ⟨p.cs.str⟩, p.ne, p.nr, p.kb, p.cm⟩
  | k + 1 => by
    have al := p.all k
    refine ⟨fun ξ => ⟨fun f d hd h1 h2 => ?_, fun f d hd => (p.txt f d hd).np, p.bind, p.kp⟩, al.cl, al.cs, al.ne, al.nr, al.kb, al.cm⟩
    by_cases hl : d.lv ≤ k
    · exact (al.T ξ).fn f d hd h1 hl
    · exact fn_step al rfl hd (by omega) (p.txt f d hd) (p.gl f d hd) ξ
end
end PyI
set_option Elab.async false
set_option linter.all false
set_option maxRecDepth 100000
set_option maxHeartbeats 8000000
/-! PyEnd: a law's end: from the small language's run to the walk -/
namespace PyI
open PySem PySem.Spec PyProof.Rows L2
/-- nothing is tracked but the script, as a thing of the machine -/
theorem end_call {P : Program} {w : World} {K : PySem.W.Frag} {mg mb : Str → Option Value} {k : Nat} {fz p : Addr} {fd : FuncData} {nm : Str} {sp : Sp} {z : Shared} {us : List Value} {ns : List Int} (hKin : K.In z.heap)
    (nsM : z.heap.Ns mainGlobals mg) (nsB : z.heap.Ns builtinsNs mb) (eB : ∀ y : Str, y ≠ "__name__" → mb y = bootBuiltins y) (lim : z.heap.NoLimit) (gn : z.gens = #[])
    (hscr : z.heap.get? p = some { cls := .type "list", data := .seq us.toArray }) (hints : IntsAre us ns) (few : ns.length ≤ sizeLine) (rm : Room k callerA)
    (F : ∀ b : Heap, K.In b → b.Ns mainGlobals mg → FnG P w K mg b k fz fd [nm] sp) (bnd : ∀ (s : Shared) (u : Value), BindsTo s fd ⟨[u], []⟩ [(nm, u)])
    (spl : ∀ H : Hp, Only H → SqL K H p (ns.map V.int) → sp [.ref p] H (fun v _ => v = .bl true) fun _ _ _ => False) :
    codeAny (model P w) callerA (.call (.ref fz) ⟨[.ref p], []⟩) (fun res t => res = .ok (.ret (.bool true)) ∧ OldK z.heap t.heap ∧ t.os = z.os ∧ AllBare t.gens) z := by
  have rv : Vals (ns.map V.int) us := vals_ints hints
  have core : ∀ H : Hp, Only H → SqL K H p (ns.map V.int) → HOk P w H z.heap → (∀ b, H b ≠ none → b = p) → (H p ≠ none → K.lookup p = none) →
      codeAny (model P w) callerA (.call (.ref fz) ⟨[.ref p], []⟩) (fun res t => res = .ok (.ret (.bool true)) ∧ OldK z.heap t.heap ∧ t.os = z.os ∧ AllBare t.gens) z := by
    intro H only sq hok one out
    have free : ∀ {b : Addr} {o : Obj} {es : Array DictEntry} {ep : Nat}, z.heap.get? b = some o → o.data = .dict es ep → H b = none := by
      intro b o es ep e d
      cases q : H b with
      | none => rfl
      | some u =>
        have eb : b = p := one b (by simp [q])
        rw [eb, hscr] at e; cases e
        exact absurd d (by intro y; cases y)
    have keepNs : ∀ {b : Addr} {m : Str → Option Value}, z.heap.Ns b m → (hidT z.heap H).Ns b m := by
      rintro b m ⟨o, es, ep, e, d, r⟩
      exact ⟨o, es, ep, hidT_get e (free e d), d, r⟩
    have kb : K.In (hidT z.heap H) := by
      intro b o e
      refine hidT_get (hKin b o e) ?_
      cases q : H b with
      | none => rfl
      | some u =>
        have eb : b = p := one b (by simp [q])
        rw [eb, out (by rw [← eb, q]; simp)] at e; cases e
    obtain ⟨mc, l1, l2⟩ := lim
    have md : Mod K mg (hidT z.heap H) := ⟨kb, keepNs nsM, ⟨mb, keepNs nsB, eB⟩, ⟨mc, keepNs l1, l2⟩⟩
    have e0 : Env0 P w K mg (hidT z.heap H) callerA [] z H := by
      refine ⟨rfl, md, fun b o e => of_hidT e, Nat.le_of_eq (hidT_size _ _), trivial, fun b hb => ?_, hok, .of_eq gn⟩
      exact absurd (show b ∈ ([] : List Addr) from hb) List.not_mem_nil
    refine codeAny_mono ((F _ kb (keepNs nsM)).run callerA [] z H ⟨[.ref p], []⟩ [.ref p] [.ref p] _ (fun _ _ _ => False) rm rfl e0 (bnd z (.ref p)) (.cons rfl .nil) (spl H only sq)) fun res t hr => ?_
    cases res with
    | error e =>
      obtain ⟨_, _, _, _, _, _, _, _, _, _, _, _, y⟩ := hr
      exact y.elim
    | ok fl =>
      cases fl with
      | next => exact False.elim hr
      | brk => exact False.elim hr
      | cont => exact False.elim hr
      | ret u =>
        obtain ⟨v, H', os, bare, un, hok', rel, q⟩ := hr
        obtain rfl : v = V.bl true := q
        obtain rfl : u = Value.bool true := rel
        refine ⟨rfl, OldK.of_keep fun b o e => ?_, os, bare⟩
        cases q : H b with
        | none => exact un.keep b o e q (by intro y; exact absurd (show b ∈ ([] : List Addr) from y) List.not_mem_nil) (by simp)
        | some u =>
          rcases only b with y | ⟨ob, xs, y⟩
          · simp [q] at y
          · obtain ⟨e1, _⟩ := hok b _ y
            obtain ⟨e2, _⟩ := hok' b _ (un.frzs b ob _ y)
            rw [e] at e1; cases e1
            exact e2
  cases hk : K.lookup p with
  | some o =>
    have e := hKin p o hk
    rw [hscr] at e; cases e
    refine core (fun _ => none) (fun _ => .inl rfl) (.inr ⟨_, us.toArray, _, hk, rfl, rfl, rfl, ?_, by simpa using rv⟩) (fun b u y => by cases (show (none : Option HO) = some u from y)) (fun b y => absurd rfl y) fun y => absurd rfl y
    rw [List.size_toArray, hints.length]; exact few
  | none =>
    let H0 : Hp := fun b => if b = p then some (.frz { cls := .type "list", data := .seq us.toArray } (.lst (ns.map V.int))) else none
    have at_ : H0 p = some (.frz { cls := .type "list", data := .seq us.toArray } (.lst (ns.map V.int))) := if_pos rfl
    have off : ∀ b, b ≠ p → H0 b = none := fun b hb => if_neg hb
    refine core H0 (fun b => ?_) (.inl (.inr ⟨_, at_⟩)) (fun b u y => ?_) (fun b y => ?_) fun _ => hk
    · by_cases hb : b = p
      · exact .inr ⟨_, _, hb ▸ at_⟩
      · exact .inl (off b hb)
    · by_cases hb : b = p
      · subst hb
        rw [at_] at y; cases y
        exact ⟨hscr, by rw [List.length_map]; exact few, us, _, rv, hscr⟩
      · rw [off b hb] at y; cases y
    · by_cases hb : b = p
      · exact hb
      · exact absurd (off b hb) y
/-- the walk that the head leaves -/
theorem walkG {l : PySem.W.OpenLaw} {n k : Nat} {q : Program} {loose : List Str} {XP : (Str → Option Value) → Heap → Prop} {YP : World → Heap → Prop} {d : DefRec} {nm : Str} (hn : l.most = some n) (few : n ≤ sizeLine) (nodf : d.params.defaults = []) (rm : Room k callerA)
    (F : ∀ (w : World) (mg : Str → Option Value) (fz : Addr) (h : Heap), YP w h → h.Ns mainGlobals mg → mg d.name = some (.ref fz) → ∃ (K : PySem.W.Frag) (fd : FuncData) (sp : Sp), K.In h ∧ (∀ (s : Shared) (u : Value), BindsTo s fd ⟨[u], []⟩ [(nm, u)]) ∧
      (∀ (H : Hp) (p : Addr) (ns : List Int), ns.length ≤ n → Only H → SqL K H p (ns.map V.int) → sp [.ref p] H (fun v _ => v = .bl true) fun _ _ _ => False) ∧ ∀ b : Heap, K.In b → b.Ns mainGlobals mg → FnG l.prog w K mg b k fz fd [nm] sp) :
    PySem.W.WalkO q loose XP YP l.row.toRowW d [] (fun f vs => PySem.call f vs) := by
  refine Att.attach_call hn nodf fun w z0 z mg mb fz o pm cd doc p us ns G Y _ _ _ hm hscr hints hl gn => ?_
  obtain ⟨K, fd, sp, kin, bnd, spl, hF⟩ := F w mg fz _ Y G.T.g hm
  exact end_call kin G.T.g G.T.b G.T.builtins G.T.nolimit gn hscr hints (Nat.le_trans hl few) rm hF bnd fun H only sq => spl H p ns hl only sq
/-- the law's def keeps its promise when the small language's run says true -/
theorem law_sp {N : Nm} {G : PyI.Tab} {f n : Nat} {d : FnDef} (hex : N.ex = []) (few : n ≤ sizeLine) (hnp : d.np = 1) (h : ∀ ns : List Int, ns.length ≤ n → ∃ S', callN G d.lv f 0 [.scr ns] [] = .ok (.bl true) S') :
    ∀ (H : Hp) (p : Addr) (ns : List Int), ns.length ≤ n → Only H → SqL N.K H p (ns.map V.int) → spF N G f d [.ref p] H (fun v _ => v = .bl true) fun _ _ _ => False := by
  intro H p ns hl only sq
  obtain ⟨S', e⟩ := h ns hl
  have R : Rel N [] H [] := ⟨rfl, List.nodup_nil, fun l o a e => (nomatch e), fun a ha => by rw [hex] at ha; cases ha⟩
  have sl : ScrL N [] H p (ns.map V.int) := by
    rcases sq with (y | ⟨o, y⟩) | y
    · rcases only p with z | ⟨ob, xs, z⟩
      · rw [y] at z; cases z
      · rw [y] at z; cases z
    · exact .inl ⟨o, ⟨List.not_mem_nil, by rw [hex]; exact List.not_mem_nil⟩, y⟩
    · exact .inr y
  refine ⟨by rw [hnp]; rfl, [], [], [.scr ns], 0, Nat.le_refl _, R, .cons ?_ (by simp [RVs]), ?_⟩
  · simp only [RV]
    exact ⟨p, rfl, sl, Nat.le_trans hl few⟩
  · rw [e]
    exact fun ρ' H' x st rv => RV.bl_iff.mp rv
end PyI
set_option Elab.async false
set_option linter.all false
set_option maxRecDepth 100000
set_option maxHeartbeats 8000000
/-! PyHead: what the head of a law tells -/
namespace PyI
open PySem PySem.Spec PyProof.Rows L2
open He (ga ma eqO eqO_ok frG frG_in asD ba)
/-- a def: where it stands, its names, its text, its parameters, what it does, the names of its slots -/
structure Row where
  ad : PySem.W.Frag → Addr
  name : Str
  qual : Str
  st : Stmt
  ps : List Str
  d : FnDef
  N : List Str
structure CRow where
  nm : Str
  kd : ClsDef
structure Data where
  rows : List Row
  cls : List CRow
  gl : List (Str × GV)
  fl : List Str
  kl : List (Nat × Nat × List Str × List Nat) := []
  cm : List (Nat × Str × Nat) := []
/-- a property's getter, a class method's def -/
def propAd (K : PySem.W.Frag) (C m : Str) : Addr := match PySem.W.recIn K (ma K (ga K C) m) "property" with
  | some (.ref g :: _) => g
  | _ => 0
def cmRec (K : PySem.W.Frag) (C : Addr) (m : Str) : Addr := match PySem.W.findCls K (.ref C) (.type "type") m with
  | some (.get _ (.ref p) _ _) => p
  | _ => 0
def cmAd (K : PySem.W.Frag) (C m : Str) : Addr := match PySem.W.recIn K (cmRec K (ga K C) m) "classmethod" with
  | some (.ref g :: _) => g
  | _ => 0
abbrev FnSeen : Type := Option (Str × Str × Arguments × FuncBody × Scope × Addr × List (Str × Addr) × Addr)
def fnSeen (K : PySem.W.Frag) (a : Addr) : FnSeen := match K.lookup a with
  | some ⟨_, _, .func fd, _⟩ => some (fd.name, fd.qualname, fd.params, fd.body, fd.scope, fd.globals, fd.closure, fd.builtins)
  | _ => none
def Row.val (r : Row) : FnSeen := some (r.name, r.qual, defArgs r.st, .stmts (defBody r.st), defScope r.st, mainGlobals, [], builtinsNs)
def isNoV : Value → Bool
  | .none => true
  | _ => false
def Row.ok (K : PySem.W.Frag) (r : Row) : Bool := PySem.W.keepIn K (.ref (r.ad K)) && (match K.lookup (r.ad K) with
  | some ⟨_, _, .func fd, _⟩ => PySem.W.codeIn K fd.code r.qual && isNoV fd.defaults
  | _ => false)
structure RowAt (K : PySem.W.Frag) (r : Row) (f : Addr) (fd : FuncData) : Prop where
  ex : ∃ (oc : Value) (od : Option Addr) (osl : Array (Option Value)) (kV doc pm : Value) (an : Option Addr) (cdv ct : Value),
    fd = PySem.W.fnOf r.name r.qual (defArgs r.st) (defBody r.st) (defScope r.st) .none kV doc pm an cdv ct ∧ K.lookup f = some ⟨oc, od, .func fd, osl⟩ ∧ PySem.W.codeIn K cdv r.qual = true
  kp : PySem.W.keepIn K (.ref f) = true
theorem Row.at_ {K : PySem.W.Frag} {r : Row} (e : fnSeen K (r.ad K) = r.val) (c : r.ok K = true) : ∃ fd, RowAt K r (r.ad K) fd := by
  obtain ⟨kp, c2⟩ := ba c
  unfold fnSeen at e
  cases q : K.lookup (r.ad K) with
  | none => rw [q] at c2; cases c2
  | some o =>
    obtain ⟨oc, od, dt, osl⟩ := o
    rw [q] at c2 e
    cases dt with
    | func fd =>
      obtain ⟨n1, n2, n3, n4, n5, n6, n7, n8, n9, n10, n11, n12, n13, n14, n15⟩ := fd
      have e2 : (some (n1, n2, n3, n4, n5, n6, n7, n15) : FnSeen) = some (r.name, r.qual, defArgs r.st, .stmts (defBody r.st), defScope r.st, mainGlobals, [], builtinsNs) := e
      simp only [Option.some.injEq, Prod.mk.injEq] at e2
      obtain ⟨g1, g2, g3, g4, g5, g6, g7, g8⟩ := e2
      have c3 : (PySem.W.codeIn K n13 r.qual && isNoV n8) = true := c2
      obtain ⟨k1, k2⟩ := ba c3
      have e8 : n8 = .none := by
        cases n8 <;> first | rfl | cases k2
      subst g1 g2 g3 g4 g5 g6 g7 g8 e8
      exact ⟨_, ⟨oc, od, osl, n9, n10, n11, n12, n13, n14, rfl, q, k1⟩, kp⟩
    | _ => cases c2
namespace Data
variable (D : Data)
def G : PyI.Tab := { fns := D.rows.map (·.d), cls := D.cls.map (·.kd), kl := D.kl, cm := D.cm }
def fa (K : PySem.W.Frag) (i : Nat) : Addr := match D.rows[i]? with
  | some r => r.ad K
  | none => 0
def ca (K : PySem.W.Frag) (i : Nat) : Addr := match D.cls[i]? with
  | some r => ga K r.nm
  | none => 0
def fld (i : Nat) : Str := D.fl.getD i Str.empty
def ps (i : Nat) : List Str := match D.rows[i]? with
  | some r => r.ps
  | none => []
def C (i : Nat) : CC := match D.rows[i]? with
  | some r => { N := r.N, sc := defScope r.st, gl := D.gl, fl := D.fl, kl := D.kl, cm := D.cm }
  | none => { N := [], sc := defScope (.Pass ⟨0, 0, 0, 0⟩), gl := [], fl := [] }
theorem inj (h : D.fl.Nodup) : ∀ i j, i < D.fl.length → j < D.fl.length → D.fld i = D.fld j → i = j := by
  intro i j hi hj e
  unfold fld at e
  rw [List.getD_eq_getElem?_getD, List.getD_eq_getElem?_getD, List.getElem?_eq_getElem hi, List.getElem?_eq_getElem hj] at e
  exact (List.getElem_inj h).mp (by simpa using e)
def nm (h : D.fl.Nodup) (K : PySem.W.Frag) : PyI.Nm := { K := K, ca := D.ca K, fld := D.fld, nf := D.fl.length, inj := D.inj h }
/-! ### what is looked at -/
def glB (K : PySem.W.Frag) (p : Str × GV) : Bool := match p.2 with
  | .fn f => eqO (PySem.W.nsIn K mainGlobals p.1) (some (some (.ref (D.fa K f)))) && decide (f < D.rows.length)
  | .cls c => eqO (PySem.W.nsIn K mainGlobals p.1) (some (some (.ref (D.ca K c)))) && decide (c < D.cls.length)
  | .none_ => eqO (PySem.W.nsIn K mainGlobals p.1) (some none)
  | .cst v => (match v with
    | .int i => (match PySem.W.nsIn K mainGlobals p.1 with
      | some (some (.int j _)) => decide (j = i)
      | _ => false)
    | .str z => (match PySem.W.nsIn K mainGlobals p.1 with
      | some (some (.str y _)) => decide (y = z) && decide (z.length ≤ sizeLine)
      | _ => false)
    | _ => false)
def defB (K : PySem.W.Frag) (C : Addr) (m : Str) (f : Nat) : Bool := eqO (PySem.W.findIn K (.ref C) m) (some (some (.ref (D.fa K f)))) && PySem.W.isFn K (.ref (D.fa K f))
def methB (K : PySem.W.Frag) (C : Addr) (p : Nat × Nat) : Bool := decide (p.1 < D.fl.length) && (D.defB K C (D.fld p.1) p.2 && PySem.W.keepIn K (.ref (D.fa K p.2)))
def propB (K : PySem.W.Frag) (C : Addr) (p : Nat × Nat) : Bool := eqO (PySem.W.findIn K (.ref C) (D.fld p.1)) (some (some (.ref (ma K C (D.fld p.1))))) && (eqO (PySem.W.specialIn K (.ref (ma K C (D.fld p.1))) "__get__") (some (some (.builtin "property.__get__"))) &&
  (decide (PySem.W.takesIn K (.ref (ma K C (D.fld p.1))) = some true) && (match PySem.W.recIn K (ma K C (D.fld p.1)) "property" with
    | some (.ref g :: _) => decide (g = D.fa K p.2)
    | _ => false)))
def clB (K : PySem.W.Frag) (C : Addr) (kd : ClsDef) : Bool :=
  (PySem.W.plainGet K C Str.empty && (PySem.W.hasDictIn K C && (PySem.W.plainOver K C && eqO (PySem.W.findIn K (.ref C) "__setattr__") (some (some (.builtin "object.__setattr__")))))) &&
  ((eqO (PySem.W.findIn K (.ref C) "__class__") (some (some (.builtin "object.__class__"))) && (decide (PySem.W.mroIn K C (.type "object") = some true) && ((List.range D.fl.length).all fun i => (kd.props.lookup i).isSome || ((kd.meths.lookup i).isSome || eqO (PySem.W.findIn K (.ref C) (D.fld i)) (some none))))) &&
  (kd.meths.all (D.methB K C) && (kd.props.all (D.propB K C) && ((PySem.W.makesIn K C && (D.defB K C "__init__" kd.init && PySem.W.keepIn K (.ref C))) && (match kd.strm with
    | some f => D.defB K C "__str__" f
    | none => true)))))
def tags : List (Option TyC) := none :: ([TyC.int, .bool, .str, .tuple, .list, .dict] ++ (List.range D.cls.length).map TyC.own).map some
def tyU (K : PySem.W.Frag) : TyC → Value
  | .int => .type "int"
  | .bool => .type "bool"
  | .str => .type "str"
  | .tuple => .type "tuple"
  | .list => .type "list"
  | .dict => .type "dict"
  | .own c => .ref (D.ca K c)
def tgU (K : PySem.W.Frag) : Option TyC → Value
  | none => .type "NoneType"
  | some t => D.tyU K t
def wdB (K : PySem.W.Frag) : Bool := eqO (PySem.W.specialIn K (.builtin "object.__class__") "__get__") (some (some (.builtin "getset_descriptor.__get__"))) && (decide (PySem.W.takesIn K (.builtin "object.__class__") = some true) &&
  D.tags.all fun g => D.tags.all fun t => match t with
    | some t => decide (PySem.W.kitOne K (D.tgU K g) (D.tyU K t) = some (isiT g t))
    | none => true)
def cmB (K : PySem.W.Frag) (p : Nat × Str × Nat) : Bool := PySem.W.readsIn K (D.ca K p.1) (.type "type") && (eqO (PySem.W.specialIn K (.ref (D.ca K p.1)) "__getattribute__") (some (some (.builtin "type.__getattribute__"))) &&
  ((match PySem.W.findCls K (.ref (D.ca K p.1)) (.type "type") p.2.1 with
    | some (.get (.builtin b) (.ref q) .none (.ref c)) => decide (b = "classmethod.__get__") && (decide (q = cmRec K (D.ca K p.1) p.2.1) && decide (c = D.ca K p.1))
    | _ => false) && ((match PySem.W.recIn K (cmRec K (D.ca K p.1) p.2.1) "classmethod" with
    | some (.ref g :: _) => decide (g = D.fa K p.2.2)
    | _ => false) && PySem.W.fnIn K (D.fa K p.2.2))))
def allB (K : PySem.W.Frag) : Bool := D.rows.all (Row.ok K) && (D.gl.all (D.glB K) && (D.cls.all (fun r => D.clB K (ga K r.nm) r.kd) && (D.wdB K && D.cm.all (D.cmB K))))
abbrev Seen : Type := Bool × List FnSeen
def seen (K : PySem.W.Frag) : Seen := (D.allB K, D.rows.map fun r => fnSeen K (r.ad K))
def due : Seen := (true, D.rows.map Row.val)
def seenG (n : Nat) (g : Addr → Option Obj) : Seen := D.seen (frG g (PySem.cStatics :: asD g n))
def hook (n : Nat) : PySem.W.Hook where
  α := Seen
  obs := fun s => D.seenG n s.heap.get?
  val := fun _ => D.due
  says := fun _ h => ∃ K : PySem.W.Frag, K.In h ∧ D.seen K = D.due
  of := fun _ _ e => ⟨_, frG_in, e⟩
  keeps := fun _ _ _ ⟨K, hK, c⟩ k => ⟨K, PySem.W.Frag.In.keeps hK k, c⟩
theorem seenG_eq {n : Nat} {g : Addr → Option Obj} {s : Shared} (h : ∀ a, g a = s.heap.get? a) : D.seenG n g = (D.hook n).obs s := by
  have e : g = s.heap.get? := funext h
  rw [e] <;> rfl
/-! ### the text, without the machine -/
def rowB (r : Row) : Bool := (decide ((defScope r.st).kind = .function) && (!(defScope r.st).isCoroutine && (!(defScope r.st).isGenerator && (decide r.N.Nodup && (decide (r.N.take r.ps.length = r.ps) && (r.ps.all (fun x => decide ((defScope r.st).names.lookup x = some .local) || decide ((defScope r.st).names.lookup x = some .cell)) && (defScope r.st).names.all fun y => !decide (y.2 = .free))))))) &&
  (decide (r.N.length = r.d.nl) && (decide (r.ps.length = r.d.np) && chkSs { N := r.N, sc := defScope r.st, gl := D.gl, fl := D.fl, kl := D.kl, cm := D.cm } r.d.body (defBody r.st)))
def plainCls (kd : ClsDef) : Bool := kd.eqm.isNone && (kd.reprm.isNone && kd.lenm.isNone)
def textB : Bool := decide D.fl.Nodup && (D.rows.all D.rowB && (D.cls.all (fun r => plainCls r.kd) && D.kl.all fun x => decide (x.1 < D.rows.length)))
def BindOk (r : Row) : Prop := ∀ (kV doc pm : Value) (an : Option Addr) (cdv ct : Value) (us : List Value), us.length = r.ps.length → bindArgs (PySem.W.fnOf r.name r.qual (defArgs r.st) (defBody r.st) (defScope r.st) .none kV doc pm an cdv ct) ⟨us, []⟩ = pure (r.ps.zip us)
def KwB (x : Nat × Nat × List Str × List Nat) : Prop := ∀ r, D.rows[x.1]? = some r → ∀ (kV doc pm : Value) (an : Option Addr) (cdv ct : Value) (us ws : List Value), us.length = x.2.1 → ws.length = x.2.2.1.length →
  bindArgs (PySem.W.fnOf r.name r.qual (defArgs r.st) (defBody r.st) (defScope r.st) .none kV doc pm an cdv ct) ⟨us, x.2.2.1.zip ws⟩ = pure (r.ps.zip (x.2.2.2.map fun j => (us ++ ws).getD j .none))
variable {D} {P : Program} {w : World} {K : PySem.W.Frag} {mg : Str → Option Value} {base h : Heap}
theorem look_mem {α β : Type} [BEq α] [LawfulBEq α] {l : List (α × β)} {a : α} {b : β} (h : l.lookup a = some b) : (a, b) ∈ l := by
  induction l with
  | nil => cases h
  | cons p t ih =>
    rw [List.lookup_cons] at h
    split at h
    · rename_i e
      cases h
      rw [eq_of_beq e]
      exact List.mem_cons_self
    · exact List.mem_cons_of_mem _ (ih h)
theorem rows_fn {f : Nat} {d : FnDef} (e : D.G.fns[f]? = some d) : ∃ r, D.rows[f]? = some r ∧ r.d = d := by
  have e' : (D.rows.map (·.d))[f]? = some d := e
  rw [List.getElem?_map, Option.map_eq_some_iff] at e'
  exact e'
theorem rows_cls {f : Nat} {d : ClsDef} (e : D.G.cls[f]? = some d) : ∃ r, D.cls[f]? = some r ∧ r.kd = d := by
  have e' : (D.cls.map (·.kd))[f]? = some d := e
  rw [List.getElem?_map, Option.map_eq_some_iff] at e'
  exact e'
theorem ca_at {c : Nat} {r : CRow} (e : D.cls[c]? = some r) : D.ca K c = ga K r.nm := by unfold ca; rw [e]
theorem fa_at {c : Nat} {r : Row} (e : D.rows[c]? = some r) : D.fa K c = r.ad K := by unfold fa; rw [e]
theorem scope_ok {r : Row} (h : D.rowB r = true) : FnScope r.N r.ps (defScope r.st) ∧ r.N.length = r.d.nl ∧ r.ps.length = r.d.np ∧ chkSs { N := r.N, sc := defScope r.st, gl := D.gl, fl := D.fl, kl := D.kl, cm := D.cm } r.d.body (defBody r.st) = true := by
  unfold rowB at h
  simp only [Bool.and_eq_true, decide_eq_true_eq, Bool.not_eq_true', List.all_eq_true, Bool.or_eq_true, decide_eq_false_iff_not] at h
  obtain ⟨⟨h1, h2, h3, h4, h5, h6, h10⟩, h7, h8, h9⟩ := h
  exact ⟨⟨h1, h2, h3, h4, h5, h6, fun y hy => by simpa using h10 y hy⟩, h7, h8, h9⟩
theorem gl_ok (hS : D.allB K = true) (hn : D.fl.Nodup) (X : K.In h) (Gn : h.Ns mainGlobals mg) (i : Nat) : GlOk mg (D.nm hn K) D.G (D.fa K) (D.C i) := by
  have hg : ∀ p ∈ D.gl, D.glB K p = true := List.all_eq_true.mp (ba (ba hS).2).1
  have gl : ∀ x v, (D.C i).gl.lookup x = some v → D.glB K (x, v) = true := fun x v e => by
    refine hg _ ?_
    unfold C at e
    split at e
    · exact look_mem e
    · cases e
  refine ⟨fun x v e => ?_, ?_, ?_, fun x f e => ?_, fun x c e => ?_, fun x e => ?_, fun m f e => ?_⟩
  · have q := gl x _ e
    unfold glB at q
    dsimp only at q
    split at q
    · rename_i i
      obtain ⟨t, ht⟩ := He.int_ok X Gn (x := x) (i := i) q
      exact ⟨_, .int i, ht, ⟨t, rfl⟩, fun _ _ _ => RV.int_iff.mpr rfl⟩
    · rename_i z
      have q2 : (He.Fa.str x z).ok K = true ∧ z.length ≤ sizeLine := by
        show (match PySem.W.nsIn K mainGlobals x with
          | some (some (.str y _)) => decide (y = z)
          | _ => false) = true ∧ _
        split at q
        · rw [Bool.and_eq_true] at q
          exact ⟨q.1, of_decide_eq_true q.2⟩
        · cases q
      obtain ⟨t, ht⟩ := He.str_ok X Gn q2.1
      exact ⟨_, .str z, ht, ⟨t, rfl⟩, fun _ _ _ => RV.str_iff.mpr ⟨rfl, q2.2⟩⟩
    · cases q
  · intro x hx
    unfold C at hx
    split at hx
    · exact hx
    · cases hx
  · intro x hx
    unfold C at hx
    split at hx
    · exact hx
    · cases hx
  · have q := ba (gl x _ e)
    refine ⟨PySem.W.mg_of X Gn (eqO_ok q.1), ?_⟩
    have := of_decide_eq_true q.2
    exact ⟨(D.rows[f]).d, by show (D.rows.map (·.d))[f]? = _; rw [List.getElem?_map, List.getElem?_eq_getElem this]; rfl⟩
  · have q := ba (gl x _ e)
    refine ⟨PySem.W.mg_of X Gn (eqO_ok q.1), ?_⟩
    have := of_decide_eq_true q.2
    exact ⟨(D.cls[c]).kd, by show (D.cls.map (·.kd))[c]? = _; rw [List.getElem?_map, List.getElem?_eq_getElem this]; rfl⟩
  · exact PySem.W.mg_none_of X Gn (eqO_ok (gl x _ e))
  · unfold C at e
    split at e
    · have hl := (List.getElem?_eq_some_iff.mp e).1
      refine ⟨hl, ?_⟩
      show D.fl.getD m Str.empty = f
      rw [List.getD_eq_getElem?_getD, e]; rfl
    · cases e
theorem def_ok {C : Addr} {m : Str} {f : Nat} (h : D.defB K C m f = true) : PySem.W.findIn K (.ref C) m = some (some (.ref (D.fa K f))) ∧ PySem.W.isFn K (.ref (D.fa K f)) = true := ⟨eqO_ok (ba h).1, (ba h).2⟩
structure ClFact (D : Data) (K : PySem.W.Frag) (C : Addr) (kd : ClsDef) : Prop where
  cls : Cls K C
  ha : PySem.W.findIn K (.ref C) "__class__" = some (some (.builtin "object.__class__"))
  hm : PySem.W.mroIn K C (.type "object") = some true
  no : ∀ i, i < D.fl.length → kd.props.lookup i = none → kd.meths.lookup i = none → NoAttr K C (D.fld i)
  meth : ∀ m f, kd.meths.lookup m = some f → Meth K C (D.fld m) (D.fa K f) ∧ m < D.fl.length
  prop : ∀ m f, kd.props.lookup m = some f → ∃ p, PropOf K C (D.fld m) p (D.fa K f)
  init : Mk K C (D.fa K kd.init)
  str : ∀ f, kd.strm = some f → PySem.W.findIn K (.ref C) "__str__" = some (some (.ref (D.fa K f))) ∧ PySem.W.isFn K (.ref (D.fa K f)) = true
theorem cl_ok {C : Addr} {kd : ClsDef} (h : D.clB K C kd = true) : ClFact D K C kd := by
  obtain ⟨a, b⟩ := ba h
  obtain ⟨b1, b2⟩ := ba b
  obtain ⟨a1, a2⟩ := ba a
  obtain ⟨a2, a3⟩ := ba a2
  obtain ⟨a3, a4⟩ := ba a3
  obtain ⟨c1, c2⟩ := ba b1
  obtain ⟨c2, c3⟩ := ba c2
  obtain ⟨d1, d2⟩ := ba b2
  obtain ⟨d2, d3⟩ := ba d2
  obtain ⟨d3, d4⟩ := ba d3
  obtain ⟨e1, e2⟩ := ba d3
  obtain ⟨e2, e3⟩ := ba e2
  refine ⟨⟨a1, a2, a3, eqO_ok a4⟩, eqO_ok c1, of_decide_eq_true c2, fun i hi n1 n2 => ?_, fun m f e => ?_, fun m f e => ?_, ⟨e1, (def_ok e2).1, (def_ok e2).2, e3⟩, fun f e => ?_⟩
  · have q := List.all_eq_true.mp c3 i (List.mem_range.mpr hi)
    rw [n1, n2] at q
    exact eqO_ok q
  · have q := List.all_eq_true.mp d1 _ (look_mem e)
    obtain ⟨q1, q2⟩ := ba q
    obtain ⟨q2, q3⟩ := ba q2
    exact ⟨⟨(def_ok q2).1, (def_ok q2).2, q3⟩, of_decide_eq_true q1⟩
  · have q := List.all_eq_true.mp d2 _ (look_mem e)
    obtain ⟨q1, q2⟩ := ba q
    obtain ⟨q2, q3⟩ := ba q2
    obtain ⟨q3, q4⟩ := ba q3
    refine ⟨_, eqO_ok q1, eqO_ok q2, of_decide_eq_true q3, ?_⟩
    dsimp only at q4
    split at q4
    · rename_i g rest e4
      have := of_decide_eq_true q4
      subst this
      exact ⟨rest, e4⟩
    · cases q4
  · rw [e] at d4
    exact def_ok d4
theorem isi_ok (h : D.wdB K = true) : ∀ g t, tagIn D.G g = true → t.inb D.G = true → PySem.W.kitOne K (D.tgU K g) (D.tyU K t) = some (isiT g t) := by
  have q := (ba (ba h).2).2
  have inT : ∀ t : TyC, t.inb D.G = true → some t ∈ D.tags := fun t ht => by
    cases t with
    | own c =>
      have hc : c < (D.cls.map (·.kd)).length := of_decide_eq_true ht
      rw [List.length_map] at hc
      refine List.mem_cons_of_mem _ (List.mem_map.mpr ⟨_, List.mem_append.mpr (.inr (List.mem_map.mpr ⟨c, List.mem_range.mpr hc, rfl⟩)), rfl⟩)
    | _ => exact List.mem_cons_of_mem _ (List.mem_map.mpr ⟨_, List.mem_append.mpr (.inl (by simp)), rfl⟩)
  intro g t hg ht
  have hgm : g ∈ D.tags := by
    cases g with
    | none => exact List.mem_cons_self
    | some g => exact inT g hg
  have := List.all_eq_true.mp (List.all_eq_true.mp q g hgm) _ (inT t ht)
  exact of_decide_eq_true this
theorem prog (hT : D.textB = true) (hS : D.seen K = D.due) (hb : ∀ r ∈ D.rows, BindOk r) (hk : ∀ x ∈ D.kl, D.KwB x) (X : K.In h) (Gn : h.Ns mainGlobals mg) (hn : D.fl.Nodup) :
    ∃ fd : Nat → FuncData, (∀ i r, D.rows[i]? = some r → RowAt K r (D.fa K i) (fd i)) ∧ ∀ (P : Program) (w : World) (base : Heap), Prog P w mg base (D.nm hn K) D.G (D.fa K) fd D.ps D.C := by
  have hA : D.allB K = true := congrArg (fun z : Seen => z.1) hS
  have hV : (D.rows.map fun r => fnSeen K (r.ad K)) = D.rows.map Row.val := congrArg (fun z : Seen => z.2) hS
  obtain ⟨t1, t2⟩ := ba hT
  obtain ⟨t2, t3⟩ := ba t2
  obtain ⟨t3, t4⟩ := ba t3
  have rowT : ∀ i r, D.rows[i]? = some r → D.rowB r = true := fun i r e => List.all_eq_true.mp t2 r (List.mem_of_getElem? e)
  have at0 : ∀ i, ∃ fd : FuncData, ∀ r, D.rows[i]? = some r → RowAt K r (D.fa K i) fd := fun i => by
    cases e : D.rows[i]? with
    | none => exact ⟨⟨Str.empty, Str.empty, defArgs (.Pass ⟨0, 0, 0, 0⟩), .stmts [], defScope (.Pass ⟨0, 0, 0, 0⟩), 0, [], .none, .none, .none, .none, none, .none, .none, 0⟩, fun r h => by cases h⟩
    | some r =>
      have e2 : (D.rows.map fun r => fnSeen K (r.ad K))[i]? = (D.rows.map Row.val)[i]? := by rw [hV]
      rw [List.getElem?_map, List.getElem?_map, e] at e2
      obtain ⟨fd, hfd⟩ := Row.at_ (Option.some.inj e2) (List.all_eq_true.mp (ba hA).1 r (List.mem_of_getElem? e))
      refine ⟨fd, fun r' h => ?_⟩
      cases h
      rw [fa_at e]
      exact hfd
  let fd : Nat → FuncData := fun i => Classical.choose (at0 i)
  have hfd : ∀ i r, D.rows[i]? = some r → RowAt K r (D.fa K i) (fd i) := fun i => Classical.choose_spec (at0 i)
  have hC : ∀ i r, D.rows[i]? = some r → D.C i = { N := r.N, sc := defScope r.st, gl := D.gl, fl := D.fl, kl := D.kl, cm := D.cm } := fun i r e => by unfold C; rw [e]
  have hps : ∀ i r, D.rows[i]? = some r → D.ps i = r.ps := fun i r e => by unfold ps; rw [e]
  obtain ⟨_, hA2⟩ := ba hA
  obtain ⟨_, hA2⟩ := ba hA2
  obtain ⟨hcl, hA2⟩ := ba hA2
  obtain ⟨hwd, hcm⟩ := ba hA2
  have clF : ∀ (c : Nat) (kd : ClsDef), D.G.cls[c]? = some kd → ClFact D K (D.ca K c) kd := fun c kd e => by
    obtain ⟨r, e1, e2⟩ := rows_cls e
    subst e2
    rw [ca_at e1]
    exact cl_ok (List.all_eq_true.mp hcl r (List.mem_of_getElem? e1))
  have plain : ∀ (c : Nat) (kd : ClsDef), D.G.cls[c]? = some kd → kd.eqm = none ∧ kd.reprm = none ∧ kd.lenm = none := fun c kd e => by
    obtain ⟨r, e1, e2⟩ := rows_cls e
    subst e2
    have q := List.all_eq_true.mp t3 r (List.mem_of_getElem? e1)
    obtain ⟨q1, q2⟩ := ba q
    obtain ⟨q2, q3⟩ := ba q2
    exact ⟨by simpa using q1, by simpa using q2, by simpa using q3⟩
  refine ⟨fd, hfd, fun P w base => ⟨fun f d e => ?_, fun f d e => gl_ok hA hn X Gn f, fun f d e us hl => ?_, fun f d e => ?_, ⟨⟨eqO_ok (ba hwd).1, of_decide_eq_true (ba (ba hwd).2).1, fun c kd e => ?_, fun g t hg ht => ?_⟩, ?_, ?_, ?_, ?_⟩, ⟨?_⟩, fun c kd e => (plain c kd e).1, fun c kd e => (plain c kd e).2, fun x hx us ws l1 l2 => ?_, fun x hx => ?_⟩⟩
  · obtain ⟨r, e1, e2⟩ := rows_fn e
    subst e2
    obtain ⟨s1, s2, s3, s4⟩ := scope_ok (rowT f r e1)
    rw [hC f r e1, hps f r e1]
    obtain ⟨oc, od, osl, kV, doc, pm, an, cdv, ct, f1, f2, f3⟩ := (hfd f r e1).ex
    exact ⟨⟨oc, od, osl, _, _, _, _, _, _, _, _, _, _, _, f1, f2, f3, s4⟩, s1, s2, s3⟩
  · obtain ⟨r, e1, e2⟩ := rows_fn e
    subst e2
    obtain ⟨s1, s2, s3, s4⟩ := scope_ok (rowT f r e1)
    obtain ⟨oc, od, osl, kV, doc, pm, an, cdv, ct, f1, f2, f3⟩ := (hfd f r e1).ex
    rw [f1, hps f r e1]
    exact hb r (List.mem_of_getElem? e1) kV doc pm an cdv ct us (by rw [hl, s3])
  · obtain ⟨r, e1, e2⟩ := rows_fn e
    exact (hfd f r e1).kp
  · have F := clF c kd e
    exact ⟨F.cls, F.ha, F.hm, F.no⟩
  · have := isi_ok hwd g t hg ht
    cases g with
    | none => cases t <;> exact this
    | some g => cases g <;> cases t <;> exact this
  · exact fun c kd m f e e2 => ((clF c kd e).meth m f e2).1
  · exact fun c kd m f e e2 => ((clF c kd e).meth m f e2).2
  · exact fun c kd m f e e2 => (clF c kd e).prop m f e2
  · exact fun c kd e => (clF c kd e).init
  · exact fun c kd f e e2 => (clF c kd e).str f e2
  · cases e : D.rows[x.1]? with
    | none =>
      have := of_decide_eq_true (List.all_eq_true.mp t4 x hx)
      rw [List.getElem?_eq_none_iff] at e
      omega
    | some r =>
      obtain ⟨oc, od, osl, kV, doc, pm, an, cdv, ct, f1, f2, f3⟩ := (hfd _ r e).ex
      rw [f1, hps _ r e]
      exact hk x hx r e kV doc pm an cdv ct us ws l1 l2
  · have q := List.all_eq_true.mp hcm x hx
    obtain ⟨q1, q2⟩ := ba q
    obtain ⟨q2, q3⟩ := ba q2
    obtain ⟨q3, q4⟩ := ba q3
    obtain ⟨q4, q5⟩ := ba q4
    refine ⟨.type "type", cmRec K (D.ca K x.1) x.2.1, ⟨q1, eqO_ok q2⟩, ?_, ?_, q5⟩
    · split at q3
      · rename_i b qq c e3
        obtain ⟨z1, z2⟩ := ba q3
        obtain ⟨z2, z3⟩ := ba z2
        rw [of_decide_eq_true z1, of_decide_eq_true z2, of_decide_eq_true z3] at e3
        exact e3
      · cases q3
    · split at q4
      · rename_i g rest e4
        have := of_decide_eq_true q4
        subst this
        exact ⟨rest, e4⟩
      · cases q4
theorem law_at (hS : D.seen K = D.due) {x : Str} {f : Nat} (e : D.gl.lookup x = some (.fn f)) : PySem.W.nsIn K mainGlobals x = some (some (.ref (D.fa K f))) := by
  have hA : D.allB K = true := congrArg (fun z : Seen => z.1) hS
  have q := ba (List.all_eq_true.mp (ba (ba hA).2).1 _ (look_mem e))
  exact eqO_ok q.1
end Data
end PyI
set_option Elab.async false
set_option linter.all false
set_option maxRecDepth 100000
/-! Lib: the defs' texts in the small language, their callees, fields and classes as parameters -/
namespace PyI.Lib
open PySem PyI
def Ruler_factor (m_held : Nat) : ISs := .cons (.ret (.sub (.attr (.var 0) m_held) (.cst (.int 0)))) .nil
def Ruler_init (f_check_kinds f_is_between m_held m_rows m_widths : Nat) : ISs := .cons (.ifs (.notE (.call f_is_between (.cons (.var 1) (.cons (.cst (.int 2)) (.cons (.glb (.int 9)) .nil)))))
    (.cons (.nope) .nil)
    (.nil))
    (.cons (.ex (.call f_check_kinds (.cons (.var 1) (.cons (.var 2) .nil))))
    (.cons (.asgA (.var 0) m_held (.tup (.cons (.var 1) (.cons (.var 2) .nil))))
    (.cons (.asgA (.var 0) m_widths (.dcomp true [3, 4, 5] (.var 3) (.var 4) (.tp [3, 4, 5]) (.e (.var 2)) (.nil)))
    (.cons (.asgA (.var 0) m_rows (.dcomp true [3, 4, 5] (.var 3) (.var 5) (.tp [3, 4, 5]) (.e (.var 2)) (.nil))) .nil))))
def Ruler_names (m_held : Nat) : ISs := .cons (.ret (.bf .tuple true (.cons (.comp true [1] (.sub (.var 1) (.cst (.int 0))) (.nm 1) (.e (.sub (.attr (.var 0) m_held) (.cst (.int 1)))) (.nil)) .nil))) .nil
def Ruler_read (f_kind_of f_number_of : Nat) : ISs := .cons (.ifs (.notE (.isi (.var 1) .str))
    (.cons (.nope) .nil)
    (.nil))
    (.cons (.asg 2 (.bm .split true (.var 1) (.cons (.cst (.str "\n")) .nil)))
    (.cons (.asg 3 (.call f_number_of (.cons (.bm .removeprefix true (.sub (.var 2) (.cst (.int 0))) (.cons (.cst (.str "factor ")) .nil)) .nil)))
    (.cons (.tryE (.cons (.asg 4 (.newV 0 (.cons (.var 3) (.cons (.bf .tuple true (.cons (.comp true [5] (.call f_kind_of (.cons (.var 5) .nil)) (.nm 5) (.e (.sl1 (.var 2) (.cst (.int 1)))) (.nil)) .nil)) .nil)))) .nil) .nil)
    (.cons (.ifs (.cmp .NotEq (.bf .str true (.cons (.var 4) .nil)) (.var 1))
    (.cons (.nope) .nil)
    (.nil))
    (.cons (.ret (.var 4)) .nil)))))
def Ruler_row (f_check_kind m_rows : Nat) : ISs := .cons (.ex (.call f_check_kind (.cons (.var 0) (.cons (.var 1) .nil))))
    (.cons (.ret (.sub (.attr (.var 0) m_rows) (.var 1))) .nil)
def Ruler_str (f_line_of m_held : Nat) : ISs := .cons (.ret (.bm .join true (.cst (.str "\n")) (.cons (.bin .Add (.lst true (.cons (.fstr (.cons (.cst (.str "factor ")) (.cons (.sub (.attr (.var 0) m_held) (.cst (.int 0))) .nil))) .nil)) (.comp true [1] (.call f_line_of (.cons (.var 1) .nil)) (.nm 1) (.e (.sub (.attr (.var 0) m_held) (.cst (.int 1)))) (.nil))) .nil))) .nil
def Ruler_width (f_check_kind m_widths : Nat) : ISs := .cons (.ex (.call f_check_kind (.cons (.var 0) (.cons (.var 1) .nil))))
    (.cons (.ret (.sub (.attr (.var 0) m_widths) (.var 1))) .nil)
def check_depth (f_is_between : Nat) : ISs := .cons (.ifs (.notE (.call f_is_between (.cons (.var 0) (.cons (.cst (.int 0)) (.cons (.glb (.int 40)) .nil)))))
    (.cons (.nope) .nil)
    (.nil)) .nil
def check_kind (f_is_name m_names : Nat) : ISs := .cons (.ifs (.orE (.cons (.notE (.call f_is_name (.cons (.var 1) .nil))) (.cons (.cmp .NotIn (.var 1) (.attr (.var 0) m_names)) .nil)))
    (.cons (.nope) .nil)
    (.nil)) .nil
def check_kinds (f_fills f_is_kind : Nat) : ISs := .cons (.ifs (.orE (.cons (.notE (.isi (.var 1) .tuple)) (.cons (.cmp .Eq (.bf .len true (.cons (.var 1) .nil)) (.cst (.int 0))) .nil)))
    (.cons (.nope) .nil)
    (.nil))
    (.cons (.asg 2 (.dct0 false))
    (.cons (.for_ (.tp [3, 4]) (.enum (.var 1))
    (.cons (.ifs (.orE (.cons (.cmp .Eq (.var 3) (.glb (.int 5))) (.cons (.notE (.call f_is_kind (.cons (.var 4) .nil))) (.cons (.cmp .In (.sub (.var 4) (.cst (.int 0))) (.var 2)) .nil))))
    (.cons (.nope) .nil)
    (.nil))
    (.cons (.asgS (.var 2) (.sub (.var 4) (.cst (.int 0))) (.sub (.var 4) (.cst (.int 1)))) .nil)))
    (.cons (.for_ (.tp [3, 4]) (.enum (.var 1))
    (.cons (.ifs (.notE (.call f_fills (.cons (.var 0) (.cons (.var 2) (.cons (.sub (.var 4) (.cst (.int 1))) (.cons (.sub (.var 4) (.cst (.int 2))) .nil))))))
    (.cons (.nope) .nil)
    (.nil)) .nil)) .nil)))
def check_ruler (C_Ruler : Nat) : ISs := .cons (.ifs (.notE (.isi (.var 0) (.own C_Ruler)))
    (.cons (.nope) .nil)
    (.nil)) .nil
def check_scale (f_check_depth f_check_kind f_check_ruler : Nat) : ISs := .cons (.ex (.call f_check_ruler (.cons (.var 0) .nil)))
    (.cons (.ex (.call f_check_kind (.cons (.var 0) (.cons (.var 1) .nil))))
    (.cons (.ex (.call f_check_depth (.cons (.var 2) .nil))) .nil))
def count_tables (m_names m_row : Nat) : ISs := .cons (.asg 2 (.attr (.var 0) m_names))
    (.cons (.asg 3 (.lst false (.cons (.dcomp true [4] (.var 4) (.bf .tuple true (.cons (.comp true [5] (.bf .int true (.cons (.cmp .Eq (.var 4) (.var 5)) .nil)) (.nm 5) (.e (.var 2)) (.nil)) .nil)) (.nm 4) (.e (.var 2)) (.nil)) .nil)))
    (.cons (.for_ (.nm 6) (.rng (.cons (.var 1) .nil))
    (.cons (.asgT [7, 8] (.tup (.cons (.sub (.var 3) (.neg (.cst (.int 1)))) (.cons (.dct0 false) .nil))))
    (.cons (.for_ (.nm 4) (.e (.var 2))
    (.cons (.asg 9 (.comp true [10] (.sub (.var 7) (.var 10)) (.nm 10) (.e (.meth m_row (.var 0) (.cons (.var 4) .nil))) (.nil)))
    (.cons (.asgS (.var 8) (.var 4) (.bf .tuple true (.cons (.comp true [11] (.bf .sum true (.cons (.comp true [12] (.sub (.var 12) (.var 11)) (.nm 12) (.e (.var 9)) (.nil)) .nil)) (.nm 11) (.rng (.cons (.bf .len true (.cons (.var 2) .nil)) .nil)) (.nil)) .nil))) .nil)))
    (.cons (.ex (.bm .append true (.var 3) (.cons (.var 8) .nil))) .nil))))
    (.cons (.ret (.var 3)) .nil)))
def counts (f_check_scale f_counts_of : Nat) : ISs := .cons (.ex (.call f_check_scale (.cons (.var 0) (.cons (.var 1) (.cons (.var 2) .nil)))))
    (.cons (.ret (.call f_counts_of (.cons (.var 0) (.cons (.var 1) (.cons (.var 2) .nil))))) .nil)
def counts_of (f_count_tables : Nat) : ISs := .cons (.ret (.sub (.sub (.call f_count_tables (.cons (.var 0) (.cons (.var 2) .nil))) (.var 2)) (.var 1))) .nil
def fills : ISs := .cons (.ifs (.notE (.bf .all true (.cons (.comp true [4] (.cmp .In (.var 4) (.var 1)) (.nm 4) (.e (.var 3)) (.nil)) .nil)))
    (.cons (.ret (.cst (.bl false))) .nil)
    (.nil))
    (.cons (.ret (.cmp .Eq (.bf .sum true (.cons (.comp true [4] (.sub (.var 1) (.var 4)) (.nm 4) (.e (.var 3)) (.nil)) .nil)) (.bin .Mult (.var 0) (.var 2)))) .nil)
def is_between (f_is_integer : Nat) : ISs := .cons (.ret (.andE (.cons (.call f_is_integer (.cons (.var 0) .nil)) (.cons (.chain .LtE .LtE (.var 1) (.var 0) (.var 2)) .nil)))) .nil
def is_integer : ISs := .cons (.ret (.andE (.cons (.isi (.var 0) .int) (.cons (.notE (.isi (.var 0) .bool)) .nil)))) .nil
def is_kind (f_is_between f_is_name : Nat) : ISs := .cons (.ifs (.orE (.cons (.notE (.isi (.var 0) .tuple)) (.cons (.cmp .NotEq (.bf .len true (.cons (.var 0) .nil)) (.cst (.int 3))) .nil)))
    (.cons (.ret (.cst (.bl false))) .nil)
    (.nil))
    (.cons (.asgT [1, 2, 3] (.var 0))
    (.cons (.ifs (.orE (.cons (.notE (.call f_is_name (.cons (.var 1) .nil))) (.cons (.notE (.call f_is_between (.cons (.var 2) (.cons (.cst (.int 1)) (.cons (.glb (.int 6)) .nil))))) .nil)))
    (.cons (.ret (.cst (.bl false))) .nil)
    (.nil))
    (.cons (.ret (.andE (.cons (.isi (.var 3) .tuple) (.cons (.cmp .Gt (.bf .len true (.cons (.var 3) .nil)) (.cst (.int 0))) (.cons (.bf .all true (.cons (.comp true [4] (.call f_is_name (.cons (.var 4) .nil)) (.nm 4) (.e (.var 3)) (.nil)) .nil)) .nil))))) .nil)))
def is_name : ISs := .cons (.ret (.andE (.cons (.isi (.var 0) .str) (.cons (.chain .Lt .Lt (.cst (.int 0)) (.bf .len true (.cons (.var 0) .nil)) (.cst (.int 9))) (.cons (.bf .all true (.cons (.comp true [1] (.cmp .In (.var 1) (.glb (.str "abcdefghijklmnopqrstuvwxyz"))) (.nm 1) (.e (.var 0)) (.nil)) .nil)) .nil))))) .nil
def kind_of (f_number_of : Nat) : ISs := .cons (.asgT [1, 2, 3] (.bm .partition true (.var 0) (.cons (.cst (.str ": ")) .nil)))
    (.cons (.asg 4 (.bm .split true (.var 1) (.cons (.cst (.str " ")) .nil)))
    (.cons (.ifs (.cmp .NotEq (.bf .len true (.cons (.var 4) .nil)) (.cst (.int 3)))
    (.cons (.ret (.cst .non)) .nil)
    (.nil))
    (.cons (.ret (.tup (.cons (.sub (.var 4) (.cst (.int 1))) (.cons (.call f_number_of (.cons (.sub (.var 4) (.cst (.int 2))) .nil)) (.cons (.bf .tuple true (.cons (.bm .split true (.var 3) (.cons (.cst (.str " ")) .nil)) .nil)) .nil))))) .nil)))
def law (C_Ruler f_Ruler_read f_law_cell f_law_pool f_law_right f_length : Nat) : ISs := .cons (.asg 1 (.cmeth C_Ruler f_Ruler_read (.cons (.cst (.str "factor 9\nkind w 6: w w w w w w w w w")) .nil)))
    (.cons (.ifs (.cmp .NotEq (.call f_length (.cons (.var 1) (.cons (.cst (.str "w")) (.cons (.cst (.int 40)) .nil)))) (.bin .Mult (.cst (.int 6)) (.bin .Pow (.cst (.int 9)) (.cst (.int 40)))))
    (.cons (.ret (.cst (.bl false))) .nil)
    (.nil))
    (.cons (.for_ (.nm 2) (.rng (.cons (.bf .max true (.cons (.cst (.int 2)) (.cons (.bf .min true (.cons (.bf .len true (.cons (.var 0) .nil)) (.cons (.cst (.int 6)) .nil))) .nil))) .nil))
    (.cons (.ifs (.notE (.call f_law_right (.cons (.call f_law_pool (.cons (.call f_law_cell (.cons (.var 0) (.cons (.var 2) .nil))) .nil)) .nil)))
    (.cons (.ret (.cst (.bl false))) .nil)
    (.nil)) .nil))
    (.cons (.ret (.cst (.bl true))) .nil)))
def law_v1 (f_law_cell f_law_pool f_law_right : Nat) : ISs := .cons (.for_ (.nm 1) (.rng (.cons (.bf .max true (.cons (.cst (.int 2)) (.cons (.bf .min true (.cons (.bf .len true (.cons (.var 0) .nil)) (.cons (.cst (.int 4)) .nil))) .nil))) .nil))
    (.cons (.ifs (.notE (.call f_law_right (.cons (.call f_law_pool (.cons (.call f_law_cell (.cons (.var 0) (.cons (.var 1) .nil))) .nil)) .nil)))
    (.cons (.ret (.cst (.bl false))) .nil)
    (.nil)) .nil))
    (.cons (.ret (.cst (.bl true))) .nil)
def law_cell : ISs := .cons (.ifs (.cmp .Lt (.var 1) (.bf .len true (.cons (.var 0) .nil)))
    (.cons (.ret (.sub (.var 0) (.var 1))) .nil)
    (.nil))
    (.cons (.asg 2 (.bin .Mod (.bf .int true (.cons (.bin .Mult (.cst (.int 61949)) (.bin .Add (.bin .Add (.bin .Mult (.var 1) (.var 1)) (.bin .Mult (.cst (.int 5)) (.var 1))) (.cst (.int 17)))) .nil)) (.cst (.int 2147483629))))
    (.cons (.for_ (.nm 3) (.e (.sl2 (.var 0) (.cst (.int 3))))
    (.cons (.asg 2 (.bin .Mod (.bf .int true (.cons (.bin .Add (.bin .Mult (.var 2) (.cst (.int 52361))) (.var 3)) .nil)) (.cst (.int 2147483629)))) .nil))
    (.cons (.ret (.var 2)) .nil)))
def law_draw : ISs := .cons (.asgS (.var 0) (.cst (.int 2)) (.bin .Add (.sub (.var 0) (.cst (.int 2))) (.cst (.int 1))))
    (.cons (.ifs (.cmp .Gt (.sub (.var 0) (.cst (.int 1))) (.cst (.int 0)))
    (.cons (.asg 2 (.bf .int true (.cons (.sub (.var 0) (.cst (.int 1))) .nil)))
    (.cons (.asgS (.var 0) (.cst (.int 1)) (.bin .FloorDiv (.var 2) (.var 1)))
    (.cons (.ret (.bin .Mod (.bf .int true (.cons (.var 2) .nil)) (.var 1))) .nil)))
    (.nil))
    (.cons (.asg 3 (.bin .Mod (.bf .int true (.cons (.bin .Add (.bin .Add (.bin .Mult (.sub (.var 0) (.cst (.int 0))) (.cst (.int 60013))) (.bin .Mult (.sub (.var 0) (.cst (.int 2))) (.cst (.int 7919)))) (.cst (.int 11))) .nil)) (.cst (.int 2147483629))))
    (.cons (.asgS (.var 0) (.cst (.int 0)) (.bin .Mod (.bf .int true (.cons (.bin .Add (.bin .Mult (.var 3) (.bin .Add (.bin .Mod (.bf .int true (.cons (.var 3) .nil)) (.cst (.int 50021))) (.cst (.int 40009)))) (.sub (.var 0) (.cst (.int 2)))) .nil)) (.cst (.int 2147483587))))
    (.cons (.ret (.bin .Mod (.bf .int true (.cons (.bin .FloorDiv (.sub (.var 0) (.cst (.int 0))) (.cst (.int 32))) .nil)) (.var 1))) .nil))))
def law_factor (f_law_draw : Nat) : ISs := .cons (.ret (.ife (.cmp .Lt (.call f_law_draw (.cons (.var 0) (.cons (.cst (.int 4)) .nil))) (.cst (.int 3))) (.bin .Add (.cst (.int 2)) (.call f_law_draw (.cons (.var 0) (.cons (.cst (.int 2)) .nil)))) (.bin .Add (.cst (.int 2)) (.call f_law_draw (.cons (.var 0) (.cons (.cst (.int 8)) .nil)))))) .nil
def law_fill (f_law_draw : Nat) : ISs := .cons (.asgT [4, 5] (.tup (.cons (.bin .Mult (.var 1) (.sub (.var 2) (.var 3))) (.cons (.lst false (.nil)) .nil))))
    (.cons (.for_ (.nm 6) (.rng (.cons (.cst (.int 54)) .nil))
    (.cons (.asg 7 (.comp true [8] (.var 8) (.nm 8) (.rng (.cons (.bf .len true (.cons (.var 2) .nil)) .nil)) (.cons (.cmp .LtE (.sub (.var 2) (.var 8)) (.var 4)) .nil)))
    (.cons (.ifs (.cmp .Eq (.var 7) (.lst true (.nil)))
    (.cons (.brk) .nil)
    (.nil))
    (.cons (.asg 8 (.sub (.var 7) (.call f_law_draw (.cons (.var 0) (.cons (.bf .len true (.cons (.var 7) .nil)) .nil)))))
    (.cons (.ex (.bm .append true (.var 5) (.cons (.var 8) .nil)))
    (.cons (.asg 4 (.bin .Sub (.var 4) (.sub (.var 2) (.var 8)))) .nil))))))
    (.cons (.ret (.ife (.cmp .Eq (.var 4) (.cst (.int 0))) (.var 5) (.bin .Mult (.lst true (.cons (.var 3) .nil)) (.var 1)))) .nil))
def law_free_names (f_law_draw : Nat) : ISs := .cons (.asgT [2, 3] (.tup (.cons (.cst (.str "abcdefghijklmnopqrstuvwxyz")) (.cons (.lst false (.nil)) .nil))))
    (.cons (.for_ (.nm 4) (.rng (.cons (.var 1) .nil))
    (.cons (.asg 5 (.bin .Add (.cst (.int 1)) (.call f_law_draw (.cons (.var 0) (.cons (.cst (.int 8)) .nil)))))
    (.cons (.asg 6 (.bm .join true (.cst (.str "")) (.cons (.comp true [8] (.sub (.var 2) (.call f_law_draw (.cons (.var 0) (.cons (.cst (.int 26)) .nil)))) (.nm 8) (.rng (.cons (.var 5) .nil)) (.nil)) .nil)))
    (.cons (.ifs (.cmp .In (.var 6) (.var 3))
    (.cons (.asg 7 (.comp true [9] (.var 9) (.nm 9) (.e (.var 2)) (.cons (.cmp .NotIn (.var 9) (.var 3)) .nil)))
    (.cons (.asg 6 (.sub (.var 7) (.call f_law_draw (.cons (.var 0) (.cons (.bf .len true (.cons (.var 7) .nil)) .nil))))) .nil))
    (.nil))
    (.cons (.ex (.bm .append true (.var 3) (.cons (.var 6) .nil))) .nil)))))
    (.cons (.ret (.var 3)) .nil))
def law_later : ISs := .cons (.asg 2 (.bf .dict false (.cons (.comp true [3] (.tup (.cons (.sub (.var 3) (.cst (.int 0))) (.cons (.cst (.int 0)) .nil))) (.nm 3) (.e (.var 0)) (.nil)) .nil)))
    (.cons (.for_ (.tp [3, 4]) (.zip (.var 0) (.var 1))
    (.cons (.for_ (.nm 5) (.e (.sub (.var 3) (.cst (.int 2))))
    (.cons (.asgS (.var 2) (.var 5) (.bin .Add (.sub (.var 2) (.var 5)) (.var 4))) .nil)) .nil))
    (.cons (.ret (.bf .tuple true (.cons (.comp true [3] (.sub (.var 2) (.sub (.var 3) (.cst (.int 0)))) (.nm 3) (.e (.var 0)) (.nil)) .nil))) .nil))
def law_names (f_law_draw f_law_free_names : Nat) : ISs := .cons (.asgT [2, 3] (.tup (.cons (.cst (.str "abcdefghijklmnopqrstuvwxyz")) (.cons (.call f_law_draw (.cons (.var 0) (.cons (.cst (.int 3)) .nil))) .nil))))
    (.cons (.ifs (.cmp .Eq (.var 3) (.cst (.int 0)))
    (.cons (.ret (.call f_law_free_names (.cons (.var 0) (.cons (.var 1) .nil)))) .nil)
    (.nil))
    (.cons (.asgT [4, 5] (.tup (.cons (.call f_law_draw (.cons (.var 0) (.cons (.cst (.int 26)) .nil))) (.cons (.sub (.lst true (.cons (.cst (.int 1)) (.cons (.cst (.int 3)) (.cons (.cst (.int 5)) (.cons (.cst (.int 7)) .nil))))) (.call f_law_draw (.cons (.var 0) (.cons (.cst (.int 4)) .nil)))) .nil))))
    (.cons (.asg 6 (.bm .join true (.cst (.str "")) (.cons (.comp true [7] (.sub (.var 2) (.call f_law_draw (.cons (.var 0) (.cons (.cst (.int 26)) .nil)))) (.nm 7) (.rng (.cons (.cst (.int 8)) .nil)) (.nil)) .nil)))
    (.cons (.ifs (.cmp .Eq (.var 3) (.cst (.int 1)))
    (.cons (.ret (.comp true [7] (.sl2 (.var 6) (.bin .Add (.bin .Mod (.bf .int true (.cons (.bin .Add (.var 4) (.bin .Mult (.var 7) (.var 5))) .nil)) (.cst (.int 8))) (.cst (.int 1)))) (.nm 7) (.rng (.cons (.var 1) .nil)) (.nil))) .nil)
    (.nil))
    (.cons (.asg 8 (.call f_law_draw (.cons (.var 0) (.cons (.cst (.int 8)) .nil))))
    (.cons (.asg 9 (.bin .Add (.var 8) (.call f_law_draw (.cons (.var 0) (.cons (.bin .Sub (.cst (.int 8)) (.var 8)) .nil)))))
    (.cons (.ret (.comp true [7] (.bin .Add (.bin .Add (.sl2 (.var 6) (.var 8)) (.sub (.var 2) (.bin .Mod (.bf .int true (.cons (.bin .Add (.var 4) (.bin .Mult (.var 7) (.var 5))) .nil)) (.cst (.int 26))))) (.sl3 (.var 6) (.var 8) (.var 9))) (.nm 7) (.rng (.cons (.var 1) .nil)) (.nil))) .nil)))))))
def law_pool : ISs := .cons (.asg 1 (.ife (.orE (.cons (.cmp .Lt (.var 0) (.cst (.int 0))) (.cons (.cmp .GtE (.var 0) (.bin .Pow (.cst (.int 10)) (.cst (.int 18)))) .nil))) (.bf .abs true (.cons (.var 0) .nil)) (.cst (.int 0))))
    (.cons (.ret (.lst false (.cons (.bin .Mod (.bf .int true (.cons (.var 0) .nil)) (.cst (.int 2147483629))) (.cons (.var 1) (.cons (.cst (.int 0)) .nil))))) .nil)
def law_right (C_Ruler f_law_factor f_law_sorts f_length : Nat) : ISs := .cons (.asg 1 (.call f_law_factor (.cons (.var 0) .nil)))
    (.cons (.asg 2 (.call f_law_sorts (.cons (.var 0) (.cons (.var 1) (.cons (.cst (.int 5)) (.cons (.cst (.int 6)) .nil))))))
    (.cons (.asg 3 (.new C_Ruler (.cons (.var 1) (.cons (.var 2) .nil))))
    (.cons (.for_ (.nm 4) (.e (.var 2))
    (.cons (.asg 5 (.sub (.var 4) (.cst (.int 1))))
    (.cons (.for_ (.nm 6) (.rng (.cons (.cst (.int 41)) .nil))
    (.cons (.ifs (.cmp .NotEq (.bf .repr true (.cons (.call f_length (.cons (.var 3) (.cons (.sub (.var 4) (.cst (.int 0))) (.cons (.var 6) .nil)))) .nil)) (.bf .repr true (.cons (.var 5) .nil)))
    (.cons (.ret (.cst (.bl false))) .nil)
    (.nil))
    (.cons (.asg 5 (.bin .Mult (.var 5) (.var 1))) .nil))) .nil)))
    (.cons (.asgT [7, 8] (.tup (.cons (.sub (.sub (.var 2) (.cst (.int 0))) (.cst (.int 0))) (.cons (.sub (.sub (.var 2) (.cst (.int 0))) (.cst (.int 1))) .nil))))
    (.cons (.ret (.cmp .Eq (.bf .repr true (.cons (.callK f_length (.nil) (.cons (.cst (.int 1)) (.cons (.var 7) (.cons (.var 3) .nil))) [2, 1, 0]) .nil)) (.bf .repr true (.cons (.bin .Mult (.var 8) (.var 1)) .nil)))) .nil)))))
def law_right_v1 (C_Ruler f_counts f_law_draw f_law_factor f_law_later f_law_sorts f_length : Nat) : ISs := .cons (.asg 1 (.cmp .Eq (.call f_law_draw (.cons (.var 0) (.cons (.cst (.int 4)) .nil))) (.cst (.int 0))))
    (.cons (.asg 2 (.ife (.var 1) (.call f_law_factor (.cons (.var 0) .nil)) (.bin .Add (.cst (.int 2)) (.call f_law_draw (.cons (.var 0) (.cons (.cst (.int 2)) .nil))))))
    (.cons (.asg 3 (.ife (.var 1) (.call f_law_sorts (.cons (.var 0) (.cons (.var 2) (.cons (.cst (.int 3)) (.cons (.cst (.int 6)) .nil))))) (.call f_law_sorts (.cons (.var 0) (.cons (.var 2) (.cons (.cst (.int 4)) (.cons (.cst (.int 3)) .nil)))))))
    (.cons (.asgT [4, 5] (.tup (.cons (.new C_Ruler (.cons (.var 2) (.cons (.var 3) .nil))) (.cons (.sub (.sub (.var 3) (.call f_law_draw (.cons (.var 0) (.cons (.bf .len true (.cons (.var 3) .nil)) .nil)))) (.cst (.int 0))) .nil))))
    (.cons (.asg 6 (.bin .Add (.lst true (.cons (.cst (.int 0)) (.cons (.cst (.int 1)) (.cons (.cst (.int 2)) (.cons (.cst (.int 3)) (.cons (.cst (.int 4)) (.cons (.cst (.int 40)) .nil))))))) (.comp true [7] (.call f_law_draw (.cons (.var 0) (.cons (.cst (.int 41)) .nil))) (.nm 7) (.rng (.cons (.cst (.int 5)) .nil)) (.nil))))
    (.cons (.asg 8 (.bf .tuple true (.cons (.comp true [9] (.bf .int true (.cons (.cmp .Eq (.sub (.var 9) (.cst (.int 0))) (.var 5)) .nil)) (.nm 9) (.e (.var 3)) (.nil)) .nil)))
    (.cons (.for_ (.nm 10) (.rng (.cons (.cst (.int 41)) .nil))
    (.cons (.ifs (.cmp .In (.var 10) (.var 6))
    (.cons (.asg 11 (.call f_counts (.cons (.var 4) (.cons (.var 5) (.cons (.var 10) .nil)))))
    (.cons (.ifs (.cmp .NotEq (.bf .repr true (.cons (.var 11) .nil)) (.bf .repr true (.cons (.var 8) .nil)))
    (.cons (.ret (.cst (.bl false))) .nil)
    (.nil))
    (.cons (.ifs (.cmp .NotEq (.bf .sum true (.cons (.comp true [9, 12] (.bin .Mult (.sub (.var 9) (.cst (.int 1))) (.var 12)) (.tp [9, 12]) (.zip (.var 3) (.var 11)) (.nil)) .nil)) (.call f_length (.cons (.var 4) (.cons (.var 5) (.cons (.var 10) .nil)))))
    (.cons (.ret (.cst (.bl false))) .nil)
    (.nil)) .nil)))
    (.nil))
    (.cons (.asg 8 (.call f_law_later (.cons (.var 3) (.cons (.var 8) .nil)))) .nil)))
    (.cons (.ret (.cmp .Eq (.bf .repr true (.cons (.callK f_counts (.nil) (.cons (.cst (.int 0)) (.cons (.var 5) (.cons (.var 4) .nil))) [2, 1, 0]) .nil)) (.bf .repr true (.cons (.bf .tuple true (.cons (.comp true [9] (.bf .int true (.cons (.cmp .Eq (.sub (.var 9) (.cst (.int 0))) (.var 5)) .nil)) (.nm 9) (.e (.var 3)) (.nil)) .nil)) .nil)))) .nil)))))))
def law_sorts (f_law_draw f_law_fill f_law_names : Nat) : ISs := .cons (.asg 4 (.bin .Add (.cst (.int 1)) (.call f_law_draw (.cons (.var 0) (.cons (.var 2) .nil)))))
    (.cons (.asg 5 (.comp true [6] (.bin .Add (.cst (.int 1)) (.call f_law_draw (.cons (.var 0) (.cons (.var 3) .nil)))) (.nm 6) (.rng (.cons (.var 4) .nil)) (.nil)))
    (.cons (.asg 7 (.comp true [6] (.call f_law_fill (.cons (.var 0) (.cons (.var 1) (.cons (.var 5) (.cons (.var 6) .nil))))) (.nm 6) (.rng (.cons (.var 4) .nil)) (.nil)))
    (.cons (.asg 8 (.call f_law_names (.cons (.var 0) (.cons (.var 4) .nil))))
    (.cons (.asg 9 (.lst false (.nil)))
    (.cons (.for_ (.nm 6) (.rng (.cons (.var 4) .nil))
    (.cons (.ex (.bm .append true (.var 9) (.cons (.tup (.cons (.sub (.var 8) (.var 6)) (.cons (.sub (.var 5) (.var 6)) (.cons (.bf .tuple true (.cons (.comp true [10] (.sub (.var 8) (.var 10)) (.nm 10) (.e (.sub (.var 7) (.var 6))) (.nil)) .nil)) .nil)))) .nil))) .nil))
    (.cons (.ret (.bf .tuple true (.cons (.var 9) .nil))) .nil))))))
def length (f_check_scale f_length_of : Nat) : ISs := .cons (.ex (.call f_check_scale (.cons (.var 0) (.cons (.var 1) (.cons (.var 2) .nil)))))
    (.cons (.ret (.call f_length_of (.cons (.var 0) (.cons (.var 1) (.cons (.var 2) .nil))))) .nil)
def length_of (f_power m_factor m_width : Nat) : ISs := .cons (.ret (.bin .Mult (.meth m_width (.var 0) (.cons (.var 1) .nil)) (.call f_power (.cons (.attr (.var 0) m_factor) (.cons (.var 2) .nil))))) .nil
def line_of : ISs := .cons (.asgT [1, 2, 3] (.var 0))
    (.cons (.ret (.bin .Add (.fstr (.cons (.cst (.str "kind ")) (.cons (.var 1) (.cons (.cst (.str " ")) (.cons (.var 2) (.cons (.cst (.str ": ")) .nil)))))) (.bm .join true (.cst (.str " ")) (.cons (.var 3) .nil)))) .nil)
def number_of : ISs := .cons (.ret (.ife (.cmp .Eq (.bf .len true (.cons (.var 0) .nil)) (.cst (.int 1))) (.bm .find true (.glb (.str "0123456789")) (.cons (.var 0) .nil)) (.neg (.cst (.int 1))))) .nil
def power : ISs := .cons (.asg 2 (.cst (.int 1)))
    (.cons (.for_ (.nm 3) (.rng (.cons (.var 1) .nil))
    (.cons (.asg 2 (.bin .Mult (.var 2) (.var 0))) .nil))
    (.cons (.ret (.var 2)) .nil))
end PyI.Lib
set_option Elab.async false
set_option linter.all false
set_option maxRecDepth 100000
set_option maxHeartbeats 8000000
namespace K14
open PySem PySem.Spec PyProof.Rows L2 PyI
open He (ga ma)
def top (i : Nat) : Stmt := PySem.Challenge.pw_cutfiner_k14_whole_counts_at_all_depths.main.body.getD i (.Pass ⟨0, 0, 0, 0⟩)
def mtop (i j : Nat) : Stmt := match top i with
  | .ClassDef _ _ _ b _ _ _ _ _ _ _ => b.getD j (.Pass ⟨0, 0, 0, 0⟩)
  | _ => .Pass ⟨0, 0, 0, 0⟩
/- 0: _law_draw -/
def ir0 : ISs := Lib.law_draw
def fn0 : FnDef := ⟨2, 4, ir0, 1, false⟩
def row0 : PyI.Row := ⟨fun K => ga K "_law_draw", "_law_draw", "_law_draw", top 43, [Str.ofString "_law_pool_here", Str.ofString "_law_many"], fn0, [Str.ofString "_law_pool_here", Str.ofString "_law_many", Str.ofString "_law_left", Str.ofString "_law_one"]⟩
/- 1: _law_factor -/
def ir1 : ISs := Lib.law_factor 0
def fn1 : FnDef := ⟨1, 1, ir1, 2, false⟩
def row1 : PyI.Row := ⟨fun K => ga K "_law_factor", "_law_factor", "_law_factor", top 46, [Str.ofString "_law_pool_here"], fn1, [Str.ofString "_law_pool_here"]⟩
/- 2: _law_fill -/
def ir2 : ISs := Lib.law_fill 0
def fn2 : FnDef := ⟨4, 9, ir2, 2, false⟩
def row2 : PyI.Row := ⟨fun K => ga K "_law_fill", "_law_fill", "_law_fill", top 47, [Str.ofString "_law_pool_here", Str.ofString "_law_q", Str.ofString "_law_widths", Str.ofString "_law_at"], fn2, [Str.ofString "_law_pool_here", Str.ofString "_law_q", Str.ofString "_law_widths", Str.ofString "_law_at", Str.ofString "_law_left", Str.ofString "_law_found", Str.ofString "_law_turn", Str.ofString "_law_able", Str.ofString "_law_k"]⟩
/- 3: _law_free_names -/
def ir3 : ISs := Lib.law_free_names 0
def fn3 : FnDef := ⟨2, 10, ir3, 2, false⟩
def row3 : PyI.Row := ⟨fun K => ga K "_law_free_names", "_law_free_names", "_law_free_names", top 44, [Str.ofString "_law_pool_here", Str.ofString "_law_many"], fn3, [Str.ofString "_law_pool_here", Str.ofString "_law_many", Str.ofString "_law_signs", Str.ofString "_law_found", Str.ofString "_law_k", Str.ofString "_law_size", Str.ofString "_law_name", Str.ofString "_law_spare", Str.ofString "_law_turn", Str.ofString "_law_sign"]⟩
/- 4: _law_names -/
def ir4 : ISs := Lib.law_names 0 3
def fn4 : FnDef := ⟨2, 10, ir4, 3, false⟩
def row4 : PyI.Row := ⟨fun K => ga K "_law_names", "_law_names", "_law_names", top 45, [Str.ofString "_law_pool_here", Str.ofString "_law_many"], fn4, [Str.ofString "_law_pool_here", Str.ofString "_law_many", Str.ofString "_law_signs", Str.ofString "_law_way", Str.ofString "_law_turn", Str.ofString "_law_step", Str.ofString "_law_stem", Str.ofString "_law_k", Str.ofString "_law_at", Str.ofString "_law_end"]⟩
/- 5: _law_sorts -/
def ir5 : ISs := Lib.law_sorts 0 2 4
def fn5 : FnDef := ⟨4, 11, ir5, 4, false⟩
def row5 : PyI.Row := ⟨fun K => ga K "_law_sorts", "_law_sorts", "_law_sorts", top 48, [Str.ofString "_law_pool_here", Str.ofString "_law_q", Str.ofString "_law_most", Str.ofString "_law_wide"], fn5, [Str.ofString "_law_pool_here", Str.ofString "_law_q", Str.ofString "_law_most", Str.ofString "_law_wide", Str.ofString "_law_many", Str.ofString "_law_widths", Str.ofString "_law_k", Str.ofString "_law_rows", Str.ofString "_law_names_here", Str.ofString "_law_sorts_here", Str.ofString "_law_j"]⟩
/- 6: is_integer -/
def ir6 : ISs := Lib.is_integer
def fn6 : FnDef := ⟨1, 1, ir6, 1, false⟩
def row6 : PyI.Row := ⟨fun K => ga K "is_integer", "is_integer", "is_integer", top 12, [Str.ofString "value"], fn6, [Str.ofString "value"]⟩
/- 7: is_between -/
def ir7 : ISs := Lib.is_between 6
def fn7 : FnDef := ⟨3, 3, ir7, 2, false⟩
def row7 : PyI.Row := ⟨fun K => ga K "is_between", "is_between", "is_between", top 13, [Str.ofString "value", Str.ofString "least", Str.ofString "most"], fn7, [Str.ofString "value", Str.ofString "least", Str.ofString "most"]⟩
/- 8: is_name -/
def ir8 : ISs := Lib.is_name
def fn8 : FnDef := ⟨1, 2, ir8, 1, false⟩
def row8 : PyI.Row := ⟨fun K => ga K "is_name", "is_name", "is_name", top 14, [Str.ofString "value"], fn8, [Str.ofString "value", Str.ofString "sign"]⟩
/- 9: is_kind -/
def ir9 : ISs := Lib.is_kind 7 8
def fn9 : FnDef := ⟨1, 5, ir9, 3, false⟩
def row9 : PyI.Row := ⟨fun K => ga K "is_kind", "is_kind", "is_kind", top 22, [Str.ofString "value"], fn9, [Str.ofString "value", Str.ofString "name", Str.ofString "width", Str.ofString "row", Str.ofString "part"]⟩
/- 10: fills -/
def ir10 : ISs := Lib.fills
def fn10 : FnDef := ⟨4, 5, ir10, 1, false⟩
def row10 : PyI.Row := ⟨fun K => ga K "fills", "fills", "fills", top 23, [Str.ofString "factor", Str.ofString "widths", Str.ofString "width", Str.ofString "row"], fn10, [Str.ofString "factor", Str.ofString "widths", Str.ofString "width", Str.ofString "row", Str.ofString "part"]⟩
/- 11: check_kinds -/
def ir11 : ISs := Lib.check_kinds 10 9
def fn11 : FnDef := ⟨2, 5, ir11, 4, false⟩
def row11 : PyI.Row := ⟨fun K => ga K "check_kinds", "check_kinds", "check_kinds", top 24, [Str.ofString "factor", Str.ofString "kinds"], fn11, [Str.ofString "factor", Str.ofString "kinds", Str.ofString "widths", Str.ofString "index", Str.ofString "kind"]⟩
/- 12: Ruler.__init__ -/
def ir12 : ISs := Lib.Ruler_init 11 7 2 0 1
def fn12 : FnDef := ⟨3, 6, ir12, 5, true⟩
def row12 : PyI.Row := ⟨fun K => ma K (ga K "Ruler") "__init__", "__init__", "Ruler.__init__", mtop 30 0, [Str.ofString "self", Str.ofString "factor", Str.ofString "kinds"], fn12, [Str.ofString "self", Str.ofString "factor", Str.ofString "kinds", Str.ofString "name", Str.ofString "width", Str.ofString "row"]⟩
/- 13: line_of -/
def ir13 : ISs := Lib.line_of
def fn13 : FnDef := ⟨1, 4, ir13, 1, false⟩
def row13 : PyI.Row := ⟨fun K => ga K "line_of", "line_of", "line_of", top 25, [Str.ofString "kind"], fn13, [Str.ofString "kind", Str.ofString "name", Str.ofString "width", Str.ofString "row"]⟩
/- 14: Ruler.__str__ -/
def ir14 : ISs := Lib.Ruler_str 13 2
def fn14 : FnDef := ⟨1, 2, ir14, 2, false⟩
def row14 : PyI.Row := ⟨fun K => ma K (ga K "Ruler") "__str__", "__str__", "Ruler.__str__", mtop 30 9, [Str.ofString "self"], fn14, [Str.ofString "self", Str.ofString "kind"]⟩
/- 15: check_ruler -/
def ir15 : ISs := Lib.check_ruler 0
def fn15 : FnDef := ⟨1, 1, ir15, 6, false⟩
def row15 : PyI.Row := ⟨fun K => ga K "check_ruler", "check_ruler", "check_ruler", top 31, [Str.ofString "ruler"], fn15, [Str.ofString "ruler"]⟩
/- 16: Ruler.names -/
def ir16 : ISs := Lib.Ruler_names 2
def fn16 : FnDef := ⟨1, 2, ir16, 1, false⟩
def row16 : PyI.Row := ⟨fun K => propAd K "Ruler" "names", "names", "Ruler.names", mtop 30 4, [Str.ofString "self"], fn16, [Str.ofString "self", Str.ofString "kind"]⟩
/- 17: check_kind -/
def ir17 : ISs := Lib.check_kind 8 3
def fn17 : FnDef := ⟨2, 2, ir17, 2, false⟩
def row17 : PyI.Row := ⟨fun K => ga K "check_kind", "check_kind", "check_kind", top 28, [Str.ofString "ruler", Str.ofString "kind"], fn17, [Str.ofString "ruler", Str.ofString "kind"]⟩
/- 18: check_depth -/
def ir18 : ISs := Lib.check_depth 7
def fn18 : FnDef := ⟨1, 1, ir18, 3, false⟩
def row18 : PyI.Row := ⟨fun K => ga K "check_depth", "check_depth", "check_depth", top 29, [Str.ofString "depth"], fn18, [Str.ofString "depth"]⟩
/- 19: check_scale -/
def ir19 : ISs := Lib.check_scale 18 17 15
def fn19 : FnDef := ⟨3, 3, ir19, 7, false⟩
def row19 : PyI.Row := ⟨fun K => ga K "check_scale", "check_scale", "check_scale", top 33, [Str.ofString "ruler", Str.ofString "kind", Str.ofString "depth"], fn19, [Str.ofString "ruler", Str.ofString "kind", Str.ofString "depth"]⟩
/- 20: Ruler.row -/
def ir20 : ISs := Lib.Ruler_row 17 0
def fn20 : FnDef := ⟨2, 2, ir20, 3, false⟩
def row20 : PyI.Row := ⟨fun K => ma K (ga K "Ruler") "row", "row", "Ruler.row", mtop 30 6, [Str.ofString "self", Str.ofString "kind"], fn20, [Str.ofString "self", Str.ofString "kind"]⟩
/- 21: count_tables -/
def ir21 : ISs := Lib.count_tables 3 4
def fn21 : FnDef := ⟨2, 13, ir21, 4, false⟩
def row21 : PyI.Row := ⟨fun K => ga K "count_tables", "count_tables", "count_tables", top 35, [Str.ofString "ruler", Str.ofString "depth"], fn21, [Str.ofString "ruler", Str.ofString "depth", Str.ofString "names", Str.ofString "tables", Str.ofString "name", Str.ofString "other", Str.ofString "turn", Str.ofString "last", Str.ofString "later", Str.ofString "below", Str.ofString "part", Str.ofString "index", Str.ofString "numbers"]⟩
/- 22: counts_of -/
def ir22 : ISs := Lib.counts_of 21
def fn22 : FnDef := ⟨3, 3, ir22, 5, false⟩
def row22 : PyI.Row := ⟨fun K => ga K "counts_of", "counts_of", "counts_of", top 36, [Str.ofString "ruler", Str.ofString "kind", Str.ofString "depth"], fn22, [Str.ofString "ruler", Str.ofString "kind", Str.ofString "depth"]⟩
/- 23: counts -/
def ir23 : ISs := Lib.counts 19 22
def fn23 : FnDef := ⟨3, 3, ir23, 8, false⟩
def row23 : PyI.Row := ⟨fun K => ga K "counts", "counts", "counts", top 39, [Str.ofString "ruler", Str.ofString "kind", Str.ofString "depth"], fn23, [Str.ofString "ruler", Str.ofString "kind", Str.ofString "depth"]⟩
/- 24: Ruler.width -/
def ir24 : ISs := Lib.Ruler_width 17 1
def fn24 : FnDef := ⟨2, 2, ir24, 3, false⟩
def row24 : PyI.Row := ⟨fun K => ma K (ga K "Ruler") "width", "width", "Ruler.width", mtop 30 5, [Str.ofString "self", Str.ofString "kind"], fn24, [Str.ofString "self", Str.ofString "kind"]⟩
/- 25: power -/
def ir25 : ISs := Lib.power
def fn25 : FnDef := ⟨2, 4, ir25, 1, false⟩
def row25 : PyI.Row := ⟨fun K => ga K "power", "power", "power", top 15, [Str.ofString "base", Str.ofString "many"], fn25, [Str.ofString "base", Str.ofString "many", Str.ofString "found", Str.ofString "count"]⟩
/- 26: Ruler.factor -/
def ir26 : ISs := Lib.Ruler_factor 2
def fn26 : FnDef := ⟨1, 1, ir26, 1, false⟩
def row26 : PyI.Row := ⟨fun K => propAd K "Ruler" "factor", "factor", "Ruler.factor", mtop 30 2, [Str.ofString "self"], fn26, [Str.ofString "self"]⟩
/- 27: length_of -/
def ir27 : ISs := Lib.length_of 25 6 5
def fn27 : FnDef := ⟨3, 3, ir27, 4, false⟩
def row27 : PyI.Row := ⟨fun K => ga K "length_of", "length_of", "length_of", top 34, [Str.ofString "ruler", Str.ofString "kind", Str.ofString "depth"], fn27, [Str.ofString "ruler", Str.ofString "kind", Str.ofString "depth"]⟩
/- 28: length -/
def ir28 : ISs := Lib.length 19 27
def fn28 : FnDef := ⟨3, 3, ir28, 8, false⟩
def row28 : PyI.Row := ⟨fun K => ga K "length", "length", "length", top 37, [Str.ofString "ruler", Str.ofString "kind", Str.ofString "depth"], fn28, [Str.ofString "ruler", Str.ofString "kind", Str.ofString "depth"]⟩
/- 29: _law_later -/
def ir29 : ISs := Lib.law_later
def fn29 : FnDef := ⟨2, 6, ir29, 1, false⟩
def row29 : PyI.Row := ⟨fun K => ga K "_law_later", "_law_later", "_law_later", top 49, [Str.ofString "_law_sorts_here", Str.ofString "_law_numbers"], fn29, [Str.ofString "_law_sorts_here", Str.ofString "_law_numbers", Str.ofString "_law_later_here", Str.ofString "_law_sort", Str.ofString "_law_many", Str.ofString "_law_part"]⟩
/- 30: _law_right -/
def ir30 : ISs := Lib.law_right_v1 0 23 0 1 29 5 28
def fn30 : FnDef := ⟨1, 13, ir30, 9, false⟩
def row30 : PyI.Row := ⟨fun K => ga K "_law_right", "_law_right", "_law_right", top 50, [Str.ofString "_law_pool_here"], fn30, [Str.ofString "_law_pool_here", Str.ofString "_law_big", Str.ofString "_law_q", Str.ofString "_law_sorts_here", Str.ofString "_law_mine", Str.ofString "_law_name", Str.ofString "_law_some", Str.ofString "_law_turn", Str.ofString "_law_due", Str.ofString "_law_sort", Str.ofString "_law_deep", Str.ofString "_law_told", Str.ofString "_law_many"]⟩
/- 31: _law_pool -/
def ir31 : ISs := Lib.law_pool
def fn31 : FnDef := ⟨1, 2, ir31, 1, true⟩
def row31 : PyI.Row := ⟨fun K => ga K "_law_pool", "_law_pool", "_law_pool", top 42, [Str.ofString "_law_cell_here"], fn31, [Str.ofString "_law_cell_here", Str.ofString "_law_left"]⟩
/- 32: _law_cell -/
def ir32 : ISs := Lib.law_cell
def fn32 : FnDef := ⟨2, 4, ir32, 1, false⟩
def row32 : PyI.Row := ⟨fun K => ga K "_law_cell", "_law_cell", "_law_cell", top 41, [Str.ofString "_law_cells", Str.ofString "_law_k"], fn32, [Str.ofString "_law_cells", Str.ofString "_law_k", Str.ofString "_law_seed", Str.ofString "_law_cell_here"]⟩
/- 33: law -/
def ir33 : ISs := Lib.law_v1 32 31 30
def fn33 : FnDef := ⟨1, 2, ir33, 10, false⟩
def row33 : PyI.Row := ⟨fun K => ga K "law", "law", "law", top 51, [Str.ofString "_law_cells"], fn33, [Str.ofString "_law_cells", Str.ofString "_law_k"]⟩
def rows : List PyI.Row := [row0, row1, row2, row3, row4, row5, row6, row7, row8, row9, row10, row11, row12, row13, row14, row15, row16, row17, row18, row19, row20, row21, row22, row23, row24, row25, row26, row27, row28, row29, row30, row31, row32, row33]
def clss : List CRow := [⟨"Ruler", { props := [(6, 26), (3, 16)], meths := [(5, 24), (4, 20)], init := 12, frz := true, strm := some 14 }⟩]
def gls : List (Str × GV) := [((Str.ofString "law"), GV.fn 33), ((Str.ofString "int"), GV.none_), ((Str.ofString "_law_draw"), GV.fn 0), ((Str.ofString "range"), GV.none_), ((Str.ofString "len"), GV.none_), ((Str.ofString "_law_free_names"), GV.fn 3), ((Str.ofString "tuple"), GV.none_), ((Str.ofString "_law_names"), GV.fn 4), ((Str.ofString "_law_fill"), GV.fn 2), ((Str.ofString "isinstance"), GV.none_), ((Str.ofString "bool"), GV.none_), ((Str.ofString "is_integer"), GV.fn 6), ((Str.ofString "all"), GV.none_), ((Str.ofString "LETTERS"), GV.cst (.str "abcdefghijklmnopqrstuvwxyz")), ((Str.ofString "str"), GV.none_), ((Str.ofString "is_name"), GV.fn 8), ((Str.ofString "is_between"), GV.fn 7), ((Str.ofString "MOST_WIDTH"), GV.cst (.int 6)), ((Str.ofString "sum"), GV.none_), ((Str.ofString "enumerate"), GV.none_), ((Str.ofString "fills"), GV.fn 10), ((Str.ofString "is_kind"), GV.fn 9), ((Str.ofString "MOST_KINDS"), GV.cst (.int 5)), ((Str.ofString "check_kinds"), GV.fn 11), ((Str.ofString "MOST_FACTOR"), GV.cst (.int 9)), ((Str.ofString "line_of"), GV.fn 13), ((Str.ofString "Ruler"), GV.cls 0), ((Str.ofString "MOST_DEPTH"), GV.cst (.int 40)), ((Str.ofString "check_depth"), GV.fn 18), ((Str.ofString "check_kind"), GV.fn 17), ((Str.ofString "check_ruler"), GV.fn 15), ((Str.ofString "count_tables"), GV.fn 21), ((Str.ofString "counts_of"), GV.fn 22), ((Str.ofString "check_scale"), GV.fn 19), ((Str.ofString "power"), GV.fn 25), ((Str.ofString "length_of"), GV.fn 27), ((Str.ofString "zip"), GV.none_), ((Str.ofString "dict"), GV.none_), ((Str.ofString "repr"), GV.none_), ((Str.ofString "counts"), GV.fn 23), ((Str.ofString "_law_later"), GV.fn 29), ((Str.ofString "length"), GV.fn 28), ((Str.ofString "_law_sorts"), GV.fn 5), ((Str.ofString "_law_factor"), GV.fn 1), ((Str.ofString "abs"), GV.none_), ((Str.ofString "max"), GV.none_), ((Str.ofString "min"), GV.none_), ((Str.ofString "_law_right"), GV.fn 30), ((Str.ofString "_law_pool"), GV.fn 31), ((Str.ofString "_law_cell"), GV.fn 32)]
def D : PyI.Data := { rows := rows, cls := clss, gl := gls, fl := [Str.ofString "rows", Str.ofString "widths", Str.ofString "held", Str.ofString "names", Str.ofString "row", Str.ofString "width", Str.ofString "factor"], kl := [(23, 0, [Str.ofString "depth", Str.ofString "kind", Str.ofString "ruler"], [2, 1, 0])], cm := [] }
end K14
set_option Elab.async false
set_option linter.all false
set_option maxRecDepth 100000
set_option maxHeartbeats 8000000
namespace K14
open PySem PySem.Spec PyProof.Rows L2 PyI
theorem tx0 : D.rowB row0 = true := by decide +kernel
theorem tx1 : D.rowB row1 = true := by decide +kernel
theorem tx2 : D.rowB row2 = true := by decide +kernel
theorem tx3 : D.rowB row3 = true := by decide +kernel
theorem tx4 : D.rowB row4 = true := by decide +kernel
theorem tx5 : D.rowB row5 = true := by decide +kernel
theorem tx6 : D.rowB row6 = true := by decide +kernel
theorem tx7 : D.rowB row7 = true := by decide +kernel
theorem tx8 : D.rowB row8 = true := by decide +kernel
theorem tx9 : D.rowB row9 = true := by decide +kernel
theorem tx10 : D.rowB row10 = true := by decide +kernel
theorem tx11 : D.rowB row11 = true := by decide +kernel
theorem tx12 : D.rowB row12 = true := by decide +kernel
theorem tx13 : D.rowB row13 = true := by decide +kernel
theorem tx14 : D.rowB row14 = true := by decide +kernel
theorem tx15 : D.rowB row15 = true := by decide +kernel
theorem tx16 : D.rowB row16 = true := by decide +kernel
theorem tx17 : D.rowB row17 = true := by decide +kernel
theorem tx18 : D.rowB row18 = true := by decide +kernel
theorem tx19 : D.rowB row19 = true := by decide +kernel
theorem tx20 : D.rowB row20 = true := by decide +kernel
theorem tx21 : D.rowB row21 = true := by decide +kernel
theorem tx22 : D.rowB row22 = true := by decide +kernel
theorem tx23 : D.rowB row23 = true := by decide +kernel
theorem tx24 : D.rowB row24 = true := by decide +kernel
theorem tx25 : D.rowB row25 = true := by decide +kernel
theorem tx26 : D.rowB row26 = true := by decide +kernel
theorem tx27 : D.rowB row27 = true := by decide +kernel
theorem tx28 : D.rowB row28 = true := by decide +kernel
theorem tx29 : D.rowB row29 = true := by decide +kernel
theorem tx30 : D.rowB row30 = true := by decide +kernel
theorem tx31 : D.rowB row31 = true := by decide +kernel
theorem tx32 : D.rowB row32 = true := by decide +kernel
theorem tx33 : D.rowB row33 = true := by decide +kernel
theorem text : D.textB = true := by
  unfold PyI.Data.textB
  rw [Bool.and_eq_true, Bool.and_eq_true, Bool.and_eq_true]
  refine ⟨by decide +kernel, ?_, by decide +kernel, by decide +kernel⟩
  show rows.all D.rowB = true
  unfold rows
  simp only [List.all_cons, List.all_nil, tx0, tx1, tx2, tx3, tx4, tx5, tx6, tx7, tx8, tx9, tx10, tx11, tx12, tx13, tx14, tx15, tx16, tx17, tx18, tx19, tx20, tx21, tx22, tx23, tx24, tx25, tx26, tx27, tx28, tx29, tx30, tx31, tx32, tx33, Bool.and_self]
theorem bd0 : PyI.Data.BindOk row0 := fun _ _ _ _ _ _ us hl => match us, hl with | [_, _], _ => rfl
theorem bd1 : PyI.Data.BindOk row1 := fun _ _ _ _ _ _ us hl => match us, hl with | [_], _ => rfl
theorem bd2 : PyI.Data.BindOk row2 := fun _ _ _ _ _ _ us hl => match us, hl with | [_, _, _, _], _ => rfl
theorem bd3 : PyI.Data.BindOk row3 := fun _ _ _ _ _ _ us hl => match us, hl with | [_, _], _ => rfl
theorem bd4 : PyI.Data.BindOk row4 := fun _ _ _ _ _ _ us hl => match us, hl with | [_, _], _ => rfl
theorem bd5 : PyI.Data.BindOk row5 := fun _ _ _ _ _ _ us hl => match us, hl with | [_, _, _, _], _ => rfl
theorem bd6 : PyI.Data.BindOk row6 := fun _ _ _ _ _ _ us hl => match us, hl with | [_], _ => rfl
theorem bd7 : PyI.Data.BindOk row7 := fun _ _ _ _ _ _ us hl => match us, hl with | [_, _, _], _ => rfl
theorem bd8 : PyI.Data.BindOk row8 := fun _ _ _ _ _ _ us hl => match us, hl with | [_], _ => rfl
theorem bd9 : PyI.Data.BindOk row9 := fun _ _ _ _ _ _ us hl => match us, hl with | [_], _ => rfl
theorem bd10 : PyI.Data.BindOk row10 := fun _ _ _ _ _ _ us hl => match us, hl with | [_, _, _, _], _ => rfl
theorem bd11 : PyI.Data.BindOk row11 := fun _ _ _ _ _ _ us hl => match us, hl with | [_, _], _ => rfl
theorem bd12 : PyI.Data.BindOk row12 := fun _ _ _ _ _ _ us hl => match us, hl with | [_, _, _], _ => rfl
theorem bd13 : PyI.Data.BindOk row13 := fun _ _ _ _ _ _ us hl => match us, hl with | [_], _ => rfl
theorem bd14 : PyI.Data.BindOk row14 := fun _ _ _ _ _ _ us hl => match us, hl with | [_], _ => rfl
theorem bd15 : PyI.Data.BindOk row15 := fun _ _ _ _ _ _ us hl => match us, hl with | [_], _ => rfl
theorem bd16 : PyI.Data.BindOk row16 := fun _ _ _ _ _ _ us hl => match us, hl with | [_], _ => rfl
theorem bd17 : PyI.Data.BindOk row17 := fun _ _ _ _ _ _ us hl => match us, hl with | [_, _], _ => rfl
theorem bd18 : PyI.Data.BindOk row18 := fun _ _ _ _ _ _ us hl => match us, hl with | [_], _ => rfl
theorem bd19 : PyI.Data.BindOk row19 := fun _ _ _ _ _ _ us hl => match us, hl with | [_, _, _], _ => rfl
theorem bd20 : PyI.Data.BindOk row20 := fun _ _ _ _ _ _ us hl => match us, hl with | [_, _], _ => rfl
theorem bd21 : PyI.Data.BindOk row21 := fun _ _ _ _ _ _ us hl => match us, hl with | [_, _], _ => rfl
theorem bd22 : PyI.Data.BindOk row22 := fun _ _ _ _ _ _ us hl => match us, hl with | [_, _, _], _ => rfl
theorem bd23 : PyI.Data.BindOk row23 := fun _ _ _ _ _ _ us hl => match us, hl with | [_, _, _], _ => rfl
theorem bd24 : PyI.Data.BindOk row24 := fun _ _ _ _ _ _ us hl => match us, hl with | [_, _], _ => rfl
theorem bd25 : PyI.Data.BindOk row25 := fun _ _ _ _ _ _ us hl => match us, hl with | [_, _], _ => rfl
theorem bd26 : PyI.Data.BindOk row26 := fun _ _ _ _ _ _ us hl => match us, hl with | [_], _ => rfl
theorem bd27 : PyI.Data.BindOk row27 := fun _ _ _ _ _ _ us hl => match us, hl with | [_, _, _], _ => rfl
theorem bd28 : PyI.Data.BindOk row28 := fun _ _ _ _ _ _ us hl => match us, hl with | [_, _, _], _ => rfl
theorem bd29 : PyI.Data.BindOk row29 := fun _ _ _ _ _ _ us hl => match us, hl with | [_, _], _ => rfl
theorem bd30 : PyI.Data.BindOk row30 := fun _ _ _ _ _ _ us hl => match us, hl with | [_], _ => rfl
theorem bd31 : PyI.Data.BindOk row31 := fun _ _ _ _ _ _ us hl => match us, hl with | [_], _ => rfl
theorem bd32 : PyI.Data.BindOk row32 := fun _ _ _ _ _ _ us hl => match us, hl with | [_, _], _ => rfl
theorem bd33 : PyI.Data.BindOk row33 := fun _ _ _ _ _ _ us hl => match us, hl with | [_], _ => rfl
theorem binds : ∀ r ∈ D.rows, PyI.Data.BindOk r := by
  show ∀ r ∈ rows, PyI.Data.BindOk r
  unfold rows
  simp only [List.forall_mem_cons]
  exact ⟨bd0, bd1, bd2, bd3, bd4, bd5, bd6, bd7, bd8, bd9, bd10, bd11, bd12, bd13, bd14, bd15, bd16, bd17, bd18, bd19, bd20, bd21, bd22, bd23, bd24, bd25, bd26, bd27, bd28, bd29, bd30, bd31, bd32, bd33, fun _ h => nomatch h⟩
theorem kw0 : D.KwB (23, 0, [Str.ofString "depth", Str.ofString "kind", Str.ofString "ruler"], [2, 1, 0]) := by
  intro r hr kV doc pm an cdv ct us ws l1 l2
  cases hr
  exact match us, ws, l1, l2 with | [], [_, _, _], _, _ => rfl
theorem kws : ∀ x ∈ D.kl, D.KwB x := by
  unfold D
  simp only [List.forall_mem_cons]
  exact ⟨kw0, fun _ h => nomatch h⟩
theorem fln : D.fl.Nodup := by decide +kernel
end K14
set_option Elab.async false
set_option linter.all false
set_option maxRecDepth 100000
set_option maxHeartbeats 0
namespace K14
open PySem PySem.Spec PyProof.Rows L2 PyI
def nms0 : List PySem.Str := [Str.ofString "_wall", Str.ofString "__name__", Str.ofString "NotRight", Str.ofString "InvalidFactor", Str.ofString "InvalidText", Str.ofString "InvalidNumber", Str.ofString "NotARuler", Str.ofString "InvalidKinds", Str.ofString "NotThere", Str.ofString "UnknownKind", Str.ofString "LETTERS", Str.ofString "is_integer", Str.ofString "is_between", Str.ofString "is_name", Str.ofString "power", Str.ofString "MOST_KINDS", Str.ofString "MOST_WIDTH", Str.ofString "MOST_FACTOR", Str.ofString "MOST_DEPTH", Str.ofString "DIGITS", Str.ofString "is_kind", Str.ofString "fills", Str.ofString "check_kinds", Str.ofString "line_of", Str.ofString "number_of", Str.ofString "kind_of", Str.ofString "check_kind", Str.ofString "check_depth", Str.ofString "Ruler", Str.ofString "check_ruler", Str.ofString "check_scale", Str.ofString "length_of", Str.ofString "count_tables", Str.ofString "counts_of", Str.ofString "length", Str.ofString "counts", Str.ofString "_law_cell", Str.ofString "_law_pool"]
def nms1 : List PySem.Str := [Str.ofString "_law_draw", Str.ofString "_law_free_names", Str.ofString "_law_names", Str.ofString "_law_factor", Str.ofString "_law_fill", Str.ofString "_law_sorts", Str.ofString "_law_later", Str.ofString "_law_right"]
def nms : List PySem.Str := nms0 ++ nms1
abbrev R0 : PySem.W.OpenRow := PySem.W.OpenLaw.row PySem.Challenge.rw_cutfiner_k14_whole_counts_at_all_depths
abbrev hk : PySem.W.Hook := D.hook 6
def ob (s : PySem.W.SharedT) : PyI.Data.Seen := D.seenG 6 (HandSHeadRun.getT s)
theorem ob_eq (s : PySem.W.SharedT) : ob s = hk.obs s.abs := D.seenG_eq (HandSHeadRun.getT_eq s)
theorem run (w : World) : HandSHeadRun.RunEq R0 (PySem.W.view R0.prog [51]) hk ob 8000 nms w := by
  intro os
  kernel_rfl
end K14
set_option Elab.async false
set_option linter.all false
set_option maxRecDepth 100000
set_option maxHeartbeats 2000000
/-! PyWp: what a run of the small language gives, as a condition -/
namespace PyI
open PySem
def Res.sat {α : Type} (r : Res α) (P : α → Store → Prop) : Prop := match r with
  | .ok a S => P a S
  | _ => False
def SR.sat (r : SR) (P : Fl → Ev → Store → Prop) : Prop := match r with
  | .ok f ps S => P f ps S
  | _ => False
section
variable {α β : Type}
@[simp] theorem Res.sat_ok (a : α) (S : Store) (P : α → Store → Prop) : (Res.ok a S).sat P = P a S := rfl
@[simp] theorem Res.sat_stuck (P : α → Store → Prop) : (Res.stuck : Res α).sat P = False := rfl
@[simp] theorem Res.sat_exn (x : Exc) (S : Store) (P : α → Store → Prop) : (Res.exn x S : Res α).sat P = False := rfl
@[simp] theorem Res.sat_bind (r : Res α) (k : α → Store → Res β) (P : β → Store → Prop) : (r.bind k).sat P = r.sat fun a S => (k a S).sat P := by cases r <;> rfl
@[simp] theorem Res.sat_guard (c : Bool) (r : Res α) (P : α → Store → Prop) : (guardR c r).sat P = (c = true ∧ r.sat P) := by
  cases c
  · simp [guardR]
  · simp
theorem Res.sat_ofO (o : Option α) (S : Store) (P : α → Store → Prop) : (ofO o S).sat P = ∃ v, o = some v ∧ P v S := by
  cases o <;> simp
@[simp] theorem Res.sat_noX (r : Res α) (P : α → Store → Prop) : r.noX.sat P = r.sat P := by cases r <;> rfl
theorem Res.sat_strO (r : Res PV) (P : PV → Store → Prop) : r.strO.sat P = r.sat fun v S => ∃ x, v = .str x ∧ P (.str x) S := by
  cases r with
  | ok v S => cases v <;> simp [Res.strO]
  | _ => simp [Res.strO]
@[simp] theorem Res.sat_toS (r : Res α) (ps : Ev) (k : α → Store → SR) (P : Fl → Ev → Store → Prop) : (r.toS ps k).sat P = r.sat fun a S => (k a S).sat P := by cases r <;> rfl
@[simp] theorem SR.sat_ok (f : Fl) (ps : Ev) (S : Store) (P : Fl → Ev → Store → Prop) : (SR.ok f ps S).sat P = P f ps S := rfl
@[simp] theorem SR.sat_stuck (P : Fl → Ev → Store → Prop) : SR.stuck.sat P = False := rfl
/-- behind a statement -/
def Fl.go (k : Ev → Store → Prop) (P : Fl → Ev → Store → Prop) (f : Fl) (ps : Ev) (S : Store) : Prop := match f with
  | .next => k ps S
  | f => P f ps S
@[simp] theorem Fl.go_next (k : Ev → Store → Prop) (P : Fl → Ev → Store → Prop) (ps : Ev) (S : Store) : Fl.go k P .next ps S = k ps S := rfl
@[simp] theorem Fl.go_ret (k : Ev → Store → Prop) (P : Fl → Ev → Store → Prop) (v : PV) (ps : Ev) (S : Store) : Fl.go k P (.ret v) ps S = P (.ret v) ps S := rfl
@[simp] theorem Fl.go_brk (k : Ev → Store → Prop) (P : Fl → Ev → Store → Prop) (ps : Ev) (S : Store) : Fl.go k P .brk ps S = P .brk ps S := rfl
@[simp] theorem Fl.go_cnt (k : Ev → Store → Prop) (P : Fl → Ev → Store → Prop) (ps : Ev) (S : Store) : Fl.go k P .cnt ps S = P .cnt ps S := rfl
theorem SR.sat_seq (r : SR) (k : Ev → Store → SR) (P : Fl → Ev → Store → Prop) : (r.seq k).sat P = r.sat (Fl.go (fun ps S => (k ps S).sat P) P) := by
  cases r with
  | ok f ps S => cases f <;> rfl
  | _ => rfl
theorem Res.sat_mono {r : Res α} {P Q : α → Store → Prop} (h : r.sat P) (m : ∀ a S, P a S → Q a S) : r.sat Q := by
  cases r with
  | ok a S => exact m a S h
  | _ => exact h
theorem SR.sat_mono {r : SR} {P Q : Fl → Ev → Store → Prop} (h : r.sat P) (m : ∀ f ps S, P f ps S → Q f ps S) : r.sat Q := by
  cases r with
  | ok a ps S => exact m a ps S h
  | _ => exact h
theorem Res.sat_ex {r : Res α} {P : α → Store → Prop} (h : r.sat P) : ∃ a S, r = .ok a S ∧ P a S := by
  cases r with
  | ok a S => exact ⟨a, S, rfl, h⟩
  | _ => exact h.elim
theorem Res.sat_eq {r : Res α} {a : α} {S : Store} (h : r.sat fun b T => b = a ∧ T = S) : r = .ok a S := by
  obtain ⟨b, T, e, h1, h2⟩ := Res.sat_ex h
  rw [e, h1, h2]
end
section
variable {G : Tab} {c : Nat → Nat → List PV → Store → Res PV} {n : Nat} {ps : Ev} {S : Store} {P : PV → Store → Prop} {PS : Fl → Ev → Store → Prop}
@[simp] theorem w_var (i : Nat) : (eval G c n (.var i) ps S).sat P = ∃ v, ps[i]? = some (some v) ∧ P v S := by
  simp only [eval]
  cases h : ps[i]? with
  | none => simp
  | some o => cases o <;> simp
@[simp] theorem w_cst (v : PV) : (eval G c n (.cst v) ps S).sat P = P v S := by simp only [eval, Res.sat_ok]
@[simp] theorem w_glb (v : PV) : (eval G c n (.glb v) ps S).sat P = P v S := by simp only [eval, Res.sat_ok]
@[simp] theorem w_tup (es : IEs) : (eval G c n (.tup es) ps S).sat P = (evalL G c n es ps S).sat fun vs S1 => vs.length ≤ sizeLine ∧ P (.tup vs) S1 := by
  simp only [eval, Res.sat_bind, Res.sat_guard, Res.sat_ok, decide_eq_true_eq]
@[simp] theorem w_lst (fr : Bool) (es : IEs) : (eval G c n (.lst fr es) ps S).sat P = (evalL G c n es ps S).sat fun vs S1 => vs.length ≤ sizeLine ∧ (mkL fr vs S1).sat P := by
  simp only [eval, Res.sat_bind, Res.sat_guard, Res.sat_ok, decide_eq_true_eq]
@[simp] theorem w_dct0 (fr : Bool) : (eval G c n (.dct0 fr) ps S).sat P = (mkD fr [] [] S).sat P := by simp only [eval]
@[simp] theorem w_neg (e : IE) : (eval G c n (.neg e) ps S).sat P = (eval G c n e ps S).sat fun v S1 => ∃ i, v = .int i ∧ P (.int (-i)) S1 := by
  simp only [eval, Res.sat_bind]
  congr 1
  funext v S1
  cases v <;> simp
@[simp] theorem w_bin (op : Operator) (a b : IE) : (eval G c n (.bin op a b) ps S).sat P = (eval G c n a ps S).sat fun x S1 => (eval G c n b ps S1).sat fun y S2 => (binop op x y S2).sat P := by
  simp only [eval, Res.sat_bind]
@[simp] theorem w_cmp (op : CmpOp) (a b : IE) : (eval G c n (.cmp op a b) ps S).sat P = (eval G c n a ps S).sat fun x S1 => (eval G c n b ps S1).sat fun y S2 => (cmpR G c op x y S2).sat fun k S3 => P (.bl k) S3 := by
  simp only [eval, Res.sat_bind, Res.sat_ok]
@[simp] theorem w_chain (o p : CmpOp) (a b d : IE) : (eval G c n (.chain o p a b d) ps S).sat P = (eval G c n a ps S).sat fun x S1 => (eval G c n b ps S1).sat fun y S2 => (cmpR G c o x y S2).sat fun k S3 =>
    (k = true → (eval G c n d ps S3).sat fun z S4 => (cmpR G c p y z S4).sat fun k' S5 => P (.bl k') S5) ∧ (k = false → P (.bl false) S3) := by
  simp only [eval, Res.sat_bind]
  congr 1; funext x S1; congr 1; funext y S2; congr 1; funext k S3
  cases k <;> simp
@[simp] theorem w_and_ (es : IEs) : (eval G c n (.andE es) ps S).sat P = (evalAnd G c n es ps S).sat P := by simp only [eval]
@[simp] theorem w_or_ (es : IEs) : (eval G c n (.orE es) ps S).sat P = (evalOr G c n es ps S).sat P := by simp only [eval]
@[simp] theorem w_and1_ (e : IE) : (evalAnd G c n (.cons e .nil) ps S).sat P = (eval G c n e ps S).sat P := by
  simp only [evalAnd, Res.sat_bind, Res.sat_ok]
@[simp] theorem w_and2_ (e e2 : IE) (es : IEs) : (evalAnd G c n (.cons e (.cons e2 es)) ps S).sat P = (eval G c n e ps S).sat fun v S1 => ∃ b, v.truth S1 = some b ∧ (b = true → (evalAnd G c n (.cons e2 es) ps S1).sat P) ∧ (b = false → P v S1) := by
  rw [evalAnd]
  simp only [Res.sat_bind]
  congr 1; funext v S1
  cases h : v.truth S1 with
  | none => simp
  | some b => cases b <;> simp
@[simp] theorem w_or1_ (e : IE) : (evalOr G c n (.cons e .nil) ps S).sat P = (eval G c n e ps S).sat P := by
  simp only [evalOr, Res.sat_bind, Res.sat_ok]
@[simp] theorem w_or2_ (e e2 : IE) (es : IEs) : (evalOr G c n (.cons e (.cons e2 es)) ps S).sat P = (eval G c n e ps S).sat fun v S1 => ∃ b, v.truth S1 = some b ∧ (b = false → (evalOr G c n (.cons e2 es) ps S1).sat P) ∧ (b = true → P v S1) := by
  rw [evalOr]
  simp only [Res.sat_bind]
  congr 1; funext v S1
  cases h : v.truth S1 with
  | none => simp
  | some b => cases b <;> simp
@[simp] theorem w_not (e : IE) : (eval G c n (.notE e) ps S).sat P = (eval G c n e ps S).sat fun v S1 => ∃ b, v.truth S1 = some b ∧ P (.bl (!b)) S1 := by
  simp only [eval, Res.sat_bind]
  congr 1; funext v S1
  cases h : v.truth S1 <;> simp
@[simp] theorem w_ife (d a b : IE) : (eval G c n (.ife d a b) ps S).sat P = (eval G c n d ps S).sat fun v S1 => ∃ k, v.truth S1 = some k ∧ (k = true → (eval G c n a ps S1).sat P) ∧ (k = false → (eval G c n b ps S1).sat P) := by
  simp only [eval, Res.sat_bind]
  congr 1; funext v S1
  cases h : v.truth S1 with
  | none => simp
  | some k => cases k <;> simp
@[simp] theorem w_sub (a i : IE) : (eval G c n (.sub a i) ps S).sat P = (eval G c n a ps S).sat fun x S1 => (eval G c n i ps S1).sat fun y S2 => ∃ v, getIx x y S2 = some v ∧ P v S2 := by
  simp only [eval, Res.sat_bind, Res.sat_ofO]
@[simp] theorem w_sl1 (a lo : IE) : (eval G c n (.sl1 a lo) ps S).sat P = (eval G c n a ps S).sat fun x S1 => (eval G c n lo ps S1).sat fun y S2 => ∃ v, ((intO y).bind fun i => getSl x (some i) none S2) = some v ∧ P v S2 := by
  simp only [eval, Res.sat_bind, Res.sat_ofO]
@[simp] theorem w_sl2 (a hi : IE) : (eval G c n (.sl2 a hi) ps S).sat P = (eval G c n a ps S).sat fun x S1 => (eval G c n hi ps S1).sat fun y S2 => ∃ v, ((intO y).bind fun i => getSl x none (some i) S2) = some v ∧ P v S2 := by
  simp only [eval, Res.sat_bind, Res.sat_ofO]
@[simp] theorem w_sl3 (a lo hi : IE) : (eval G c n (.sl3 a lo hi) ps S).sat P = (eval G c n a ps S).sat fun x S1 => (eval G c n lo ps S1).sat fun y S2 => ∃ i, intO y = some i ∧ (eval G c n hi ps S2).sat fun z S3 => ∃ v, ((intO z).bind fun j => getSl x (some i) (some j) S3) = some v ∧ P v S3 := by
  simp only [eval, Res.sat_bind]
  congr 1; funext x S1; congr 1; funext y S2
  cases h : intO y <;> simp [Res.sat_ofO]
@[simp] theorem w_attr (e : IE) (m : Nat) : (eval G c n (.attr e m) ps S).sat P = (eval G c n e ps S).sat fun v S1 => (getAt G c v m S1).sat P := by simp only [eval, Res.sat_bind]
@[simp] theorem w_call (f : Nat) (es : IEs) : (eval G c n (.call f es) ps S).sat P = (evalL G c n es ps S).sat fun vs S1 => (c f S1.length vs S1).sat P := by simp only [eval, Res.sat_bind]
@[simp] theorem w_callK (f : Nat) (es ks : IEs) (ord : List Nat) : (eval G c n (.callK f es ks ord) ps S).sat P = (evalL G c n es ps S).sat fun vs S1 => (evalL G c n ks ps S1).sat fun ws S2 => (vs.length = es.len ∧ ws.length = ks.len) ∧ (c f S2.length (ord.map fun j => (vs ++ ws).getD j .non) S2).sat P := by
  simp only [eval, Res.sat_bind, Res.sat_guard, Bool.and_eq_true, decide_eq_true_eq]
@[simp] theorem w_new (k : Nat) (es : IEs) : (eval G c n (.new k es) ps S).sat P = (evalL G c n es ps S).sat fun vs S1 => (newI G c k vs S1).sat P := by simp only [eval, Res.sat_bind]
@[simp] theorem w_meth (m : Nat) (e : IE) (es : IEs) : (eval G c n (.meth m e es) ps S).sat P = (eval G c n e ps S).sat fun v S1 => ∃ f, methOf G v m S1 = some f ∧ (evalL G c n es ps S1).sat fun vs S2 => (c f S2.length (v :: vs) S2).sat P := by
  simp only [eval, Res.sat_bind]
  congr 1; funext v S1
  cases h : methOf G v m S1 <;> simp
@[simp] theorem w_cmeth (k f : Nat) (es : IEs) : (eval G c n (.cmeth k f es) ps S).sat P = (evalL G c n es ps S).sat fun vs S1 => (c f S1.length (.cls k :: vs) S1).sat P := by simp only [eval, Res.sat_bind]
@[simp] theorem w_bf (f : BF) (fr : Bool) (es : IEs) : (eval G c n (.bf f fr es) ps S).sat P = (evalL G c n es ps S).sat fun vs S1 => (bfunR G c f fr vs S1).sat P := by simp only [eval, Res.sat_bind]
@[simp] theorem w_bm (m : BM) (fr : Bool) (e : IE) (es : IEs) : (eval G c n (.bm m fr e es) ps S).sat P = (eval G c n e ps S).sat fun v S1 => bmT m v S1 = true ∧ (evalL G c n es ps S1).sat fun vs S2 => (bmR n m fr v vs S2).sat P := by
  simp only [eval, Res.sat_bind, Res.sat_guard]
@[simp] theorem w_isi (e : IE) (t : TyC) : (eval G c n (.isi e t) ps S).sat P = (eval G c n e ps S).sat fun v S1 => (tagOf v S1).all (tagIn G) = true ∧ ∃ b, isiV v t S1 = some b ∧ P (.bl b) S1 := by
  simp only [eval, Res.sat_bind, Res.sat_guard, Res.sat_ofO]
  congr 1; funext v S1
  cases isiV v t S1 <;> simp
@[simp] theorem w_fstr (es : IEs) : (eval G c n (.fstr es) ps S).sat P = (evalF G c n es Str.empty ps S).sat fun x S1 => P (.str x) S1 := by
  simp only [eval, Res.sat_bind, Res.sat_ok]
/-- the element of a comprehension, at one item -/
noncomputable def cTest (G : Tab) (c : Nat → Nat → List PV → Store → Res PV) (n : Nat) (own : List Nat) (p : Pat) (ifs : IEs) (ps : Ev) (x : PV) (S : Store) : Res Bool := match bindPat p x (wipeP ps own) S with
  | some ps' => testL G c n ifs ps' S
  | none => .stuck
noncomputable def cElt (G : Tab) (c : Nat → Nat → List PV → Store → Res PV) (n : Nat) (own : List Nat) (p : Pat) (elt : IE) (ps : Ev) (x : PV) (S : Store) : Res PV := match bindPat p x (wipeP ps own) S with
  | some ps' => eval G c n elt ps' S
  | none => .stuck
noncomputable def cKv (G : Tab) (c : Nat → Nat → List PV → Store → Res PV) (n : Nat) (own : List Nat) (p : Pat) (k v : IE) (ps : Ev) (x : PV) (S : Store) : Res (DKey × PV) := match bindPat p x (wipeP ps own) S with
  | some ps' => (eval G c n k ps' S).bind fun a S' => (eval G c n v ps' S').bind fun b S'' => (match a.key with
    | some q => .ok (q, b) S''
    | none => .stuck)
  | none => .stuck
@[simp] theorem w_comp (fr : Bool) (own : List Nat) (elt : IE) (p : Pat) (it : II) (ifs : IEs) : (eval G c n (.comp fr own elt p it ifs) ps S).sat P = (evalI G c n it ps S).sat fun w S1 =>
    (compLoop (stay w.ls) (cTest G c n own p ifs ps) (cElt G c n own p elt ps) w.xs [] S1).sat fun xs S2 => (mkL fr xs S2).sat P := by
  simp only [eval, Res.sat_bind, Res.sat_noX]
  rfl
@[simp] theorem w_dcomp (fr : Bool) (own : List Nat) (k v : IE) (p : Pat) (it : II) (ifs : IEs) : (eval G c n (.dcomp fr own k v p it ifs) ps S).sat P = (evalI G c n it ps S).sat fun w S1 =>
    (dcompLoop (stay w.ls) (cTest G c n own p ifs ps) (cKv G c n own p k v ps) w.xs [] [] S1).sat fun kv S2 => (mkD fr kv.1 kv.2 S2).sat P := by
  simp only [eval, Res.sat_bind, Res.sat_noX]
  rfl
section
variable {PL : List PV → Store → Prop} {PW : Walked → Store → Prop} {PF : Str → Store → Prop} {PB : Bool → Store → Prop}
@[simp] theorem w_nil : (evalL G c n .nil ps S).sat PL = PL [] S := by simp only [evalL, Res.sat_ok]
@[simp] theorem w_cons (e : IE) (es : IEs) : (evalL G c n (.cons e es) ps S).sat PL = (eval G c n e ps S).sat fun v S1 => (evalL G c n es ps S1).sat fun vs S2 => PL (v :: vs) S2 := by
  simp only [evalL, Res.sat_bind, Res.sat_ok]
@[simp] theorem w_fnil (acc : Str) : (evalF G c n .nil acc ps S).sat PF = PF acc S := by simp only [evalF, Res.sat_ok]
@[simp] theorem w_fcons (e : IE) (es : IEs) (acc : Str) : (evalF G c n (.cons e es) acc ps S).sat PF = (eval G c n e ps S).sat fun v S1 => ∃ y, strPart v = some y ∧ (acc ++ y).length ≤ sizeLine ∧ (evalF G c n es (acc ++ y) ps S1).sat PF := by
  simp only [evalF, Res.sat_bind]
  congr 1; funext v S1
  cases h : strPart v with
  | none => simp
  | some y =>
    by_cases q : (acc ++ y).length ≤ sizeLine <;> simp [q]
@[simp] theorem w_tnil : (testL G c n .nil ps S).sat PB = PB true S := by simp only [testL, Res.sat_ok]
@[simp] theorem w_tcons (e : IE) (es : IEs) : (testL G c n (.cons e es) ps S).sat PB = (eval G c n e ps S).sat fun v S1 => ∃ b, v.truth S1 = some b ∧ PB b S1 := by
  simp only [testL, Res.sat_bind, Res.sat_ofO]
@[simp] theorem w_ie (x : IE) : (evalI G c n (.e x) ps S).sat PW = (eval G c n x ps S).sat fun v S1 => ∃ w, walkOf v S1 = some w ∧ PW w S1 := by
  simp only [evalI, Res.sat_bind, Res.sat_ofO]
@[simp] theorem w_rng (es : IEs) : (evalI G c n (.rng es) ps S).sat PW = (evalL G c n es ps S).sat fun vs S1 => ∃ xs, rangeOf vs = some xs ∧ PW { xs := xs } S1 := by
  simp only [evalI, Res.sat_bind, Res.sat_ofO]
  congr 1; funext v S1
  cases rangeOf v <;> simp
@[simp] theorem w_enum (x : IE) : (evalI G c n (.enum x) ps S).sat PW = (eval G c n x ps S).sat fun v S1 => ∃ w, enumW v S1 = some w ∧ PW w S1 := by
  simp only [evalI, Res.sat_bind, Res.sat_ofO]
@[simp] theorem w_zip (a b : IE) : (evalI G c n (.zip a b) ps S).sat PW = (eval G c n a ps S).sat fun v S1 => (eval G c n b ps S1).sat fun u S2 => ∃ w, zipW v u S2 = some w ∧ PW w S2 := by
  simp only [evalI, Res.sat_bind, Res.sat_ofO]
end
/-! ### statements -/
@[simp] theorem x_nil : (execs G c n .nil ps S).sat PS = PS .next ps S := by simp only [execs, SR.sat_ok]
@[simp] theorem x_cons (s : IS) (r : ISs) : (execs G c n (.cons s r) ps S).sat PS = (exec G c n s ps S).sat (Fl.go (fun ps' S' => (execs G c n r ps' S').sat PS) PS) := by
  simp only [execs, SR.sat_seq]
@[simp] theorem x_asg (i : Nat) (e : IE) : (exec G c n (.asg i e) ps S).sat PS = (eval G c n e ps S).sat fun v S1 => PS .next (ps.set i (some v)) S1 := by
  simp only [exec, Res.sat_toS, SR.sat_ok]
@[simp] theorem x_asgT (is : List Nat) (e : IE) : (exec G c n (.asgT is e) ps S).sat PS = (eval G c n e ps S).sat fun v S1 => ∃ xs, v = .tup xs ∧ xs.length = is.length ∧ PS .next (setAll ps is xs) S1 := by
  simp only [exec, Res.sat_toS]
  congr 1; funext v S1
  cases v <;> simp [bindPat]
  rename_i xs
  by_cases h : xs.length = is.length <;> simp [h]
@[simp] theorem x_asgS (a i e : IE) : (exec G c n (.asgS a i e) ps S).sat PS = (eval G c n e ps S).sat fun v S1 => (eval G c n a ps S1).sat fun o S2 => (eval G c n i ps S2).sat fun k S3 => ∃ S4, setIx n o k v S3 = some S4 ∧ PS .next ps S4 := by
  simp only [exec, Res.sat_toS]
  congr 1; funext v S1; congr 1; funext o S2; congr 1; funext k S3
  cases setIx n o k v S3 <;> simp
@[simp] theorem x_asgA (a : IE) (m : Nat) (e : IE) : (exec G c n (.asgA a m e) ps S).sat PS = (eval G c n e ps S).sat fun v S1 => (eval G c n a ps S1).sat fun o S2 => ∃ S3, setAt G n o m v S2 = some S3 ∧ PS .next ps S3 := by
  simp only [exec, Res.sat_toS]
  congr 1; funext v S1; congr 1; funext o S2
  cases setAt G n o m v S2 <;> simp
@[simp] theorem x_aug (i : Nat) (op : Operator) (e : IE) : (exec G c n (.aug i op e) ps S).sat PS = ∃ x, ps[i]? = some (some x) ∧ (eval G c n e ps S).sat fun y S1 => ∃ z, augop op x y = some z ∧ PS .next (ps.set i (some z)) S1 := by
  simp only [exec]
  cases h : ps[i]? with
  | none => simp
  | some o =>
    cases o with
    | none => simp
    | some x => simp [Res.sat_ofO]
@[simp] theorem x_ex (e : IE) : (exec G c n (.ex e) ps S).sat PS = (eval G c n e ps S).sat fun _ S1 => PS .next ps S1 := by
  simp only [exec, Res.sat_toS, SR.sat_ok]
@[simp] theorem x_ret (e : IE) : (exec G c n (.ret e) ps S).sat PS = (eval G c n e ps S).sat fun v S1 => PS (.ret v) ps S1 := by
  simp only [exec, Res.sat_toS, SR.sat_ok]
@[simp] theorem x_retN : (exec G c n .retN ps S).sat PS = PS (.ret .non) ps S := by simp only [exec, SR.sat_ok]
@[simp] theorem x_if (e : IE) (a b : ISs) : (exec G c n (.ifs e a b) ps S).sat PS = (eval G c n e ps S).sat fun v S1 => ∃ k, v.truth S1 = some k ∧ (k = true → (execs G c n a ps S1).sat PS) ∧ (k = false → (execs G c n b ps S1).sat PS) := by
  simp only [exec, Res.sat_toS, test, Res.sat_bind, Res.sat_ofO]
  congr 1; funext v S1
  congr 1; funext k
  cases k <;> simp
/-- a loop's body at one item -/
noncomputable def fBody (G : Tab) (c : Nat → Nat → List PV → Store → Res PV) (n : Nat) (p : Pat) (b : ISs) (x : PV) (ps : Ev) (S : Store) : SR := match bindPat p x ps S with
  | some ps' => execs G c n b ps' S
  | none => .stuck
@[simp] theorem x_for (p : Pat) (it : II) (b : ISs) : (exec G c n (.for_ p it b) ps S).sat PS = (evalI G c n it ps S).sat fun w S1 => (forLoop (stay w.ls) (fBody G c n p b) w.xs ps S1).sat PS := by
  simp only [exec, Res.sat_toS]
  rfl
@[simp] theorem x_pass : (exec G c n .pass ps S).sat PS = PS .next ps S := by simp only [exec, SR.sat_ok]
@[simp] theorem x_brk : (exec G c n .brk ps S).sat PS = PS .brk ps S := by simp only [exec, SR.sat_ok]
@[simp] theorem x_cnt : (exec G c n .cnt ps S).sat PS = PS .cnt ps S := by simp only [exec, SR.sat_ok]
@[simp] theorem x_nope : (exec G c n .nope ps S).sat PS = False := by simp only [exec, SR.sat_stuck]
@[simp] theorem x_try (b : ISs) (hs : IHs) : (exec G c n (.tryE b hs) ps S).sat PS = (execs G c n b ps S).sat PS := by
  simp only [exec]
  cases execs G c n b ps S <;> rfl
@[simp] theorem fBody_nm (i : Nat) (b : ISs) (x : PV) : (fBody G c n (.nm i) b x ps S).sat PS = (execs G c n b (ps.set i (some x)) S).sat PS := rfl
theorem fBody_tp (is : List Nat) (b : ISs) (xs : List PV) (h : xs.length = is.length) : (fBody G c n (.tp is) b (.tup xs) ps S).sat PS = (execs G c n b (setAll ps is xs) S).sat PS := by
  unfold fBody bindPat
  simp [h]
section
variable {PB : Bool → Store → Prop} {PK : DKey × PV → Store → Prop}
@[simp] theorem cTest_nil (own : List Nat) (i : Nat) (x : PV) : (cTest G c n own (.nm i) .nil ps x S).sat PB = PB true S := by
  unfold cTest bindPat
  simp
@[simp] theorem cTest_nm (own : List Nat) (i : Nat) (ifs : IEs) (x : PV) : (cTest G c n own (.nm i) ifs ps x S).sat PB = (testL G c n ifs ((wipeP ps own).set i (some x)) S).sat PB := rfl
@[simp] theorem cElt_nm (own : List Nat) (i : Nat) (e : IE) (x : PV) : (cElt G c n own (.nm i) e ps x S).sat P = (eval G c n e ((wipeP ps own).set i (some x)) S).sat P := rfl
theorem cTest_tp (own : List Nat) (is : List Nat) (ifs : IEs) (xs : List PV) (h : xs.length = is.length) : (cTest G c n own (.tp is) ifs ps (.tup xs) S).sat PB = (testL G c n ifs (setAll (wipeP ps own) is xs) S).sat PB := by
  unfold cTest bindPat
  simp [h]
theorem cElt_tp (own : List Nat) (is : List Nat) (e : IE) (xs : List PV) (h : xs.length = is.length) : (cElt G c n own (.tp is) e ps (.tup xs) S).sat P = (eval G c n e (setAll (wipeP ps own) is xs) S).sat P := by
  unfold cElt bindPat
  simp [h]
theorem cKv_tp (own : List Nat) (is : List Nat) (k v : IE) (xs : List PV) (h : xs.length = is.length) : (cKv G c n own (.tp is) k v ps (.tup xs) S).sat PK = (eval G c n k (setAll (wipeP ps own) is xs) S).sat fun a S1 => (eval G c n v (setAll (wipeP ps own) is xs) S1).sat fun b S2 => ∃ q, a.key = some q ∧ PK (q, b) S2 := by
  unfold cKv bindPat
  simp only [h, if_true, Res.sat_bind]
  congr 1; funext a S1; congr 1; funext b S2
  cases a.key <;> simp
theorem cKv_nm (own : List Nat) (i : Nat) (k v : IE) (x : PV) : (cKv G c n own (.nm i) k v ps x S).sat PK = (eval G c n k ((wipeP ps own).set i (some x)) S).sat fun a S1 => (eval G c n v ((wipeP ps own).set i (some x)) S1).sat fun b S2 => ∃ q, a.key = some q ∧ PK (q, b) S2 := by
  unfold cKv bindPat
  simp only [Res.sat_bind]
  congr 1; funext a S1; congr 1; funext b S2
  cases a.key <;> simp
end
end
/-! ### loops -/
theorem stay_nil (S : Store) : stay [] S = true := by unfold stay; rfl
/-- an invariant at each item -/
theorem for_inv {ok : Store → Bool} {body : PV → Ev → Store → SR} {P : Fl → Ev → Store → Prop} (I : Nat → Ev → Store → Prop) : ∀ {xs : List PV} {k : Nat} {ps : Ev} {S : Store}, I k ps S →
    (∀ j ps S, I j ps S → ok S = true) →
    (∀ (j : Nat) (x : PV) (ps : Ev) (S : Store), xs[j]? = some x → I (k + j) ps S → (body x ps S).sat fun fl ps' S' => match fl with
      | .next => I (k + j + 1) ps' S'
      | .cnt => I (k + j + 1) ps' S'
      | .brk => P .next ps' S'
      | .ret v => P (.ret v) ps' S') →
    (∀ ps S, I (k + xs.length) ps S → P .next ps S) → (forLoop ok body xs ps S).sat P
  | [], k, ps, S, h0, hok, hs, he => by
    unfold forLoop
    rw [if_pos (hok _ _ _ h0)]
    exact he _ _ h0
  | x :: r, k, ps, S, h0, hok, hs, he => by
    unfold forLoop
    rw [if_pos (hok _ _ _ h0)]
    have h1 := hs 0 x ps S (by simp) h0
    have rest : ∀ ps' S', I (k + 1) ps' S' → (forLoop ok body r ps' S').sat P := fun ps' S' i1 => for_inv I i1 hok (fun j y ps S e i => by
      have q := hs (j + 1) y ps S (by simpa using e) (by rw [show k + (j + 1) = k + 1 + j by omega]; exact i)
      rw [show k + (j + 1) = k + 1 + j by omega] at q
      exact q) (fun ps S i => he ps S (by rw [List.length_cons, show k + (r.length + 1) = k + 1 + r.length by omega]; exact i))
    cases hb : body x ps S with
    | stuck => rw [hb] at h1; exact h1
    | exn e ps' S' => rw [hb] at h1; exact h1
    | ok fl ps' S' =>
      rw [hb] at h1
      cases fl with
      | next => exact rest ps' S' h1
      | cnt => exact rest ps' S' h1
      | brk => exact h1
      | ret v => exact h1
theorem comp_inv {ok : Store → Bool} {test : PV → Store → Res Bool} {elt : PV → Store → Res PV} {P : List PV → Store → Prop} (I : Nat → List PV → Store → Prop) : ∀ {xs : List PV} {k : Nat} {acc : List PV} {S : Store}, I k acc S →
    (∀ j acc S, I j acc S → ok S = true) →
    (∀ (j : Nat) (x : PV) (acc : List PV) (S : Store), xs[j]? = some x → I (k + j) acc S → (test x S).sat fun b S1 => (b = true → (elt x S1).sat fun v S2 => acc.length < sizeLine ∧ I (k + j + 1) (acc ++ [v]) S2) ∧ (b = false → I (k + j + 1) acc S1)) →
    (∀ acc S, I (k + xs.length) acc S → P acc S) → (compLoop ok test elt xs acc S).sat P
  | [], k, acc, S, h0, hok, hs, he => by
    unfold compLoop
    rw [if_pos (hok _ _ _ h0)]
    exact he _ _ h0
  | x :: r, k, acc, S, h0, hok, hs, he => by
    unfold compLoop
    rw [if_pos (hok _ _ _ h0)]
    have h1 := hs 0 x acc S (by simp) h0
    have rest : ∀ acc' S', I (k + 1) acc' S' → (compLoop ok test elt r acc' S').sat P := fun acc' S' i1 => comp_inv I i1 hok (fun j y acc S e i => by
      have q := hs (j + 1) y acc S (by simpa using e) (by rw [show k + (j + 1) = k + 1 + j by omega]; exact i)
      rw [show k + (j + 1) = k + 1 + j by omega] at q
      exact q) (fun acc S i => he acc S (by rw [List.length_cons, show k + (r.length + 1) = k + 1 + r.length by omega]; exact i))
    rw [Res.sat_bind]
    refine Res.sat_mono h1 fun b S1 q => ?_
    cases b with
    | false => exact rest _ _ (q.2 rfl)
    | true =>
      simp only [if_true, Res.sat_bind]
      refine Res.sat_mono (q.1 rfl) fun v S2 q2 => ?_
      rw [if_pos q2.1]
      exact rest _ _ q2.2
/-- each item gives an item; nothing is changed -/
theorem comp_map {ok : Store → Bool} {test : PV → Store → Res Bool} {elt : PV → Store → Res PV} {P : List PV → Store → Prop} {xs : List PV} {S : Store} (f : PV → PV) (hok : ok S = true) (hl : xs.length ≤ sizeLine)
    (ht : ∀ x ∈ xs, (test x S).sat fun b S1 => b = true ∧ S1 = S) (he : ∀ x ∈ xs, (elt x S).sat fun v S1 => v = f x ∧ S1 = S) (hP : P (xs.map f) S) : (compLoop ok test elt xs [] S).sat P := by
  refine comp_inv (k := 0) (fun j acc S' => S' = S ∧ acc = (xs.take j).map f) ⟨rfl, rfl⟩ (fun j acc S' h => by rw [h.1]; exact hok) (fun j x acc S' e h => ?_) fun acc S' h => ?_
  · obtain ⟨h1, h2⟩ := h
    subst h1
    have hx := List.mem_of_getElem? e
    have hj := (List.getElem?_eq_some_iff.mp e).1
    refine Res.sat_mono (ht x hx) fun b S1 q => ⟨fun _ => ?_, fun hb => by rw [q.1] at hb; cases hb⟩
    obtain ⟨_, q2⟩ := q
    subst q2
    refine Res.sat_mono (he x hx) fun v S2 q => ⟨?_, q.2, ?_⟩
    · rw [h2, List.length_map, List.length_take]; omega
    · rw [h2, q.1, Nat.zero_add, List.take_add_one, e]
      simp
  · obtain ⟨h1, h2⟩ := h
    subst h1
    rw [Nat.zero_add, List.take_length] at h2
    rw [h2]; exact hP
/-- .. where a test holds -/
theorem comp_filter {ok : Store → Bool} {test : PV → Store → Res Bool} {elt : PV → Store → Res PV} {P : List PV → Store → Prop} {xs : List PV} {S : Store} (t : PV → Bool) (f : PV → PV) (hok : ok S = true) (hl : xs.length ≤ sizeLine)
    (ht : ∀ x ∈ xs, (test x S).sat fun b S1 => b = t x ∧ S1 = S) (he : ∀ x ∈ xs, t x = true → (elt x S).sat fun v S1 => v = f x ∧ S1 = S) (hP : P ((xs.filter t).map f) S) : (compLoop ok test elt xs [] S).sat P := by
  refine comp_inv (k := 0) (fun j acc S' => S' = S ∧ acc = ((xs.take j).filter t).map f) ⟨rfl, rfl⟩ (fun j acc S' h => by rw [h.1]; exact hok) (fun j x acc S' e h => ?_) fun acc S' h => ?_
  · obtain ⟨h1, h2⟩ := h
    subst h1
    have hx := List.mem_of_getElem? e
    have hj := (List.getElem?_eq_some_iff.mp e).1
    have e1 : ((xs.take (0 + j + 1)).filter t) = (xs.take (0 + j)).filter t ++ (if t x = true then [x] else []) := by
      rw [Nat.zero_add, List.take_add_one, e, List.filter_append]
      simp [List.filter_cons]
    refine Res.sat_mono (ht x hx) fun b S1 q => ?_
    obtain ⟨q1, q2⟩ := q
    subst q2
    refine ⟨fun hb => ?_, fun hb => ⟨rfl, ?_⟩⟩
    · have htx : t x = true := by rw [← q1]; exact hb
      refine Res.sat_mono (he x hx htx) fun v S2 q => ⟨?_, q.2, ?_⟩
      · rw [h2, List.length_map]
        have := List.length_filter_le t (xs.take (0 + j))
        rw [List.length_take] at this; omega
      · rw [h2, q.1, e1, htx]
        simp
    · rw [h2, e1, ← q1, hb]
      simp
  · obtain ⟨h1, h2⟩ := h
    subst h1
    rw [Nat.zero_add, List.take_length] at h2
    rw [h2]; exact hP
/-! ### values -/
section
variable {G : Tab} {c : Nat → Nat → List PV → Store → Res PV} {S : Store} {i j : Int} {x y : Str} {a b : Bool}
theorem b_add : binop .Add (.int i) (.int j) S = .ok (.int (i + j)) S := rfl
theorem b_sub : binop .Sub (.int i) (.int j) S = .ok (.int (i - j)) S := rfl
theorem b_mul : binop .Mult (.int i) (.int j) S = guardR (mulOk i j) (.ok (.int (i * j)) S) := rfl
theorem b_div : binop .FloorDiv (.int i) (.int j) S = guardR (decide (0 < j) && decide (j.natAbs.log2 < 9000)) (.ok (.int (i / j)) S) := rfl
theorem b_mod : binop .Mod (.int i) (.int j) S = guardR (decide (0 < j)) (.ok (.int (i % j)) S) := rfl
theorem b_pow : binop .Pow (.int i) (.int j) S = guardR (decide (0 ≤ j) && decide (j ≤ 1000000) && decide (i.natAbs < 2 ^ 64)) (.ok (.int (i ^ j.toNat)) S) := rfl
theorem b_cat : binop .Add (.str x) (.str y) S = guardR (decide (x.length + y.length ≤ sizeLine)) (.ok (.str (x ++ y)) S) := rfl
theorem mulOk_r {i j : Int} (h : j.natAbs < 2 ^ 64) : mulOk i j = true := by unfold mulOk; simp [h]
theorem mulOk_l {i j : Int} (h : i.natAbs < 2 ^ 64) : mulOk i j = true := by unfold mulOk; simp [h]
theorem c_eqI : cmpR G c .Eq (.int i) (.int j) S = .ok (decide (i = j)) S := rfl
theorem c_neI : cmpR G c .NotEq (.int i) (.int j) S = .ok (!decide (i = j)) S := rfl
theorem c_ltI : cmpR G c .Lt (.int i) (.int j) S = .ok (decide (i < j)) S := rfl
theorem c_leI : cmpR G c .LtE (.int i) (.int j) S = .ok (decide (i ≤ j)) S := rfl
theorem c_gtI : cmpR G c .Gt (.int i) (.int j) S = .ok (decide (j < i)) S := rfl
theorem c_geI : cmpR G c .GtE (.int i) (.int j) S = .ok (decide (j ≤ i)) S := rfl
theorem c_eqS : cmpR G c .Eq (.str x) (.str y) S = .ok (decide (x = y)) S := rfl
theorem c_neS : cmpR G c .NotEq (.str x) (.str y) S = .ok (!decide (x = y)) S := rfl
theorem t_bl : (PV.bl a).truth S = some a := rfl
theorem t_int : (PV.int i).truth S = some (i != 0) := rfl
theorem t_str : (PV.str x).truth S = some (x.length != 0) := rfl
theorem f_int {fr : Bool} : bfunR G c .int fr [.int i] S = .ok (.int i) S := by cases fr <;> rfl
theorem f_abs {fr : Bool} : bfunR G c .abs fr [.int i] S = .ok (.int (if i < 0 then -i else i)) S := by cases fr <;> rfl
theorem f_lenL {fr : Bool} {xs : List PV} : bfunR G c .len fr [.lst xs] S = .ok (.int xs.length) S := by cases fr <;> rfl
theorem f_lenT {fr : Bool} {xs : List PV} : bfunR G c .len fr [.tup xs] S = .ok (.int xs.length) S := by cases fr <;> rfl
theorem f_lenS {fr : Bool} : bfunR G c .len fr [.str x] S = .ok (.int x.length) S := by cases fr <;> rfl
theorem f_lenC {fr : Bool} {ns : List Int} : bfunR G c .len fr [.scr ns] S = .ok (.int ns.length) S := by cases fr <;> rfl
theorem f_max {fr : Bool} : bfunR G c .max fr [.int i, .int j] S = .ok (.int (if j > i then j else i)) S := by cases fr <;> rfl
theorem f_min {fr : Bool} : bfunR G c .min fr [.int i, .int j] S = .ok (.int (if j < i then j else i)) S := by cases fr <;> rfl
theorem f_tupL {fr : Bool} {xs : List PV} : bfunR G c .tuple fr [.lst xs] S = .ok (.tup xs) S := by cases fr <;> rfl
theorem f_allL {fr : Bool} {bs : List Bool} : bfunR G c .all fr [.lst (bs.map .bl)] S = .ok (.bl (bs.all id)) S := by
  cases fr <;> (show (ofO ((asBls (bs.map .bl)).map fun bs => PV.bl (bs.all id)) S).bind _ = _; rw [asBls_map]; rfl)
theorem f_sumL {fr : Bool} {ns : List Int} : bfunR G c .sum fr [.lst (ns.map .int)] S = .ok (.int ns.sum) S := by
  cases fr <;> (show (ofO ((asInts (ns.map .int)).map fun ns => PV.int ns.sum) S).bind _ = _; rw [asInts_map]; rfl)
theorem m_lst {xs : List PV} : mkL true xs S = .ok (.lst xs) S := rfl
theorem m_ref {xs : List PV} : mkL false xs S = .ok (.ref S.length) (S ++ [.lst xs]) := rfl
theorem m_dct {ks : List DKey} {vs : List PV} : mkD true ks vs S = .ok (.dct ks vs) S := rfl
theorem m_dref {ks : List DKey} {vs : List PV} : mkD false ks vs S = .ok (.ref S.length) (S ++ [.dct ks vs]) := rfl
theorem g_ref {l : Nat} {xs : List PV} (h : S[l]? = some (.lst xs)) : getIx (.ref l) (.int i) S = L2.atI xs i := by
  simp [getIx, dictOf, itemsOf, h]
theorem g_tup {xs : List PV} : getIx (.tup xs) (.int i) S = L2.atI xs i := rfl
theorem g_lst {xs : List PV} : getIx (.lst xs) (.int i) S = L2.atI xs i := rfl
theorem g_scr {ns : List Int} : getIx (.scr ns) (.int i) S = (L2.atI ns i).map .int := rfl
theorem g_str : getIx (.str x) (.int i) S = (L2.atI x.cps.toList i).map fun c => .str ⟨#[c]⟩ := rfl
theorem atI_nat {α : Type} {xs : List α} {k : Nat} {v : α} (h : xs[k]? = some v) : L2.atI xs (k : Int) = some v := by
  have hk := (List.getElem?_eq_some_iff.mp h).1
  unfold L2.atI L2.ixN
  rw [if_pos (Int.natCast_nonneg k), if_pos (by omega)]
  exact h
theorem atI_of {α : Type} {xs : List α} {i : Int} {v : α} (h0 : 0 ≤ i) (h : xs[i.toNat]? = some v) : L2.atI xs i = some v := by
  have := atI_nat h
  rwa [Int.toNat_of_nonneg h0] at this
theorem at0 {α : Type} {x : α} {r : List α} : L2.atI (x :: r) 0 = some x := atI_nat (k := 0) rfl
theorem at1 {α : Type} {x y : α} {r : List α} : L2.atI (x :: y :: r) 1 = some y := atI_nat (k := 1) rfl
theorem at2 {α : Type} {x y z : α} {r : List α} : L2.atI (x :: y :: z :: r) 2 = some z := atI_nat (k := 2) rfl
theorem s_ref {n l : Nat} {xs : List PV} {v : PV} {k : Nat} (h : S[l]? = some (.lst xs)) (hv : v.rf = true) (hk : k < xs.length) : setIx n (.ref l) (.int (k : Int)) v S = some (S.set l (.lst (xs.set k v))) := by
  unfold setIx
  simp [h, hv, L2.ixN, hk]
theorem ap_ref {n l : Nat} {xs : List PV} {v : PV} (h : S[l]? = some (.lst xs)) (hv : v.rf = true) (hk : xs.length < sizeLine) : apnd n (.ref l) v S = some (S.set l (.lst (xs ++ [v]))) := by
  unfold apnd
  simp [h, hv, hk]
theorem bm_append {n l : Nat} {fr : Bool} {xs : List PV} {v : PV} {P : PV → Store → Prop} (h : S[l]? = some (.lst xs)) (hv : v.rf = true) (hk : xs.length < sizeLine) (hP : P .non (S.set l (.lst (xs ++ [v])))) : (bmR n .append fr (.ref l) [v] S).sat P := by
  unfold bmR bmethW
  simp only [ap_ref h hv hk]
  exact hP
theorem bt_append {l : Nat} {xs : List PV} (h : S[l]? = some (.lst xs)) : bmT .append (.ref l) S = true := by
  unfold bmT isRL; simp [h]
theorem r_rng {n : Int} (h0 : -(2 ^ 62) ≤ n) (h1 : n < 2 ^ 62) : rangeOf [.int n] = some (rangeL 0 n) := by
  unfold rangeOf small62
  simp only [Bool.and_eq_true, decide_eq_true_eq]
  rw [if_pos ⟨h0, h1⟩]
theorem rangeL_nat (n : Nat) : rangeL 0 (n : Int) = (List.range n).map fun (i : Nat) => .int (i : Int) := by
  unfold rangeL; simp
end
/-! ### calls -/
def FnDef.fin (d : FnDef) (b : Nat) (P : PV → Store → Prop) (fl : Fl) (S' : Store) : Prop := match fl with
  | .ret v => if d.keep = true then P v S' else ∃ v', fz S' b 6 v = some v' ∧ P v' (S'.take b)
  | .next => if d.keep = true then P .non S' else P .non (S'.take b)
  | _ => False
theorem call_sat {G : Tab} {f k : Nat} {d : FnDef} {vs : List PV} {S : Store} {P : PV → Store → Prop} (hd : G.fns[f]? = some d) (h1 : 1 ≤ d.lv) (h2 : d.lv ≤ k) (hl : vs.length = d.np) (hn : d.np ≤ d.nl)
    (h : (execs G (callN G (d.lv - 1)) S.length d.body (vs.map some ++ List.replicate (d.nl - vs.length) none) S).sat fun fl _ S' => d.fin S.length P fl S') : (callN G k f S.length vs S).sat P := by
  rw [callN_le hd h1 h2]
  unfold runFn
  rw [if_pos ⟨hl, hn, .inr rfl⟩]
  cases hr : execs G (callN G (d.lv - 1)) S.length d.body (vs.map some ++ List.replicate (d.nl - vs.length) none) S with
  | stuck => rw [hr] at h; exact h
  | exn e ps' S' => rw [hr] at h; exact h.elim
  | ok fl ps' S' =>
    rw [hr] at h
    cases fl with
    | next =>
      unfold FnDef.fin at h
      dsimp only [SR.sat_ok] at h ⊢
      split at h <;> rename_i q <;> simp only [q] <;> exact h
    | brk => exact h
    | cnt => exact h
    | ret v =>
      unfold FnDef.fin at h
      dsimp only [SR.sat_ok] at h ⊢
      split at h
      · rename_i q
        simp only [q]
        exact h
      · rename_i q
        simp only [q]
        obtain ⟨v', e, hp⟩ := h
        rw [e]
        exact hp
def finF (b : Nat) (P : PV → Store → Prop) (fl : Fl) (S' : Store) : Prop := match fl with
  | .ret v => ∃ v', fz S' b 6 v = some v' ∧ P v' (S'.take b)
  | .next => P .non (S'.take b)
  | _ => False
def finT (P : PV → Store → Prop) (fl : Fl) (S' : Store) : Prop := match fl with
  | .ret v => P v S'
  | .next => P .non S'
  | _ => False
@[simp] theorem finF_ret (b : Nat) (P : PV → Store → Prop) (v : PV) (S' : Store) : finF b P (.ret v) S' = ∃ v', fz S' b 6 v = some v' ∧ P v' (S'.take b) := rfl
@[simp] theorem finF_next (b : Nat) (P : PV → Store → Prop) (S' : Store) : finF b P .next S' = P .non (S'.take b) := rfl
@[simp] theorem finT_ret (P : PV → Store → Prop) (v : PV) (S' : Store) : finT P (.ret v) S' = P v S' := rfl
@[simp] theorem finT_next (P : PV → Store → Prop) (S' : Store) : finT P .next S' = P .non S' := rfl
/-- a call: the result is frozen -/
theorem callF {G : Tab} {f k np nl lv : Nat} {body : ISs} {vs : List PV} {S : Store} {P : PV → Store → Prop} (hd : G.fns[f]? = some ⟨np, nl, body, lv, false⟩) (h1 : 1 ≤ lv) (h2 : lv ≤ k) (hl : vs.length = np) (hn : np ≤ nl)
    (h : (execs G (callN G (lv - 1)) S.length body (vs.map some ++ List.replicate (nl - vs.length) none) S).sat fun fl _ S' => finF S.length P fl S') : (callN G k f S.length vs S).sat P := by
  refine call_sat hd h1 h2 hl hn (SR.sat_mono h fun fl _ S' q => ?_)
  cases fl <;> exact q
theorem callT {G : Tab} {f k np nl lv : Nat} {body : ISs} {vs : List PV} {S : Store} {P : PV → Store → Prop} (hd : G.fns[f]? = some ⟨np, nl, body, lv, true⟩) (h1 : 1 ≤ lv) (h2 : lv ≤ k) (hl : vs.length = np) (hn : np ≤ nl)
    (h : (execs G (callN G (lv - 1)) S.length body (vs.map some ++ List.replicate (nl - vs.length) none) S).sat fun fl _ S' => finT P fl S') : (callN G k f S.length vs S).sat P := by
  refine call_sat hd h1 h2 hl hn (SR.sat_mono h fun fl _ S' q => ?_)
  cases fl <;> exact q
theorem fz_rf {S : Store} {b : Nat} {v : PV} (h : v.rf = true) : fz S b 6 v = some v := by
  unfold fz; rw [if_pos h]
theorem mapO_some {α : Type} {f : α → Option α} : ∀ {xs : List α}, (∀ x ∈ xs, f x = some x) → mapO f xs = some xs
  | [], _ => rfl
  | x :: r, h => by
    unfold mapO
    rw [h x List.mem_cons_self, mapO_some fun y hy => h y (List.mem_cons_of_mem _ hy)]
    rfl
theorem fz_list {S : Store} {b l : Nat} {xs : List PV} (h : S[l]? = some (.lst xs)) (hb : b ≤ l) (hr : PV.rfs xs = true) : fz S b 6 (.ref l) = some (.lst xs) := by
  unfold fz
  rw [if_neg (by simp [PV.rf])]
  simp only [h]
  rw [if_neg (by omega)]
  rw [mapO_some (f := fz S b 5) fun x hx => by
    unfold fz
    rw [PV.rfs_eq, List.all_eq_true] at hr
    rw [if_pos (hr x hx)]]
  rfl
end PyI
set_option Elab.async false
set_option linter.all false
set_option maxRecDepth 100000
set_option maxHeartbeats 2000000
/-! LawA: the laws' own small defs -/
namespace PyI
open PySem
/-- a pool -/
def pool3 (a b c : Int) : PO := .lst [.int a, .int b, .int c]
section
variable {G : Tab} {S : Store} {l : Nat} {a b c : Int}
theorem pool_g0 (h : S[l]? = some (pool3 a b c)) : getIx (.ref l) (.int 0) S = some (.int a) := by rw [g_ref h]; exact at0
theorem pool_g1 (h : S[l]? = some (pool3 a b c)) : getIx (.ref l) (.int 1) S = some (.int b) := by rw [g_ref h]; exact at1
theorem pool_g2 (h : S[l]? = some (pool3 a b c)) : getIx (.ref l) (.int 2) S = some (.int c) := by rw [g_ref h]; exact at2
theorem pool_s0 {n : Nat} {x : Int} (h : S[l]? = some (pool3 a b c)) : setIx n (.ref l) (.int 0) (.int x) S = some (S.set l (pool3 x b c)) := s_ref (k := 0) h rfl (by simp)
theorem pool_s1 {n : Nat} {x : Int} (h : S[l]? = some (pool3 a b c)) : setIx n (.ref l) (.int 1) (.int x) S = some (S.set l (pool3 a x c)) := s_ref (k := 1) h rfl (by simp)
theorem pool_s2 {n : Nat} {x : Int} (h : S[l]? = some (pool3 a b c)) : setIx n (.ref l) (.int 2) (.int x) S = some (S.set l (pool3 a b x)) := s_ref (k := 2) h rfl (by simp)
/-- the pool alone is changed -/
def Pl (l : Nat) (S S' : Store) : Prop := ∃ a b c, S' = S.set l (pool3 a b c)
def HasP (l : Nat) (S : Store) : Prop := ∃ a b c, S[l]? = some (pool3 a b c)
theorem HasP.lt {l : Nat} {S : Store} (h : HasP l S) : l < S.length := by
  obtain ⟨a, b, c, h⟩ := h
  exact (List.getElem?_eq_some_iff.mp h).1
theorem Pl.refl {l : Nat} {S : Store} (h : HasP l S) : Pl l S S := by
  obtain ⟨a, b, c, h⟩ := h
  refine ⟨a, b, c, ?_⟩
  obtain ⟨hl, e⟩ := List.getElem?_eq_some_iff.mp h
  rw [← e, List.set_getElem_self]
theorem Pl.len {l : Nat} {S S' : Store} (h : Pl l S S') : S'.length = S.length := by
  obtain ⟨a, b, c, h⟩ := h
  rw [h, List.length_set]
theorem Pl.has {l : Nat} {S S' : Store} (h : Pl l S S') (p : HasP l S) : HasP l S' := by
  obtain ⟨a, b, c, h⟩ := h
  exact ⟨a, b, c, by rw [h, List.getElem?_set_self p.lt]⟩
theorem Pl.trans {l : Nat} {S S1 S2 : Store} (h : Pl l S S1) (t : Pl l S1 S2) : Pl l S S2 := by
  obtain ⟨a, b, c, h⟩ := h
  obtain ⟨a', b', c', t⟩ := t
  exact ⟨a', b', c', by rw [t, h, List.set_set]⟩
theorem HasP.app {l : Nat} {S : Store} (h : HasP l S) (T : Store) : HasP l (S ++ T) := by
  have hl := h.lt
  obtain ⟨a, b, c, h⟩ := h
  exact ⟨a, b, c, by rw [List.getElem?_append_left hl]; exact h⟩
theorem Pl.app {l : Nat} {S T S' : Store} (p : HasP l S) (h : Pl l (S ++ T) S') : ∃ S0, S' = S0 ++ T ∧ Pl l S S0 := by
  obtain ⟨a, b, c, h⟩ := h
  exact ⟨S.set l (pool3 a b c), by rw [h, List.set_append_left _ _ p.lt], a, b, c, rfl⟩
theorem draw_ok {f k : Nat} (hf : G.fns[f]? = some ⟨2, 4, Lib.law_draw, 1, false⟩) (hk : 1 ≤ k) {many : Int} {P : PV → Store → Prop} (hl : S[l]? = some (pool3 a b c)) (h1 : 0 < many) (h2 : many < 1000)
    (hP : ∀ r S', Pl l S S' → 0 ≤ r → r < many → P (.int r) S') : (callN G k f S.length [.ref l, .int many] S).sat P := by
  refine callF hf (Nat.le_refl _) hk rfl (by decide) ?_
  have hlt := (List.getElem?_eq_some_iff.mp hl).1
  have at_ : ∀ o : PO, (S.set l o)[l]? = some o := fun o => List.getElem?_set_self hlt
  have at2 : ∀ o o' : PO, ((S.set l o).set l o')[l]? = some o' := fun o o' => List.getElem?_set_self (by rw [List.length_set]; exact hlt)
  have hlog : many.natAbs.log2 < 9000 := by
    have := Nat.log2_le_self many.natAbs
    omega
  unfold Lib.law_draw
  simp only [x_cons, x_nil, x_asg, x_asgS, x_if, x_ret, w_var, w_cst, w_sub, w_bin, w_cmp, w_bf, w_nil, w_cons, Fl.go_next, Fl.go_ret, List.map_cons, List.map_nil, List.cons_append, List.nil_append, List.replicate, List.length_cons, List.length_nil, Nat.sub_self, Nat.reduceSub, Nat.reduceAdd,
    List.getElem?_cons_zero, List.getElem?_cons_succ, List.set_cons_zero, List.set_cons_succ, Option.some.injEq, exists_eq_left', Res.sat_ok, finF_ret, Res.sat_guard]
  refine ⟨_, pool_g2 hl, ?_⟩
  simp only [b_add, Res.sat_ok]
  refine ⟨_, pool_s2 hl, _, pool_g1 (at_ _), ?_⟩
  simp only [c_gtI, Res.sat_ok, t_bl, Option.some.injEq, exists_eq_left', decide_eq_true_eq, decide_eq_false_iff_not]
  refine ⟨fun hb => ?_, fun hb => ?_⟩
  · refine ⟨_, pool_g1 (at_ _), ?_⟩
    simp only [f_int, Res.sat_ok, b_div, Res.sat_guard, h1, hlog, decide_true, Bool.and_self, true_and]
    refine ⟨_, pool_s1 (at_ _), ?_⟩
    simp only [f_int, Res.sat_ok, b_mod, Res.sat_guard, h1, decide_true, true_and]
    refine ⟨_, fz_rf rfl, ?_⟩
    rw [List.set_set, List.take_of_length_le (by simp)]
    exact hP _ _ ⟨_, _, _, rfl⟩ (Int.emod_nonneg _ (by omega)) (Int.emod_lt_of_pos _ h1)
  · refine ⟨_, pool_g0 (at_ _), ?_⟩
    simp only [b_mul, Res.sat_guard, Res.sat_ok]
    refine ⟨mulOk_r (by decide), _, pool_g2 (at_ _), ?_⟩
    simp only [b_mul, b_add, b_mod, f_int, Res.sat_guard, Res.sat_ok]
    refine ⟨mulOk_r (by decide), by decide, by decide, mulOk_r ?_, _, pool_g2 (at_ _), ?_⟩
    · omega
    simp only [b_mul, b_add, b_mod, f_int, Res.sat_guard, Res.sat_ok]
    refine ⟨by decide, _, pool_s0 (at_ _), _, pool_g0 (at2 _ _), ?_⟩
    simp only [b_div, b_mod, f_int, Res.sat_guard, Res.sat_ok, h1, decide_true, true_and]
    refine ⟨by decide, _, fz_rf rfl, ?_⟩
    rw [List.set_set, List.take_of_length_le (by simp)]
    exact hP _ _ ⟨_, _, _, rfl⟩ (Int.emod_nonneg _ (by omega)) (Int.emod_lt_of_pos _ h1)
theorem draw {f k : Nat} (hf : G.fns[f]? = some ⟨2, 4, Lib.law_draw, 1, false⟩) (hk : 1 ≤ k) {many : Int} {P : PV → Store → Prop} (hl : HasP l S) (h1 : 0 < many) (h2 : many < 1000)
    (hP : ∀ r S', Pl l S S' → 0 ≤ r → r < many → P (.int r) S') : (callN G k f S.length [.ref l, .int many] S).sat P := by
  obtain ⟨a, b, c, hl⟩ := hl
  exact draw_ok hf hk hl h1 h2 hP
theorem factor_ok {f fd k : Nat} (hf : G.fns[f]? = some ⟨1, 1, Lib.law_factor fd, 2, false⟩) (hd : G.fns[fd]? = some ⟨2, 4, Lib.law_draw, 1, false⟩) (hk : 2 ≤ k) {P : PV → Store → Prop} (hl : HasP l S)
    (hP : ∀ q S', Pl l S S' → 2 ≤ q → q ≤ 9 → P (.int q) S') : (callN G k f S.length [.ref l] S).sat P := by
  refine callF hf (by decide) hk rfl (by decide) ?_
  unfold Lib.law_factor
  simp only [x_cons, x_nil, x_ret, w_ife, w_cmp, w_call, w_var, w_cst, w_bin, w_nil, w_cons, Fl.go_next, Fl.go_ret, List.map_cons, List.map_nil, List.cons_append, List.nil_append, List.replicate, List.length_cons, List.length_nil, Nat.sub_self, Nat.reduceSub, Nat.reduceAdd,
    List.getElem?_cons_zero, List.getElem?_cons_succ, Option.some.injEq, exists_eq_left', Res.sat_ok, finF_ret]
  refine draw hd (by decide) hl (by decide) (by decide) fun r S1 p1 r0 r1 => ?_
  simp only [c_ltI, Res.sat_ok, t_bl, Option.some.injEq, exists_eq_left']
  have fin : ∀ (q : Int) S2, Pl l S1 S2 → 2 ≤ q → q ≤ 9 → ∃ v', fz S2 S.length 6 (.int q) = some v' ∧ P v' (S2.take S.length) := fun q S2 p2 h2 h9 => by
    refine ⟨_, fz_rf rfl, ?_⟩
    rw [List.take_of_length_le (by rw [p2.len, p1.len]; exact Nat.le_refl _)]
    exact hP _ _ (p1.trans p2) h2 h9
  refine ⟨fun _ => ?_, fun _ => ?_⟩
  · refine draw hd (by decide) (p1.has hl) (by decide) (by decide) fun r S2 p2 r0 r1 => ?_
    simp only [b_add, Res.sat_ok]
    exact fin _ _ p2 (by omega) (by omega)
  · refine draw hd (by decide) (p1.has hl) (by decide) (by decide) fun r S2 p2 r0 r1 => ?_
    simp only [b_add, Res.sat_ok]
    exact fin _ _ p2 (by omega) (by omega)
end
end PyI
set_option Elab.async false
set_option linter.all false
set_option maxRecDepth 100000
set_option maxHeartbeats 2000000
/-! LawB: drawn names -/
namespace PyI
open PySem PySem.Spec PyProof.Rows
def nmOk (x : List Nat) : Prop := 0 < x.length ∧ x.length < 9 ∧ ∀ c ∈ x, 97 ≤ c ∧ c ≤ 122
def nmV (x : List Nat) : PV := .str (SX.S x)
def ltr : Str := "abcdefghijklmnopqrstuvwxyz"
def ltrL : List Nat := (List.range 26).map (97 + ·)
theorem ltr_eq : ltr = SX.S ltrL := by decide +kernel
theorem ltr_cps : ltr.cps.toList = ltrL := by decide +kernel
theorem ltr_at {i : Int} (h0 : 0 ≤ i) (h1 : i < 26) {S : Store} : getIx (.str ltr) (.int i) S = some (.str ⟨#[97 + i.toNat]⟩) := by
  rw [g_str, ltr_cps]
  have : L2.atI ltrL i = some (97 + i.toNat) := by
    refine atI_of h0 ?_
    unfold ltrL
    rw [List.getElem?_map, List.getElem?_range (by omega)]
    rfl
  rw [this]; rfl
theorem join_letters : ∀ cs : List Nat, Txt.join "" (cs.map fun c => SX.S [c]) = SX.S cs := by
  intro cs
  have h : ((Str.ofString "") : Str) = SX.S [] := by decide +kernel
  have e : (cs.map fun c => SX.S [c]) = (cs.map fun c => [c]).map SX.S := by rw [List.map_map]; rfl
  show Txt.join (Str.ofString "") _ = _
  rw [h, e, SX.join_S]
  congr 1
  clear e
  induction cs with
  | nil => rfl
  | cons c r ih =>
    cases r with
    | nil => rfl
    | cons d t =>
      show [c] ++ ([] ++ TL.joinL [] (([d] :: t.map fun c => [c]))) = _
      have ih' : TL.joinL [] ([d] :: t.map fun c => [c]) = d :: t := ih
      rw [ih']; rfl
theorem asStrs_V {α : Type} (f : α → Str) (xs : List α) : asStrs (xs.map fun x => PV.str (f x)) = some (xs.map f) := by
  have := asStrs_map (xs.map f)
  rwa [List.map_map] at this
/-- "".join([..]) of single letters -/
theorem join_ok {n : Nat} {fr : Bool} {cs : List Nat} {S : Store} {P : PV → Store → Prop} (h : cs.length < 1000) (hP : P (nmV cs) S) : (bmR n .join fr (.str "") [.lst (cs.map fun c => nmV [c])] S).sat P := by
  unfold bmR
  have e : bmeth .join (.str "") [.lst (cs.map fun c => nmV [c])] S = some (nmV cs) := by
    unfold bmeth
    dsimp only [itemsOf, Option.bind]
    show (asStrs (cs.map fun c => PV.str (SX.S [c]))).bind _ = _
    rw [asStrs_V]
    dsimp only [Option.bind]
    rw [join_letters]
    have l1 : (Str.ofString "").length = 0 := by decide +kernel
    have l2 : ((cs.map fun c => SX.S [c]).map (·.length)).sum = cs.length := by
      rw [List.map_map]
      clear h hP
      induction cs with
      | nil => rfl
      | cons c t ih => rw [List.map_cons, List.sum_cons, ih, List.length_cons]; show 1 + t.length = _; omega
    rw [if_pos]
    · rfl
    · rw [Bool.and_eq_true, decide_eq_true_eq]
      refine ⟨?_, ?_⟩
      · rw [l2]
        show _ + _ * (Str.ofString "").length ≤ _
        rw [l1]; omega
      · unfold okS
        rw [decide_eq_true_eq, SX.S_len, sizeLine_eq]; omega
  show ((ofO (bmeth .join (.str "") _ S) S).bind _).sat P
  rw [e]
  cases fr <;> exact hP
section
variable {G : Tab} {S : Store} {l : Nat} {c : Nat → Nat → List PV → Store → Res PV} {n : Nat}
/-- a comprehension that draws letters -/
theorem letters_ok {own : List Nat} {v : Nat} {e : IE} {ps : Ev} {m : Nat} {P : List PV → Store → Prop} (hm : m ≤ 1000) (hl : HasP l S)
    (he : ∀ (x : PV) (S1 : Store) (Q : PV → Store → Prop), HasP l S1 → S1.length = S.length → (∀ d S2, Pl l S1 S2 → 97 ≤ d → d ≤ 122 → Q (nmV [d]) S2) → (eval G c n e ((wipeP ps own).set v (some x)) S1).sat Q)
    (hP : ∀ (cs : List Nat) S', cs.length = m → (∀ d ∈ cs, 97 ≤ d ∧ d ≤ 122) → Pl l S S' → P (cs.map fun d => nmV [d]) S') :
    (compLoop (stay []) (cTest G c n own (.nm v) .nil ps) (cElt G c n own (.nm v) e ps) (rangeL 0 (m : Int)) [] S).sat P := by
  have hlen : (rangeL 0 (m : Int)).length = m := by rw [rangeL_nat]; simp
  refine comp_inv (k := 0) (fun j acc S' => Pl l S S' ∧ ∃ cs : List Nat, cs.length = j ∧ (∀ d ∈ cs, 97 ≤ d ∧ d ≤ 122) ∧ acc = cs.map fun d => nmV [d]) ⟨Pl.refl hl, [], rfl, (fun _ h => by cases h), rfl⟩ (fun _ _ _ _ => stay_nil _) (fun j x acc S' ex h => ?_) fun acc S' h => ?_
  · obtain ⟨p, cs, h1, h2, h3⟩ := h
    have hj := (List.getElem?_eq_some_iff.mp ex).1
    rw [hlen] at hj
    simp only [x_cons, x_nil, x_asg, x_asgT, x_asgS, x_asgA, x_aug, x_ex, x_ret, x_retN, x_if, x_for, x_pass, x_brk, x_cnt, x_try, w_var, w_cst, w_glb, w_tup, w_lst, w_dct0, w_neg, w_bin, w_cmp, w_chain, w_and_, w_or_, w_and1_, w_and2_, w_or1_, w_or2_, w_not, w_ife, w_sub, w_sl1, w_sl2, w_sl3, w_attr, w_call, w_callK, w_new, w_meth, w_cmeth, w_bf, w_bm, w_isi, w_fstr, w_comp, w_dcomp, w_nil, w_cons, w_ie, w_rng, w_enum, w_zip, w_tnil, w_tcons, Fl.go_next, Fl.go_ret, Fl.go_brk, Fl.go_cnt, List.map_cons, List.map_nil, List.cons_append, List.nil_append, List.replicate, List.length_cons, List.length_nil, Nat.sub_self, Nat.reduceSub, Nat.reduceAdd, List.getElem?_cons_zero, List.getElem?_cons_succ, List.set_cons_zero, List.set_cons_succ, setAll, wipeP, Option.some.injEq, exists_eq_left', exists_eq_left, Res.sat_ok, Res.sat_guard, finF_ret, finF_next, finT_ret, finT_next, cTest_nil, cTest_nm, cElt_nm, fBody_nm, t_bl, m_lst, m_ref, m_dct, m_dref, b_add, b_sub, b_mul, b_div, b_mod, b_cat, c_eqI, c_neI, c_ltI, c_leI, c_gtI, c_geI, c_eqS, c_neS, f_int, f_lenL, f_lenT, f_lenS, f_lenC, f_tupL, PV.tup.injEq, PV.lst.injEq, decide_eq_true_eq, decide_eq_false_iff_not, Bool.and_eq_true, Bool.not_eq_true', Bool.not_true, Bool.not_false, true_and, and_true]
    refine ⟨fun _ => he _ _ _ (p.has hl) p.len fun d S2 p2 d1 d2 => ⟨?_, p.trans p2, cs ++ [d], ?_, ?_, ?_⟩, fun h => by cases h⟩
    · rw [h3, List.length_map, h1, sizeLine_eq]; omega
    · rw [List.length_append, h1]; rfl
    · intro y hy
      rcases List.mem_append.mp hy with hy | hy
      · exact h2 y hy
      · rw [List.mem_singleton] at hy; subst hy; exact ⟨d1, d2⟩
    · rw [h3, List.map_append]; rfl
  · obtain ⟨p, cs, h1, h2, h3⟩ := h
    rw [hlen, Nat.zero_add] at h1
    rw [h3]
    exact hP cs S' h1 h2 p
end
end PyI
set_option Elab.async false
set_option linter.all false
set_option maxRecDepth 100000
set_option maxHeartbeats 4000000
/-! LawC: free names -/
namespace PyI
open PySem PySem.Spec PyProof.Rows
theorem nodup_le {α : Type} [DecidableEq α] : ∀ {A B : List α}, A.Nodup → (∀ a ∈ A, a ∈ B) → A.length ≤ B.length
  | [], _, _, _ => by simp
  | a :: t, B, h, hs => by
    rw [List.nodup_cons] at h
    have ha := hs a List.mem_cons_self
    have := nodup_le (A := t) (B := B.erase a) h.2 fun x hx => (List.mem_erase_of_ne (by intro e; subst e; exact h.1 hx)).mpr (hs x (List.mem_cons_of_mem _ hx))
    rw [List.length_erase_of_mem ha] at this
    have : 0 < B.length := List.length_pos_of_mem ha
    rw [List.length_cons]; omega
theorem ltrL_nodup : ltrL.Nodup := by decide +kernel
theorem ltrL_len : ltrL.length = 26 := by decide +kernel
theorem ltrL_mem {c : Nat} (h : c ∈ ltrL) : 97 ≤ c ∧ c ≤ 122 := by
  unfold ltrL at h
  rw [List.mem_map] at h
  obtain ⟨i, h1, h2⟩ := h
  rw [List.mem_range] at h1
  omega
theorem map_inj_nodup {α β : Type} {f : α → β} (hf : ∀ a b, f a = f b → a = b) : ∀ {l : List α}, l.Nodup → (l.map f).Nodup
  | [], _ => by simp
  | x :: t, h => by
    rw [List.nodup_cons] at h
    rw [List.map_cons, List.nodup_cons]
    refine ⟨fun q => ?_, map_inj_nodup hf h.2⟩
    obtain ⟨y, hy, e⟩ := List.mem_map.mp q
    rw [hf _ _ e] at hy
    exact h.1 hy
theorem spare_ne {found : List (List Nat)} (h : found.length < 26) : 0 < (ltrL.filter fun c => !decide ([c] ∈ found)).length := by
  apply Nat.pos_of_ne_zero
  intro e
  have hall : ∀ x ∈ ltrL.map (fun c => [c]), x ∈ found := by
    intro x hx
    obtain ⟨c, hc, rfl⟩ := List.mem_map.mp hx
    rw [List.length_eq_zero_iff, List.filter_eq_nil_iff] at e
    have := e c hc
    simpa using this
  have := nodup_le (map_inj_nodup (f := fun c : Nat => [c]) (fun a b h => by simpa using h) ltrL_nodup) hall
  rw [List.length_map, ltrL_len] at this
  omega
section
variable {G : Tab} {S : Store} {l : Nat} {c : Nat → Nat → List PV → Store → Res PV} {n : Nat}
theorem toDs_nm (xs : List (List Nat)) : PV.toDs (xs.map nmV) = some (xs.map fun x => PyData.str (SX.S x)) := by
  induction xs with
  | nil => rfl
  | cons x t ih => rw [List.map_cons, PV.toDs, ih]; rfl
theorem inG_nm (x : List Nat) (xs : List (List Nat)) (b : Bool) : inG (nmV x) (xs.map nmV) b S = some (decide (x ∈ xs)) := by
  unfold inG
  show (toDS (nmV x) S).bind _ = _
  rw [show toDS (nmV x) S = some (PyData.str (SX.S x)) from rfl, toDs_nm]
  dsimp only [Option.bind]
  have h1 : ((nmV x).flat && (xs.map nmV).all PV.flat) = true := by
    rw [Bool.and_eq_true]
    refine ⟨rfl, ?_⟩
    rw [List.all_map, List.all_eq_true]
    intro y _; rfl
  rw [h1, Bool.true_or, if_pos rfl, List.any_map]
  congr 1
  rw [Bool.eq_iff_iff, List.any_eq_true, decide_eq_true_eq]
  constructor
  · rintro ⟨y, hy, e⟩
    have e' : (SX.S y == SX.S x) = true := e
    have := SX.S_inj (eq_of_beq e')
    subst this; exact hy
  · intro hx
    exact ⟨x, hx, beq_self_eq_true _⟩
theorem c_inR {m : Nat} {x : List Nat} {xs : List (List Nat)} (h : S[m]? = some (.lst (xs.map nmV))) : cmpR G c .In (nmV x) (.ref m) S = .ok (decide (x ∈ xs)) S := by
  show ofO (cmpD .In (nmV x) (.ref m) S) S = _
  have : cmpD .In (nmV x) (.ref m) S = some (decide (x ∈ xs)) := by
    show isInG (nmV x) (.ref m) S = _
    unfold isInG dictOf
    simp only [h, nmV, itemsOf, Option.bind_some]
    exact inG_nm x xs _
  rw [this]; rfl
theorem c_notInR {m : Nat} {x : List Nat} {xs : List (List Nat)} (h : S[m]? = some (.lst (xs.map nmV))) : cmpR G c .NotIn (nmV x) (.ref m) S = .ok (!decide (x ∈ xs)) S := by
  show ofO (cmpD .NotIn (nmV x) (.ref m) S) S = _
  have : cmpD .NotIn (nmV x) (.ref m) S = some (!decide (x ∈ xs)) := by
    show (isInG (nmV x) (.ref m) S).map not = _
    unfold isInG dictOf
    simp only [h, nmV, itemsOf, Option.bind_some]
    show (inG (nmV x) (xs.map nmV) _ S).map not = _
    rw [inG_nm]; rfl
  rw [this]; rfl
def notIn (xs : List (List Nat)) (v : PV) : Bool := match v with
  | .str y => !decide (y.cps.toList ∈ xs)
  | _ => false
theorem chars_ltr : chars ltr = ltrL.map fun c => nmV [c] := by
  unfold chars
  rw [ltr_cps]; rfl
/-- so many different names -/
def Names (m : Nat) (xs : List (List Nat)) : Prop := xs.length = m ∧ xs.Nodup ∧ ∀ x ∈ xs, nmOk x
theorem rfs_nm (xs : List (List Nat)) : PV.rfs (xs.map nmV) = true := by
  rw [PV.rfs_eq, List.all_map, List.all_eq_true]
  intro y _; rfl
theorem free_ok {f fd k : Nat} (hf : G.fns[f]? = some ⟨2, 10, Lib.law_free_names fd, 2, false⟩) (hd : G.fns[fd]? = some ⟨2, 4, Lib.law_draw, 1, false⟩) (hk : 2 ≤ k) {m : Nat} (hm : m ≤ 5) {P : PV → Store → Prop} (hl : HasP l S)
    (hP : ∀ xs S', Pl l S S' → Names m xs → P (.lst (xs.map nmV)) S') : (callN G k f S.length [.ref l, .int m] S).sat P := by
  refine callF hf (by decide) hk rfl (by decide) ?_
  unfold Lib.law_free_names
  simp only [x_cons, x_nil, x_asg, x_asgT, x_asgS, x_asgA, x_aug, x_ex, x_ret, x_retN, x_if, x_for, x_pass, x_brk, x_cnt, x_try, w_var, w_cst, w_glb, w_tup, w_lst, w_dct0, w_neg, w_bin, w_cmp, w_chain, w_and_, w_or_, w_and1_, w_and2_, w_or1_, w_or2_, w_not, w_ife, w_sub, w_sl1, w_sl2, w_sl3, w_attr, w_call, w_callK, w_new, w_meth, w_cmeth, w_bf, w_bm, w_isi, w_fstr, w_comp, w_dcomp, w_nil, w_cons, w_ie, w_rng, w_enum, w_zip, w_tnil, w_tcons, Fl.go_next, Fl.go_ret, Fl.go_brk, Fl.go_cnt, List.map_cons, List.map_nil, List.cons_append, List.nil_append, List.replicate, List.length_cons, List.length_nil, Nat.sub_self, Nat.reduceSub, Nat.reduceAdd, List.getElem?_cons_zero, List.getElem?_cons_succ, List.set_cons_zero, List.set_cons_succ, setAll, wipeP, Option.some.injEq, exists_eq_left', exists_eq_left, Res.sat_ok, Res.sat_guard, finF_ret, finF_next, finT_ret, finT_next, cTest_nil, cTest_nm, cElt_nm, fBody_nm, t_bl, m_lst, m_ref, m_dct, m_dref, b_add, b_sub, b_mul, b_div, b_mod, b_cat, c_eqI, c_neI, c_ltI, c_leI, c_gtI, c_geI, c_eqS, c_neS, f_int, f_lenL, f_lenT, f_lenS, f_lenC, f_tupL, PV.tup.injEq, PV.lst.injEq, decide_eq_true_eq, decide_eq_false_iff_not, Bool.and_eq_true, Bool.not_eq_true', Bool.not_true, Bool.not_false, true_and, and_true]
  refine ⟨by rw [sizeLine_eq]; omega, by rw [sizeLine_eq]; omega, _, r_rng (n := (m : Int)) (by omega) (by omega), ?_⟩
  have hlen : (rangeL 0 (m : Int)).length = m := by rw [rangeL_nat]; simp
  refine for_inv (k := 0) (fun j ps S' => ∃ S0 xs v4 v5 v6 v7, S' = S0 ++ [.lst (xs.map nmV)] ∧ Pl l S S0 ∧ Names j xs ∧ ps = [some (.ref l), some (.int m), some (.str ltr), some (.ref S.length), v4, v5, v6, v7, none, none]) ?_ (fun _ _ _ _ => stay_nil _) (fun j x ps S' ex h => ?_) fun ps S' h => ?_
  · exact ⟨S, [], none, none, none, none, rfl, Pl.refl hl, ⟨rfl, List.nodup_nil, fun _ h => by cases h⟩, rfl⟩
  · obtain ⟨S0, xs, v4, v5, v6, v7, rfl, p, nx, rfl⟩ := h
    have hj := (List.getElem?_eq_some_iff.mp ex).1
    rw [hlen] at hj
    have hxs : xs.length < 5 := by have := nx.1; omega
    have hlS : l < S0.length := by rw [p.len]; exact hl.lt
    have hSl : S.length = S0.length := p.len.symm
    simp only [x_cons, x_nil, x_asg, x_asgT, x_asgS, x_asgA, x_aug, x_ex, x_ret, x_retN, x_if, x_for, x_pass, x_brk, x_cnt, x_try, w_var, w_cst, w_glb, w_tup, w_lst, w_dct0, w_neg, w_bin, w_cmp, w_chain, w_and_, w_or_, w_and1_, w_and2_, w_or1_, w_or2_, w_not, w_ife, w_sub, w_sl1, w_sl2, w_sl3, w_attr, w_call, w_callK, w_new, w_meth, w_cmeth, w_bf, w_bm, w_isi, w_fstr, w_comp, w_dcomp, w_nil, w_cons, w_ie, w_rng, w_enum, w_zip, w_tnil, w_tcons, Fl.go_next, Fl.go_ret, Fl.go_brk, Fl.go_cnt, List.map_cons, List.map_nil, List.cons_append, List.nil_append, List.replicate, List.length_cons, List.length_nil, Nat.sub_self, Nat.reduceSub, Nat.reduceAdd, List.getElem?_cons_zero, List.getElem?_cons_succ, List.set_cons_zero, List.set_cons_succ, setAll, wipeP, Option.some.injEq, exists_eq_left', exists_eq_left, Res.sat_ok, Res.sat_guard, finF_ret, finF_next, finT_ret, finT_next, cTest_nil, cTest_nm, cElt_nm, fBody_nm, t_bl, m_lst, m_ref, m_dct, m_dref, b_add, b_sub, b_mul, b_div, b_mod, b_cat, c_eqI, c_neI, c_ltI, c_leI, c_gtI, c_geI, c_eqS, c_neS, f_int, f_lenL, f_lenT, f_lenS, f_lenC, f_tupL, PV.tup.injEq, PV.lst.injEq, decide_eq_true_eq, decide_eq_false_iff_not, Bool.and_eq_true, Bool.not_eq_true', Bool.not_true, Bool.not_false, true_and, and_true]
    refine draw hd (by decide) ((p.has hl).app _) (by decide) (by decide) fun r S1 p1 r0 r1 => ?_
    obtain ⟨T1, rfl, t1⟩ := Pl.app (p.has hl) p1
    clear p1
    simp only [x_cons, x_nil, x_asg, x_asgT, x_asgS, x_asgA, x_aug, x_ex, x_ret, x_retN, x_if, x_for, x_pass, x_brk, x_cnt, x_try, w_var, w_cst, w_glb, w_tup, w_lst, w_dct0, w_neg, w_bin, w_cmp, w_chain, w_and_, w_or_, w_and1_, w_and2_, w_or1_, w_or2_, w_not, w_ife, w_sub, w_sl1, w_sl2, w_sl3, w_attr, w_call, w_callK, w_new, w_meth, w_cmeth, w_bf, w_bm, w_isi, w_fstr, w_comp, w_dcomp, w_nil, w_cons, w_ie, w_rng, w_enum, w_zip, w_tnil, w_tcons, Fl.go_next, Fl.go_ret, Fl.go_brk, Fl.go_cnt, List.map_cons, List.map_nil, List.cons_append, List.nil_append, List.replicate, List.length_cons, List.length_nil, Nat.sub_self, Nat.reduceSub, Nat.reduceAdd, List.getElem?_cons_zero, List.getElem?_cons_succ, List.set_cons_zero, List.set_cons_succ, setAll, wipeP, Option.some.injEq, exists_eq_left', exists_eq_left, Res.sat_ok, Res.sat_guard, finF_ret, finF_next, finT_ret, finT_next, cTest_nil, cTest_nm, cElt_nm, fBody_nm, t_bl, m_lst, m_ref, m_dct, m_dref, b_add, b_sub, b_mul, b_div, b_mod, b_cat, c_eqI, c_neI, c_ltI, c_leI, c_gtI, c_geI, c_eqS, c_neS, f_int, f_lenL, f_lenT, f_lenS, f_lenC, f_tupL, PV.tup.injEq, PV.lst.injEq, decide_eq_true_eq, decide_eq_false_iff_not, Bool.and_eq_true, Bool.not_eq_true', Bool.not_true, Bool.not_false, true_and, and_true]
    have er : (1 + r : Int) = (((1 + r).toNat : Nat) : Int) := by omega
    refine ⟨by unfold bmT isSt; rfl, _, r_rng (by omega) (by omega), ?_⟩
    rw [er]
    have hl1 : HasP l (T1 ++ [.lst (xs.map nmV)]) := ((t1.has (p.has hl)).app _)
    refine letters_ok (l := l) (by omega) hl1 (fun x Sx Q hx hlen1 hQ => ?_) fun cs Sx lcs hcs px => ?_
    · simp only [x_cons, x_nil, x_asg, x_asgT, x_asgS, x_asgA, x_aug, x_ex, x_ret, x_retN, x_if, x_for, x_pass, x_brk, x_cnt, x_try, w_var, w_cst, w_glb, w_tup, w_lst, w_dct0, w_neg, w_bin, w_cmp, w_chain, w_and_, w_or_, w_and1_, w_and2_, w_or1_, w_or2_, w_not, w_ife, w_sub, w_sl1, w_sl2, w_sl3, w_attr, w_call, w_callK, w_new, w_meth, w_cmeth, w_bf, w_bm, w_isi, w_fstr, w_comp, w_dcomp, w_nil, w_cons, w_ie, w_rng, w_enum, w_zip, w_tnil, w_tcons, Fl.go_next, Fl.go_ret, Fl.go_brk, Fl.go_cnt, List.map_cons, List.map_nil, List.cons_append, List.nil_append, List.replicate, List.length_cons, List.length_nil, Nat.sub_self, Nat.reduceSub, Nat.reduceAdd, List.getElem?_cons_zero, List.getElem?_cons_succ, List.set_cons_zero, List.set_cons_succ, setAll, wipeP, Option.some.injEq, exists_eq_left', exists_eq_left, Res.sat_ok, Res.sat_guard, finF_ret, finF_next, finT_ret, finT_next, cTest_nil, cTest_nm, cElt_nm, fBody_nm, t_bl, m_lst, m_ref, m_dct, m_dref, b_add, b_sub, b_mul, b_div, b_mod, b_cat, c_eqI, c_neI, c_ltI, c_leI, c_gtI, c_geI, c_eqS, c_neS, f_int, f_lenL, f_lenT, f_lenS, f_lenC, f_tupL, PV.tup.injEq, PV.lst.injEq, decide_eq_true_eq, decide_eq_false_iff_not, Bool.and_eq_true, Bool.not_eq_true', Bool.not_true, Bool.not_false, true_and, and_true]
      refine draw hd (by decide) hx (by decide) (by decide) fun r S2 p2 r0 r1 => ?_
      refine ⟨_, ltr_at r0 r1, ?_⟩
      exact hQ (97 + r.toNat) S2 p2 (by omega) (by omega)
    obtain ⟨S2, rfl, t2⟩ := Pl.app (t1.has (p.has hl)) px
    clear px
    refine join_ok (by omega) ?_
    have e2 : S2.length = S.length := by rw [t2.len, t1.len, p.len]
    have at_ : ∀ T : Store, T.length = S.length → ∀ o : PO, (T ++ [o])[S.length]? = some o := fun T h o => by
      rw [List.getElem?_append_right (by omega)]
      simp [h]
    rw [c_inR (at_ S2 e2 _)]
    simp only [x_cons, x_nil, x_asg, x_asgT, x_asgS, x_asgA, x_aug, x_ex, x_ret, x_retN, x_if, x_for, x_pass, x_brk, x_cnt, x_try, w_var, w_cst, w_glb, w_tup, w_lst, w_dct0, w_neg, w_bin, w_cmp, w_chain, w_and_, w_or_, w_and1_, w_and2_, w_or1_, w_or2_, w_not, w_ife, w_sub, w_sl1, w_sl2, w_sl3, w_attr, w_call, w_callK, w_new, w_meth, w_cmeth, w_bf, w_bm, w_isi, w_fstr, w_comp, w_dcomp, w_nil, w_cons, w_ie, w_rng, w_enum, w_zip, w_tnil, w_tcons, Fl.go_next, Fl.go_ret, Fl.go_brk, Fl.go_cnt, List.map_cons, List.map_nil, List.cons_append, List.nil_append, List.replicate, List.length_cons, List.length_nil, Nat.sub_self, Nat.reduceSub, Nat.reduceAdd, List.getElem?_cons_zero, List.getElem?_cons_succ, List.set_cons_zero, List.set_cons_succ, setAll, wipeP, Option.some.injEq, exists_eq_left', exists_eq_left, Res.sat_ok, Res.sat_guard, finF_ret, finF_next, finT_ret, finT_next, cTest_nil, cTest_nm, cElt_nm, fBody_nm, t_bl, m_lst, m_ref, m_dct, m_dref, b_add, b_sub, b_mul, b_div, b_mod, b_cat, c_eqI, c_neI, c_ltI, c_leI, c_gtI, c_geI, c_eqS, c_neS, f_int, f_lenL, f_lenT, f_lenS, f_lenC, f_tupL, PV.tup.injEq, PV.lst.injEq, decide_eq_true_eq, decide_eq_false_iff_not, Bool.and_eq_true, Bool.not_eq_true', Bool.not_true, Bool.not_false, true_and, and_true]
    -- the name is put behind
    have put : ∀ (T : Store) (y : List Nat) (w4 w5 w6 w7 : Option PV), Pl l S T → nmOk y → y ∉ xs → (bmT .append (.ref S.length) (T ++ [.lst (xs.map nmV)]) = true ∧ (bmR S.length .append true (.ref S.length) [nmV y] (T ++ [.lst (xs.map nmV)])).sat fun _ S' => ∃ S0 zs v4 v5 v6 v7, S' = S0 ++ [.lst (zs.map nmV)] ∧ Pl l S S0 ∧ Names (0 + j + 1) zs ∧ ([some (.ref l), some (.int m), some (.str ltr), some (.ref S.length), w4, w5, w6, w7, none, none] : Ev) = [some (.ref l), some (.int m), some (.str ltr), some (.ref S.length), v4, v5, v6, v7, none, none]) := by
      intro T y w4 w5 w6 w7 pT hy hn
      refine ⟨bt_append (at_ T pT.len _), bm_append (at_ T pT.len _) rfl (by rw [List.length_map, sizeLine_eq]; omega) ?_⟩
      refine ⟨T, xs ++ [y], w4, w5, w6, w7, ?_, pT, ⟨?_, ?_, ?_⟩, rfl⟩
      · rw [List.set_append_right _ _ (by rw [pT.len]; exact Nat.le_refl _), pT.len, Nat.sub_self, List.map_append]
        rfl
      · rw [List.length_append, nx.1]; rfl
      · rw [List.nodup_append]
        refine ⟨nx.2.1, by simp, fun a ha b hb e => ?_⟩
        rw [List.mem_singleton] at hb
        subst hb; subst e; exact hn ha
      · intro z hz
        rcases List.mem_append.mp hz with hz | hz
        · exact nx.2.2 z hz
        · rw [List.mem_singleton] at hz; subst hz; exact hy
    have pS2 : Pl l S S2 := (p.trans t1).trans t2
    refine ⟨fun hin => ?_, fun hout => ?_⟩
    · -- a spare letter
      refine ⟨_, rfl, ?_⟩
      refine comp_filter (notIn xs) id (stay_nil _) ?_ (fun v hv => ?_) (fun v hv _ => ?_) ?_
      · show (chars ltr).length ≤ _
        rw [chars_ltr, List.length_map, ltrL_len, sizeLine_eq]; omega
      · have hv' : v ∈ chars ltr := hv
        rw [chars_ltr] at hv'
        obtain ⟨d, hd', rfl⟩ := List.mem_map.mp hv'
        simp only [x_cons, x_nil, x_asg, x_asgT, x_asgS, x_asgA, x_aug, x_ex, x_ret, x_retN, x_if, x_for, x_pass, x_brk, x_cnt, x_try, w_var, w_cst, w_glb, w_tup, w_lst, w_dct0, w_neg, w_bin, w_cmp, w_chain, w_and_, w_or_, w_and1_, w_and2_, w_or1_, w_or2_, w_not, w_ife, w_sub, w_sl1, w_sl2, w_sl3, w_attr, w_call, w_callK, w_new, w_meth, w_cmeth, w_bf, w_bm, w_isi, w_fstr, w_comp, w_dcomp, w_nil, w_cons, w_ie, w_rng, w_enum, w_zip, w_tnil, w_tcons, Fl.go_next, Fl.go_ret, Fl.go_brk, Fl.go_cnt, List.map_cons, List.map_nil, List.cons_append, List.nil_append, List.replicate, List.length_cons, List.length_nil, Nat.sub_self, Nat.reduceSub, Nat.reduceAdd, List.getElem?_cons_zero, List.getElem?_cons_succ, List.set_cons_zero, List.set_cons_succ, setAll, wipeP, Option.some.injEq, exists_eq_left', exists_eq_left, Res.sat_ok, Res.sat_guard, finF_ret, finF_next, finT_ret, finT_next, cTest_nil, cTest_nm, cElt_nm, fBody_nm, t_bl, m_lst, m_ref, m_dct, m_dref, b_add, b_sub, b_mul, b_div, b_mod, b_cat, c_eqI, c_neI, c_ltI, c_leI, c_gtI, c_geI, c_eqS, c_neS, f_int, f_lenL, f_lenT, f_lenS, f_lenC, f_tupL, PV.tup.injEq, PV.lst.injEq, decide_eq_true_eq, decide_eq_false_iff_not, Bool.and_eq_true, Bool.not_eq_true', Bool.not_true, Bool.not_false, true_and, and_true]
        rw [c_notInR (at_ S2 e2 _)]
        simp only [x_cons, x_nil, x_asg, x_asgT, x_asgS, x_asgA, x_aug, x_ex, x_ret, x_retN, x_if, x_for, x_pass, x_brk, x_cnt, x_try, w_var, w_cst, w_glb, w_tup, w_lst, w_dct0, w_neg, w_bin, w_cmp, w_chain, w_and_, w_or_, w_and1_, w_and2_, w_or1_, w_or2_, w_not, w_ife, w_sub, w_sl1, w_sl2, w_sl3, w_attr, w_call, w_callK, w_new, w_meth, w_cmeth, w_bf, w_bm, w_isi, w_fstr, w_comp, w_dcomp, w_nil, w_cons, w_ie, w_rng, w_enum, w_zip, w_tnil, w_tcons, Fl.go_next, Fl.go_ret, Fl.go_brk, Fl.go_cnt, List.map_cons, List.map_nil, List.cons_append, List.nil_append, List.replicate, List.length_cons, List.length_nil, Nat.sub_self, Nat.reduceSub, Nat.reduceAdd, List.getElem?_cons_zero, List.getElem?_cons_succ, List.set_cons_zero, List.set_cons_succ, setAll, wipeP, Option.some.injEq, exists_eq_left', exists_eq_left, Res.sat_ok, Res.sat_guard, finF_ret, finF_next, finT_ret, finT_next, cTest_nil, cTest_nm, cElt_nm, fBody_nm, t_bl, m_lst, m_ref, m_dct, m_dref, b_add, b_sub, b_mul, b_div, b_mod, b_cat, c_eqI, c_neI, c_ltI, c_leI, c_gtI, c_geI, c_eqS, c_neS, f_int, f_lenL, f_lenT, f_lenS, f_lenC, f_tupL, PV.tup.injEq, PV.lst.injEq, decide_eq_true_eq, decide_eq_false_iff_not, Bool.and_eq_true, Bool.not_eq_true', Bool.not_true, Bool.not_false, true_and, and_true]
        rfl
      · simp only [x_cons, x_nil, x_asg, x_asgT, x_asgS, x_asgA, x_aug, x_ex, x_ret, x_retN, x_if, x_for, x_pass, x_brk, x_cnt, x_try, w_var, w_cst, w_glb, w_tup, w_lst, w_dct0, w_neg, w_bin, w_cmp, w_chain, w_and_, w_or_, w_and1_, w_and2_, w_or1_, w_or2_, w_not, w_ife, w_sub, w_sl1, w_sl2, w_sl3, w_attr, w_call, w_callK, w_new, w_meth, w_cmeth, w_bf, w_bm, w_isi, w_fstr, w_comp, w_dcomp, w_nil, w_cons, w_ie, w_rng, w_enum, w_zip, w_tnil, w_tcons, Fl.go_next, Fl.go_ret, Fl.go_brk, Fl.go_cnt, List.map_cons, List.map_nil, List.cons_append, List.nil_append, List.replicate, List.length_cons, List.length_nil, Nat.sub_self, Nat.reduceSub, Nat.reduceAdd, List.getElem?_cons_zero, List.getElem?_cons_succ, List.set_cons_zero, List.set_cons_succ, setAll, wipeP, Option.some.injEq, exists_eq_left', exists_eq_left, Res.sat_ok, Res.sat_guard, finF_ret, finF_next, finT_ret, finT_next, cTest_nil, cTest_nm, cElt_nm, fBody_nm, t_bl, m_lst, m_ref, m_dct, m_dref, b_add, b_sub, b_mul, b_div, b_mod, b_cat, c_eqI, c_neI, c_ltI, c_leI, c_gtI, c_geI, c_eqS, c_neS, f_int, f_lenL, f_lenT, f_lenS, f_lenC, f_tupL, PV.tup.injEq, PV.lst.injEq, decide_eq_true_eq, decide_eq_false_iff_not, Bool.and_eq_true, Bool.not_eq_true', Bool.not_true, Bool.not_false, true_and, and_true]
        rfl
      · have e3 : ((chars ltr).filter (notIn xs)).map id = (ltrL.filter fun d => !decide ([d] ∈ xs)).map fun d => nmV [d] := by
          rw [List.map_id, chars_ltr, List.filter_map]
          rfl
        dsimp only
        rw [e3]
        rw [List.length_map]
        have hpos := spare_ne (found := xs) (by omega)
        have hle := List.length_filter_le (fun d => !decide ([d] ∈ xs)) ltrL
        rw [ltrL_len] at hle
        refine draw hd (by decide) ((t2.has (t1.has (p.has hl))).app _) (by omega) (by omega) fun r' S3 p3 r0' r1' => ?_
        obtain ⟨S3, rfl, t3⟩ := Pl.app (t2.has (t1.has (p.has hl))) p3
        clear p3
        have hr : r'.toNat < (ltrL.filter fun d => !decide ([d] ∈ xs)).length := by omega
        have hget : ((ltrL.filter fun d => !decide ([d] ∈ xs)).map fun d => nmV [d])[r'.toNat]? = some (nmV [(ltrL.filter fun d => !decide ([d] ∈ xs))[r'.toNat]]) := by
          rw [List.getElem?_map, List.getElem?_eq_getElem hr]; rfl
        have hmem := List.getElem_mem hr
        rw [List.mem_filter] at hmem
        refine ⟨_, by rw [g_lst]; exact atI_of r0' hget, ?_⟩
        have hlt := ltrL_mem hmem.1
        have q := put S3 [(ltrL.filter fun d => !decide ([d] ∈ xs))[r'.toNat]] (some x) (some (.int ((1 + r).toNat : Int))) (some (nmV [(ltrL.filter fun d => !decide ([d] ∈ xs))[r'.toNat]])) (some (.lst ((ltrL.filter fun d => !decide ([d] ∈ xs)).map fun d => nmV [d]))) (pS2.trans t3)
          ⟨by simp, by simp, fun z hz => by rw [List.mem_singleton] at hz; subst hz; exact hlt⟩ (by simpa using hmem.2)
        exact q
    · have q := put S2 cs (some x) (some (.int ((1 + r).toNat : Int))) (some (nmV cs)) v7 pS2 ⟨by omega, by omega, hcs⟩ (by simpa using hout)
      exact q
  · obtain ⟨S0, xs, v4, v5, v6, v7, rfl, p, nx, rfl⟩ := h
    rw [hlen, Nat.zero_add] at nx
    simp only [x_cons, x_nil, x_asg, x_asgT, x_asgS, x_asgA, x_aug, x_ex, x_ret, x_retN, x_if, x_for, x_pass, x_brk, x_cnt, x_try, w_var, w_cst, w_glb, w_tup, w_lst, w_dct0, w_neg, w_bin, w_cmp, w_chain, w_and_, w_or_, w_and1_, w_and2_, w_or1_, w_or2_, w_not, w_ife, w_sub, w_sl1, w_sl2, w_sl3, w_attr, w_call, w_callK, w_new, w_meth, w_cmeth, w_bf, w_bm, w_isi, w_fstr, w_comp, w_dcomp, w_nil, w_cons, w_ie, w_rng, w_enum, w_zip, w_tnil, w_tcons, Fl.go_next, Fl.go_ret, Fl.go_brk, Fl.go_cnt, List.map_cons, List.map_nil, List.cons_append, List.nil_append, List.replicate, List.length_cons, List.length_nil, Nat.sub_self, Nat.reduceSub, Nat.reduceAdd, List.getElem?_cons_zero, List.getElem?_cons_succ, List.set_cons_zero, List.set_cons_succ, setAll, wipeP, Option.some.injEq, exists_eq_left', exists_eq_left, Res.sat_ok, Res.sat_guard, finF_ret, finF_next, finT_ret, finT_next, cTest_nil, cTest_nm, cElt_nm, fBody_nm, t_bl, m_lst, m_ref, m_dct, m_dref, b_add, b_sub, b_mul, b_div, b_mod, b_cat, c_eqI, c_neI, c_ltI, c_leI, c_gtI, c_geI, c_eqS, c_neS, f_int, f_lenL, f_lenT, f_lenS, f_lenC, f_tupL, PV.tup.injEq, PV.lst.injEq, decide_eq_true_eq, decide_eq_false_iff_not, Bool.and_eq_true, Bool.not_eq_true', Bool.not_true, Bool.not_false, true_and, and_true]
    refine ⟨_, fz_list (xs := xs.map nmV) (by rw [List.getElem?_append_right (by rw [p.len]; exact Nat.le_refl _), p.len]; simp) (Nat.le_refl _) (rfs_nm xs), ?_⟩
    rw [List.take_append_of_le_length (by rw [p.len]; exact Nat.le_refl _), List.take_of_length_le (by rw [p.len]; exact Nat.le_refl _)]
    exact hP xs S0 p nx
end
end PyI
set_option Elab.async false
set_option linter.all false
set_option maxRecDepth 100000
set_option maxHeartbeats 4000000
/-! LawD: names -/
namespace PyI
open PySem PySem.Spec PyProof.Rows
theorem map_nodup_on {α β : Type} {f : α → β} : ∀ {l : List α}, l.Nodup → (∀ a ∈ l, ∀ b ∈ l, f a = f b → a = b) → (l.map f).Nodup
  | [], _, _ => by simp
  | x :: t, h, hf => by
    rw [List.nodup_cons] at h
    rw [List.map_cons, List.nodup_cons]
    refine ⟨fun q => ?_, map_nodup_on h.2 fun a ha b hb => hf a (List.mem_cons_of_mem _ ha) b (List.mem_cons_of_mem _ hb)⟩
    obtain ⟨y, hy, e⟩ := List.mem_map.mp q
    rw [hf _ (List.mem_cons_of_mem _ hy) _ List.mem_cons_self e] at hy
    exact h.1 hy
def onInt {α : Type} (d : α) (g : Nat → α) (v : PV) : α := match v with
  | .int i => g i.toNat
  | _ => d
section
variable {G : Tab} {S : Store} {l : Nat} {c : Nat → Nat → List PV → Store → Res PV} {n : Nat}
theorem comp_range {own : List Nat} {v : Nat} {e : IE} {ps : Ev} {m : Nat} {P : List PV → Store → Prop} (g : Nat → PV) (hm : m ≤ 1000)
    (he : ∀ i, i < m → (eval G c n e ((wipeP ps own).set v (some (.int (i : Int)))) S).sat fun x S1 => x = g i ∧ S1 = S) (hP : P ((List.range m).map g) S) :
    (compLoop (stay []) (cTest G c n own (.nm v) .nil ps) (cElt G c n own (.nm v) e ps) (rangeL 0 (m : Int)) [] S).sat P := by
  rw [rangeL_nat]
  refine comp_map (onInt .non g) (stay_nil _) ?_ (fun x hx => ?_) (fun x hx => ?_) ?_
  · rw [List.length_map, List.length_range, sizeLine_eq]; omega
  · rw [cTest_nil]
    exact ⟨rfl, rfl⟩
  · obtain ⟨i, hi, rfl⟩ := List.mem_map.mp hx
    rw [List.mem_range] at hi
    simp only [cElt_nm]
    refine Res.sat_mono (he i hi) fun x S1 q => ⟨?_, q.2⟩
    rw [q.1]; show g i = g (i : Int).toNat
    rw [Int.toNat_natCast]
  · rw [List.map_map]
    have : (onInt .non g ∘ fun (i : Nat) => PV.int (i : Int)) = g := by
      funext i
      show g (i : Int).toNat = g i
      rw [Int.toNat_natCast]
    rw [this]; exact hP
theorem comp_rangeF {own : List Nat} {v : Nat} {e t : IE} {ps : Ev} {m : Nat} {P : List PV → Store → Prop} (g : Nat → PV) (q : Nat → Bool) (hm : m ≤ 1000)
    (ht : ∀ i, i < m → (testL G c n (.cons t .nil) ((wipeP ps own).set v (some (.int (i : Int)))) S).sat fun b S1 => b = q i ∧ S1 = S)
    (he : ∀ i, i < m → (eval G c n e ((wipeP ps own).set v (some (.int (i : Int)))) S).sat fun x S1 => x = g i ∧ S1 = S) (hP : P (((List.range m).filter q).map g) S) :
    (compLoop (stay []) (cTest G c n own (.nm v) (.cons t .nil) ps) (cElt G c n own (.nm v) e ps) (rangeL 0 (m : Int)) [] S).sat P := by
  rw [rangeL_nat]
  refine comp_filter (onInt false q) (onInt .non g) (stay_nil _) ?_ (fun x hx => ?_) (fun x hx _ => ?_) ?_
  · rw [List.length_map, List.length_range, sizeLine_eq]; omega
  · obtain ⟨i, hi, rfl⟩ := List.mem_map.mp hx
    rw [List.mem_range] at hi
    simp only [cTest_nm]
    refine Res.sat_mono (ht i hi) fun x S1 q' => ⟨?_, q'.2⟩
    rw [q'.1]; show q i = q (i : Int).toNat
    rw [Int.toNat_natCast]
  · obtain ⟨i, hi, rfl⟩ := List.mem_map.mp hx
    rw [List.mem_range] at hi
    simp only [cElt_nm]
    refine Res.sat_mono (he i hi) fun x S1 q => ⟨?_, q.2⟩
    rw [q.1]; show g i = g (i : Int).toNat
    rw [Int.toNat_natCast]
  · rw [List.filter_map, List.map_map]
    have e1 : (onInt .non g ∘ fun (i : Nat) => PV.int (i : Int)) = g := by
      funext i
      show g (i : Int).toNat = g i
      rw [Int.toNat_natCast]
    have e2 : (onInt false q ∘ fun (i : Nat) => PV.int (i : Int)) = q := by
      funext i
      show q (i : Int).toNat = q i
      rw [Int.toNat_natCast]
    rw [e1, e2]; exact hP
/-! ### parts of texts -/
theorem cut_hi {α : Type} {l : List α} {h : Nat} : cutL l none (some (h : Int)) = l.take h := by
  unfold cutL
  rw [HT.sIx_none, HT.sIx_nat, List.drop_zero, Nat.sub_zero]
  by_cases q : h ≤ l.length
  · rw [Nat.min_eq_left q]
  · rw [Nat.min_eq_right (by omega), List.take_of_length_le (Nat.le_refl _), List.take_of_length_le (by omega)]
theorem cut_mid {α : Type} {l : List α} {a h : Nat} (h1 : a ≤ l.length) (h2 : h ≤ l.length) : cutL l (some (a : Int)) (some (h : Int)) = (l.drop a).take (h - a) := by
  unfold cutL
  rw [HT.sIx_nat, HT.sIx_nat, Nat.min_eq_left h1, Nat.min_eq_left h2]
theorem sl_hi {x : List Nat} {i : Int} (h : 0 ≤ i) : getSl (nmV x) none (some i) S = some (nmV (x.take i.toNat)) := by
  show some (PV.str ⟨(cutL (SX.S x).cps.toList none (some i)).toArray⟩) = _
  have : i = (i.toNat : Int) := by omega
  rw [this, cut_hi]
  simp only [Int.toNat_natCast]
  rfl
theorem sl_mid {x : List Nat} {i j : Int} (h : 0 ≤ i) (h1 : i ≤ x.length) (h2 : 0 ≤ j) (h3 : j ≤ x.length) : getSl (nmV x) (some i) (some j) S = some (nmV ((x.drop i.toNat).take (j.toNat - i.toNat))) := by
  show some (PV.str ⟨(cutL (SX.S x).cps.toList (some i) (some j)).toArray⟩) = _
  have e1 : i = (i.toNat : Int) := by omega
  have e2 : j = (j.toNat : Int) := by omega
  rw [e1, e2, cut_mid (by show i.toNat ≤ x.length; omega) (by show j.toNat ≤ x.length; omega)]
  simp only [Int.toNat_natCast]
  rfl
theorem cat_nm {x y : List Nat} (h : x.length + y.length ≤ 1000) : binop .Add (nmV x) (nmV y) S = .ok (nmV (x ++ y)) S := by
  show binop .Add (.str (SX.S x)) (.str (SX.S y)) S = _
  rw [b_cat, SX.S_len, SX.S_len, SX.S_cat]
  have : decide (x.length + y.length ≤ sizeLine) = true := by rw [decide_eq_true_eq, sizeLine_eq]; omega
  rw [this]; rfl
theorem step_ok {r : Int} (h0 : 0 ≤ r) (h1 : r < 4) : ∃ s : Int, getIx (.lst [.int 1, .int 3, .int 5, .int 7]) (.int r) S = some (.int s) ∧ (s = 1 ∨ s = 3 ∨ s = 5 ∨ s = 7) := by
  have : r = 0 ∨ r = 1 ∨ r = 2 ∨ r = 3 := by omega
  rcases this with rfl | rfl | rfl | rfl
  · exact ⟨1, by rw [g_lst]; exact at0, by simp⟩
  · exact ⟨3, by rw [g_lst]; exact at1, by simp⟩
  · exact ⟨5, by rw [g_lst]; exact at2, by simp⟩
  · exact ⟨7, by rw [g_lst]; exact atI_nat (k := 3) rfl, by simp⟩
theorem names_ok {f fd ff k : Nat} (hf : G.fns[f]? = some ⟨2, 10, Lib.law_names fd ff, 3, false⟩) (hd : G.fns[fd]? = some ⟨2, 4, Lib.law_draw, 1, false⟩) (hff : G.fns[ff]? = some ⟨2, 10, Lib.law_free_names fd, 2, false⟩) (hk : 3 ≤ k) {m : Nat} (hm : m ≤ 5) {P : PV → Store → Prop} (hl : HasP l S)
    (hP : ∀ xs S', Pl l S S' → Names m xs → P (.lst (xs.map nmV)) S') : (callN G k f S.length [.ref l, .int m] S).sat P := by
  refine callF hf (by decide) hk rfl (by decide) ?_
  unfold Lib.law_names
  simp only [x_cons, x_nil, x_asg, x_asgT, x_asgS, x_asgA, x_aug, x_ex, x_ret, x_retN, x_if, x_for, x_pass, x_brk, x_cnt, x_try, w_var, w_cst, w_glb, w_tup, w_lst, w_dct0, w_neg, w_bin, w_cmp, w_chain, w_and_, w_or_, w_and1_, w_and2_, w_or1_, w_or2_, w_not, w_ife, w_sub, w_sl1, w_sl2, w_sl3, w_attr, w_call, w_callK, w_new, w_meth, w_cmeth, w_bf, w_bm, w_isi, w_fstr, w_comp, w_dcomp, w_nil, w_cons, w_ie, w_rng, w_enum, w_zip, w_tnil, w_tcons, Fl.go_next, Fl.go_ret, Fl.go_brk, Fl.go_cnt, List.map_cons, List.map_nil, List.cons_append, List.nil_append, List.replicate, List.length_cons, List.length_nil, Nat.sub_self, Nat.reduceSub, Nat.reduceAdd, List.getElem?_cons_zero, List.getElem?_cons_succ, List.set_cons_zero, List.set_cons_succ, setAll, wipeP, Option.some.injEq, exists_eq_left', exists_eq_left, Res.sat_ok, Res.sat_guard, finF_ret, finF_next, finT_ret, finT_next, cTest_nil, cTest_nm, cElt_nm, fBody_nm, t_bl, m_lst, m_ref, m_dct, m_dref, b_add, b_sub, b_mul, b_div, b_mod, b_cat, c_eqI, c_neI, c_ltI, c_leI, c_gtI, c_geI, c_eqS, c_neS, f_int, f_lenL, f_lenT, f_lenS, f_lenC, f_tupL, PV.tup.injEq, PV.lst.injEq, decide_eq_true_eq, decide_eq_false_iff_not, Bool.and_eq_true, Bool.not_eq_true', Bool.not_true, Bool.not_false, true_and, and_true]
  have fin : ∀ (T : Store) (xs : List (List Nat)), Pl l S T → Names m xs → ∃ v', fz T S.length 6 (.lst (xs.map nmV)) = some v' ∧ P v' (T.take S.length) := fun T xs pT nx => by
    refine ⟨_, fz_rf (by show PV.rfs _ = true; exact rfs_nm xs), ?_⟩
    rw [List.take_of_length_le (by rw [pT.len]; exact Nat.le_refl _)]
    exact hP xs T pT nx
  refine draw hd (by decide) hl (by decide) (by decide) fun w S1 p1 w0 w1 => ⟨by rw [sizeLine_eq]; omega, fun hw => ?_, fun hw => ?_⟩
  · exact free_ok hff hd (by decide) hm (p1.has hl) fun xs S2 p2 nx => fin S2 xs (p1.trans p2) nx
  refine draw hd (by decide) (p1.has hl) (by decide) (by decide) fun t S2 p2 t0 t1 => ⟨by rw [sizeLine_eq]; omega, ?_⟩
  have l2 := p2.has (p1.has hl)
  refine draw hd (by decide) l2 (by decide) (by decide) fun r S3 p3 r0 r1 => ?_
  have l3 := p3.has l2
  obtain ⟨st, es, hst⟩ := step_ok (S := S3) r0 r1
  refine ⟨_, es, by rw [sizeLine_eq]; omega, by unfold bmT isSt; rfl, _, r_rng (by decide) (by decide), ?_⟩
  refine letters_ok (l := l) (m := 8) (by decide) l3 (fun x Sx Q hx hlen1 hQ => ?_) fun cs S4 lcs hcs p4 => ?_
  · simp only [x_cons, x_nil, x_asg, x_asgT, x_asgS, x_asgA, x_aug, x_ex, x_ret, x_retN, x_if, x_for, x_pass, x_brk, x_cnt, x_try, w_var, w_cst, w_glb, w_tup, w_lst, w_dct0, w_neg, w_bin, w_cmp, w_chain, w_and_, w_or_, w_and1_, w_and2_, w_or1_, w_or2_, w_not, w_ife, w_sub, w_sl1, w_sl2, w_sl3, w_attr, w_call, w_callK, w_new, w_meth, w_cmeth, w_bf, w_bm, w_isi, w_fstr, w_comp, w_dcomp, w_nil, w_cons, w_ie, w_rng, w_enum, w_zip, w_tnil, w_tcons, Fl.go_next, Fl.go_ret, Fl.go_brk, Fl.go_cnt, List.map_cons, List.map_nil, List.cons_append, List.nil_append, List.replicate, List.length_cons, List.length_nil, Nat.sub_self, Nat.reduceSub, Nat.reduceAdd, List.getElem?_cons_zero, List.getElem?_cons_succ, List.set_cons_zero, List.set_cons_succ, setAll, wipeP, Option.some.injEq, exists_eq_left', exists_eq_left, Res.sat_ok, Res.sat_guard, finF_ret, finF_next, finT_ret, finT_next, cTest_nil, cTest_nm, cElt_nm, fBody_nm, t_bl, m_lst, m_ref, m_dct, m_dref, b_add, b_sub, b_mul, b_div, b_mod, b_cat, c_eqI, c_neI, c_ltI, c_leI, c_gtI, c_geI, c_eqS, c_neS, f_int, f_lenL, f_lenT, f_lenS, f_lenC, f_tupL, PV.tup.injEq, PV.lst.injEq, decide_eq_true_eq, decide_eq_false_iff_not, Bool.and_eq_true, Bool.not_eq_true', Bool.not_true, Bool.not_false, true_and, and_true]
    refine draw hd (by decide) hx (by decide) (by decide) fun r S2 p2 r0 r1 => ?_
    refine ⟨_, ltr_at r0 r1, ?_⟩
    exact hQ (97 + r.toNat) S2 p2 (by omega) (by omega)
  have l4 := p4.has l3
  have p14 : Pl l S S4 := (((p1.trans p2).trans p3).trans p4)
  refine join_ok (by omega) ⟨fun hw1 => ?_, fun hw1 => ?_⟩
  · -- beginnings of one text
    refine ⟨_, r_rng (by omega) (by omega), ?_⟩
    refine comp_range (fun i => nmV (cs.take ((t + (i : Int) * st) % 8 + 1).toNat)) (by omega) (fun i hi => ?_) ?_
    · simp only [x_cons, x_nil, x_asg, x_asgT, x_asgS, x_asgA, x_aug, x_ex, x_ret, x_retN, x_if, x_for, x_pass, x_brk, x_cnt, x_try, w_var, w_cst, w_glb, w_tup, w_lst, w_dct0, w_neg, w_bin, w_cmp, w_chain, w_and_, w_or_, w_and1_, w_and2_, w_or1_, w_or2_, w_not, w_ife, w_sub, w_sl1, w_sl2, w_sl3, w_attr, w_call, w_callK, w_new, w_meth, w_cmeth, w_bf, w_bm, w_isi, w_fstr, w_comp, w_dcomp, w_nil, w_cons, w_ie, w_rng, w_enum, w_zip, w_tnil, w_tcons, Fl.go_next, Fl.go_ret, Fl.go_brk, Fl.go_cnt, List.map_cons, List.map_nil, List.cons_append, List.nil_append, List.replicate, List.length_cons, List.length_nil, Nat.sub_self, Nat.reduceSub, Nat.reduceAdd, List.getElem?_cons_zero, List.getElem?_cons_succ, List.set_cons_zero, List.set_cons_succ, setAll, wipeP, Option.some.injEq, exists_eq_left', exists_eq_left, Res.sat_ok, Res.sat_guard, finF_ret, finF_next, finT_ret, finT_next, cTest_nil, cTest_nm, cElt_nm, fBody_nm, t_bl, m_lst, m_ref, m_dct, m_dref, b_add, b_sub, b_mul, b_div, b_mod, b_cat, c_eqI, c_neI, c_ltI, c_leI, c_gtI, c_geI, c_eqS, c_neS, f_int, f_lenL, f_lenT, f_lenS, f_lenC, f_tupL, PV.tup.injEq, PV.lst.injEq, decide_eq_true_eq, decide_eq_false_iff_not, Bool.and_eq_true, Bool.not_eq_true', Bool.not_true, Bool.not_false, true_and, and_true]
      refine ⟨mulOk_r ?_, by decide, _, sl_hi (S := S4) (by omega), rfl⟩
      rcases hst with rfl | rfl | rfl | rfl <;> decide
    · rw [show (List.range m).map (fun i : Nat => nmV (cs.take ((t + (i : Int) * st) % 8 + 1).toNat)) = ((List.range m).map fun i : Nat => cs.take ((t + (i : Int) * st) % 8 + 1).toNat).map nmV by rw [List.map_map]; rfl]
      have len : ∀ i : Nat, (cs.take ((t + (i : Int) * st) % 8 + 1).toNat).length = ((t + (i : Int) * st) % 8 + 1).toNat := fun i => by
        rw [List.length_take, lcs]; omega
      refine fin S4 _ p14 ⟨by rw [List.length_map, List.length_range], map_nodup_on List.nodup_range fun a ha b hb e => ?_, fun x hx => ?_⟩
      · rw [List.mem_range] at ha hb
        have e2 := congrArg List.length e
        rw [len, len] at e2
        rcases hst with rfl | rfl | rfl | rfl <;> omega
      · obtain ⟨i, hi, rfl⟩ := List.mem_map.mp hx
        refine ⟨by rw [len]; omega, by rw [len]; omega, fun d hd => hcs d (List.mem_of_mem_take hd)⟩
  · -- differing at one place
    refine draw hd (by decide) l4 (by decide) (by decide) fun a S5 p5 a0 a1 => ?_
    have l5 := p5.has l4
    refine draw hd (by decide) l5 (by omega) (by omega) fun b S6 p6 b0 b1 => ?_
    refine ⟨_, r_rng (by omega) (by omega), ?_⟩
    let g : Nat → List Nat := fun i => (cs.take a.toNat ++ [97 + ((t + (i : Int) * st) % 26).toNat]) ++ (cs.drop a.toNat).take ((a + b).toNat - a.toNat)
    have lt_ : (cs.take a.toNat).length = a.toNat := by rw [List.length_take]; omega
    have ld : ((cs.drop a.toNat).take ((a + b).toNat - a.toNat)).length = b.toNat := by rw [List.length_take, List.length_drop]; omega
    refine comp_range (fun i => nmV (g i)) (by omega) (fun i hi => ?_) ?_
    · simp only [x_cons, x_nil, x_asg, x_asgT, x_asgS, x_asgA, x_aug, x_ex, x_ret, x_retN, x_if, x_for, x_pass, x_brk, x_cnt, x_try, w_var, w_cst, w_glb, w_tup, w_lst, w_dct0, w_neg, w_bin, w_cmp, w_chain, w_and_, w_or_, w_and1_, w_and2_, w_or1_, w_or2_, w_not, w_ife, w_sub, w_sl1, w_sl2, w_sl3, w_attr, w_call, w_callK, w_new, w_meth, w_cmeth, w_bf, w_bm, w_isi, w_fstr, w_comp, w_dcomp, w_nil, w_cons, w_ie, w_rng, w_enum, w_zip, w_tnil, w_tcons, Fl.go_next, Fl.go_ret, Fl.go_brk, Fl.go_cnt, List.map_cons, List.map_nil, List.cons_append, List.nil_append, List.replicate, List.length_cons, List.length_nil, Nat.sub_self, Nat.reduceSub, Nat.reduceAdd, List.getElem?_cons_zero, List.getElem?_cons_succ, List.set_cons_zero, List.set_cons_succ, setAll, wipeP, Option.some.injEq, exists_eq_left', exists_eq_left, Res.sat_ok, Res.sat_guard, finF_ret, finF_next, finT_ret, finT_next, cTest_nil, cTest_nm, cElt_nm, fBody_nm, t_bl, m_lst, m_ref, m_dct, m_dref, b_add, b_sub, b_mul, b_div, b_mod, b_cat, c_eqI, c_neI, c_ltI, c_leI, c_gtI, c_geI, c_eqS, c_neS, f_int, f_lenL, f_lenT, f_lenS, f_lenC, f_tupL, PV.tup.injEq, PV.lst.injEq, decide_eq_true_eq, decide_eq_false_iff_not, Bool.and_eq_true, Bool.not_eq_true', Bool.not_true, Bool.not_false, true_and, and_true]
      refine ⟨_, sl_hi (S := S6) a0, mulOk_r ?_, by decide, _, ltr_at (S := S6) (by omega) (by omega), ?_⟩
      · rcases hst with rfl | rfl | rfl | rfl <;> decide
      rw [show (PV.str ⟨#[97 + ((t + (i : Int) * st) % 26).toNat]⟩) = nmV [97 + ((t + (i : Int) * st) % 26).toNat] from rfl, cat_nm (by rw [lt_]; simp; omega)]
      simp only [x_cons, x_nil, x_asg, x_asgT, x_asgS, x_asgA, x_aug, x_ex, x_ret, x_retN, x_if, x_for, x_pass, x_brk, x_cnt, x_try, w_var, w_cst, w_glb, w_tup, w_lst, w_dct0, w_neg, w_bin, w_cmp, w_chain, w_and_, w_or_, w_and1_, w_and2_, w_or1_, w_or2_, w_not, w_ife, w_sub, w_sl1, w_sl2, w_sl3, w_attr, w_call, w_callK, w_new, w_meth, w_cmeth, w_bf, w_bm, w_isi, w_fstr, w_comp, w_dcomp, w_nil, w_cons, w_ie, w_rng, w_enum, w_zip, w_tnil, w_tcons, Fl.go_next, Fl.go_ret, Fl.go_brk, Fl.go_cnt, List.map_cons, List.map_nil, List.cons_append, List.nil_append, List.replicate, List.length_cons, List.length_nil, Nat.sub_self, Nat.reduceSub, Nat.reduceAdd, List.getElem?_cons_zero, List.getElem?_cons_succ, List.set_cons_zero, List.set_cons_succ, setAll, wipeP, Option.some.injEq, exists_eq_left', exists_eq_left, Res.sat_ok, Res.sat_guard, finF_ret, finF_next, finT_ret, finT_next, cTest_nil, cTest_nm, cElt_nm, fBody_nm, t_bl, m_lst, m_ref, m_dct, m_dref, b_add, b_sub, b_mul, b_div, b_mod, b_cat, c_eqI, c_neI, c_ltI, c_leI, c_gtI, c_geI, c_eqS, c_neS, f_int, f_lenL, f_lenT, f_lenS, f_lenC, f_tupL, PV.tup.injEq, PV.lst.injEq, decide_eq_true_eq, decide_eq_false_iff_not, Bool.and_eq_true, Bool.not_eq_true', Bool.not_true, Bool.not_false, true_and, and_true]
      refine ⟨_, rfl, _, sl_mid (S := S6) a0 (by omega) (by omega) (by omega), ?_⟩
      rw [cat_nm (by rw [List.length_append, lt_, ld]; simp; omega)]
      exact ⟨rfl, rfl⟩
    · rw [show (List.range m).map (fun i => nmV (g i)) = ((List.range m).map g).map nmV by rw [List.map_map]; rfl]
      refine fin S6 _ ((p14.trans p5).trans p6) ⟨by rw [List.length_map, List.length_range], map_nodup_on List.nodup_range fun i hi j hj e => ?_, fun x hx => ?_⟩
      · rw [List.mem_range] at hi hj
        have e2 : (cs.take a.toNat ++ [97 + ((t + (i : Int) * st) % 26).toNat]) ++ (cs.drop a.toNat).take ((a + b).toNat - a.toNat) = (cs.take a.toNat ++ [97 + ((t + (j : Int) * st) % 26).toNat]) ++ (cs.drop a.toNat).take ((a + b).toNat - a.toNat) := e
        have e3 := List.append_cancel_left (List.append_cancel_right e2)
        have e4 : 97 + ((t + (i : Int) * st) % 26).toNat = 97 + ((t + (j : Int) * st) % 26).toNat := by simpa using e3
        rcases hst with rfl | rfl | rfl | rfl <;> omega
      · obtain ⟨i, hi, rfl⟩ := List.mem_map.mp hx
        have hlen : (g i).length = a.toNat + 1 + b.toNat := by
          show ((cs.take a.toNat ++ [_]) ++ _).length = _
          rw [List.length_append, List.length_append, lt_, ld]; rfl
        refine ⟨by rw [hlen]; omega, by rw [hlen]; omega, fun d hd => ?_⟩
        have hd' : d ∈ (cs.take a.toNat ++ [97 + ((t + (i : Int) * st) % 26).toNat]) ++ (cs.drop a.toNat).take ((a + b).toNat - a.toNat) := hd
        rcases List.mem_append.mp hd' with h | h
        · rcases List.mem_append.mp h with h | h
          · exact hcs d (List.mem_of_mem_take h)
          · rw [List.mem_singleton] at h
            omega
        · exact hcs d (List.mem_of_mem_drop (List.mem_of_mem_take h))
end
end PyI
set_option Elab.async false
set_option linter.all false
set_option maxRecDepth 100000
set_option maxHeartbeats 4000000
/-! LawE: rows -/
namespace PyI
open PySem PySem.Spec PyProof.Rows
def intV (i : Nat) : PV := .int (i : Int)
def intD (i : Nat) : PyData := .int (i : Int)
theorem toDs_int (xs : List Nat) : PV.toDs (xs.map intV) = some (xs.map intD) := by
  induction xs with
  | nil => rfl
  | cons x t ih => rw [List.map_cons, PV.toDs, ih]; rfl
theorem lay_ints : ∀ xs : List Nat, PyData.canLayAll0 (xs.map intD) = true
  | [] => by simp only [List.map_nil, PyData.canLayAll0]
  | x :: t => by simp only [List.map_cons, PyData.canLayAll0, PyData.canLay0, lay_ints t, Bool.and_self, intD]
theorem depth_ints : ∀ xs : List Nat, PyData.depthAll (xs.map intD) = 0
  | [] => by simp only [List.map_nil, PyData.depthAll]
  | x :: t => by simp only [List.map_cons, PyData.depthAll, PyData.depth, depth_ints t, Nat.max_self, intD]
theorem shaped_ints (xs : List Nat) : SeqAt.shaped (.list (xs.map intD)) = true := by
  unfold SeqAt.shaped
  rw [Bool.and_eq_true, decide_eq_true_eq]
  refine ⟨?_, ?_⟩
  · simp only [PyData.canLay0]; exact lay_ints xs
  · simp only [PyData.depth, depth_ints]; omega
theorem rfs_int (xs : List Nat) : PV.rfs (xs.map intV) = true := by
  rw [PV.rfs_eq, List.all_map, List.all_eq_true]
  intro y _; rfl
section
variable {G : Tab} {S : Store} {l : Nat} {c : Nat → Nat → List PV → Store → Res PV} {n : Nat}
theorem c_eqNil (xs : List Nat) : cmpR G c .Eq (.lst (xs.map intV)) (.lst []) S = .ok xs.isEmpty S := by
  show ofO (cmpD .Eq (.lst (xs.map intV)) (.lst []) S) S = _
  have : cmpD .Eq (.lst (xs.map intV)) (.lst []) S = some xs.isEmpty := by
    unfold cmpD eqG
    dsimp only
    have h1 : toDS (.lst (xs.map intV)) S = some (.list (xs.map intD)) := by
      show (PV.lst (xs.map intV)).toD = _
      rw [PV.toD, toDs_int]; rfl
    have h2 : toDS (.lst []) S = some (.list []) := rfl
    simp only [scalEq, h1, h2, Option.bind_some]
    rw [shaped_ints, show SeqAt.shaped (.list []) = true from shaped_ints []]
    rw [if_pos (by rfl)]
    cases xs <;> simp [PyData.eqv, PyData.eqvAll]
  rw [this]; rfl
theorem rep_one {α : Type} (x : α) (k : Int) : rep [x] k = List.replicate k.toNat x := by
  unfold rep
  induction k.toNat with
  | zero => rfl
  | succ n ih => rw [List.replicate_succ, List.flatten_cons, ih, List.replicate_succ]; rfl
theorem b_rep {xs : List PV} {k : Int} : binop .Mult (.lst xs) (.int k) S = guardR (decide (xs.length * k.toNat ≤ sizeLine) && decide (-(2 ^ 63) ≤ k) && decide (k < 2 ^ 63)) (.ok (.lst (rep xs k)) S) := rfl
theorem sum_rep (i : Nat) (a : Int) : (List.replicate i a).sum = i * a := by
  induction i with
  | zero => simp
  | succ n ih =>
    rw [List.replicate_succ, List.sum_cons, ih]
    have : ((n + 1 : Nat) : Int) = n + 1 := by omega
    rw [this, Int.add_mul]; omega
/-- widths -/
def wdth (ws : List Int) (i : Nat) : Int := ws.getD i 0
theorem w_get {ws : List Int} {i : Nat} (h : i < ws.length) : getIx (.lst (ws.map .int)) (.int (i : Int)) S = some (.int (wdth ws i)) := by
  rw [g_lst]
  refine atI_nat ?_
  rw [List.getElem?_map, List.getElem?_eq_getElem h]
  unfold wdth
  rw [List.getD_eq_getElem?_getD, List.getElem?_eq_getElem h]; rfl
theorem fill_ok {f fd k : Nat} (hf : G.fns[f]? = some ⟨4, 9, Lib.law_fill fd, 2, false⟩) (hd : G.fns[fd]? = some ⟨2, 4, Lib.law_draw, 1, false⟩) (hk : 2 ≤ k) {q : Int} {ws : List Int} {at_ : Nat} (hq : 2 ≤ q ∧ q ≤ 9) (hw : ∀ w ∈ ws, 1 ≤ w ∧ w ≤ 6) (hwl : ws.length ≤ 5) (hat : at_ < ws.length) {P : PV → Store → Prop} (hl : HasP l S)
    (hP : ∀ (ks : List Nat) S', Pl l S S' → (∀ i ∈ ks, i < ws.length) → (ks.map (wdth ws)).sum = q * wdth ws at_ → ks.length < 100 → P (.lst (ks.map intV)) S') : (callN G k f S.length [.ref l, .int q, .lst (ws.map .int), .int (at_ : Int)] S).sat P := by
  have wb : ∀ i, i < ws.length → 1 ≤ wdth ws i ∧ wdth ws i ≤ 6 := fun i hi => by
    unfold wdth
    rw [List.getD_eq_getElem?_getD, List.getElem?_eq_getElem hi]
    exact hw _ (List.getElem_mem hi)
  refine callF hf (by decide) hk rfl (by decide) ?_
  unfold Lib.law_fill
  simp only [x_cons, x_nil, x_asg, x_asgT, x_asgS, x_asgA, x_aug, x_ex, x_ret, x_retN, x_if, x_for, x_pass, x_brk, x_cnt, x_try, w_var, w_cst, w_glb, w_tup, w_lst, w_dct0, w_neg, w_bin, w_cmp, w_chain, w_and_, w_or_, w_and1_, w_and2_, w_or1_, w_or2_, w_not, w_ife, w_sub, w_sl1, w_sl2, w_sl3, w_attr, w_call, w_callK, w_new, w_meth, w_cmeth, w_bf, w_bm, w_isi, w_fstr, w_comp, w_dcomp, w_nil, w_cons, w_ie, w_rng, w_enum, w_zip, w_tnil, w_tcons, Fl.go_next, Fl.go_ret, Fl.go_brk, Fl.go_cnt, List.map_cons, List.map_nil, List.cons_append, List.nil_append, List.replicate, List.length_cons, List.length_nil, Nat.sub_self, Nat.reduceSub, Nat.reduceAdd, List.getElem?_cons_zero, List.getElem?_cons_succ, List.set_cons_zero, List.set_cons_succ, setAll, wipeP, Option.some.injEq, exists_eq_left', exists_eq_left, Res.sat_ok, Res.sat_guard, finF_ret, finF_next, finT_ret, finT_next, cTest_nil, cTest_nm, cElt_nm, fBody_nm, t_bl, m_lst, m_ref, m_dct, m_dref, b_add, b_sub, b_mul, b_div, b_mod, b_cat, c_eqI, c_neI, c_ltI, c_leI, c_gtI, c_geI, c_eqS, c_neS, f_int, f_lenL, f_lenT, f_lenS, f_lenC, f_tupL, PV.tup.injEq, PV.lst.injEq, decide_eq_true_eq, decide_eq_false_iff_not, Bool.and_eq_true, Bool.not_eq_true', Bool.not_true, Bool.not_false, true_and, and_true]
  refine ⟨_, w_get hat, ?_⟩
  simp only [x_cons, x_nil, x_asg, x_asgT, x_asgS, x_asgA, x_aug, x_ex, x_ret, x_retN, x_if, x_for, x_pass, x_brk, x_cnt, x_try, w_var, w_cst, w_glb, w_tup, w_lst, w_dct0, w_neg, w_bin, w_cmp, w_chain, w_and_, w_or_, w_and1_, w_and2_, w_or1_, w_or2_, w_not, w_ife, w_sub, w_sl1, w_sl2, w_sl3, w_attr, w_call, w_callK, w_new, w_meth, w_cmeth, w_bf, w_bm, w_isi, w_fstr, w_comp, w_dcomp, w_nil, w_cons, w_ie, w_rng, w_enum, w_zip, w_tnil, w_tcons, Fl.go_next, Fl.go_ret, Fl.go_brk, Fl.go_cnt, List.map_cons, List.map_nil, List.cons_append, List.nil_append, List.replicate, List.length_cons, List.length_nil, Nat.sub_self, Nat.reduceSub, Nat.reduceAdd, List.getElem?_cons_zero, List.getElem?_cons_succ, List.set_cons_zero, List.set_cons_succ, setAll, wipeP, Option.some.injEq, exists_eq_left', exists_eq_left, Res.sat_ok, Res.sat_guard, finF_ret, finF_next, finT_ret, finT_next, cTest_nil, cTest_nm, cElt_nm, fBody_nm, t_bl, m_lst, m_ref, m_dct, m_dref, b_add, b_sub, b_mul, b_div, b_mod, b_cat, c_eqI, c_neI, c_ltI, c_leI, c_gtI, c_geI, c_eqS, c_neS, f_int, f_lenL, f_lenT, f_lenS, f_lenC, f_tupL, PV.tup.injEq, PV.lst.injEq, decide_eq_true_eq, decide_eq_false_iff_not, Bool.and_eq_true, Bool.not_eq_true', Bool.not_true, Bool.not_false, true_and, and_true]
  refine ⟨mulOk_r (by have := wb at_ hat; omega), by rw [sizeLine_eq]; omega, by rw [sizeLine_eq]; omega, _, r_rng (by decide) (by decide), ?_⟩
  have hlen : (rangeL 0 (54 : Int)).length = 54 := by rw [show (54 : Int) = ((54 : Nat) : Int) from rfl, rangeL_nat]; simp
  generalize rangeL 0 (54 : Int) = R at hlen ⊢
  -- what stands behind the loop
  have after : ∀ ps S', (∃ (S0 : Store) (ks : List Nat) (left : Int) (v6 v7 v8 : Option PV), S' = S0 ++ [.lst (ks.map intV)] ∧ Pl l S S0 ∧ (∀ i ∈ ks, i < ws.length) ∧ ks.length ≤ 54 ∧ 0 ≤ left ∧ (ks.map (wdth ws)).sum + left = q * wdth ws at_ ∧ ps = [some (.ref l), some (.int q), some (.lst (ws.map .int)), some (.int (at_ : Int)), some (.int left), some (.ref S.length), v6, v7, v8]) →
      (execs G (callN G (2 - 1)) S.length (.cons (.ret (.ife (.cmp .Eq (.var 4) (.cst (.int 0))) (.var 5) (.bin .Mult (.lst true (.cons (.var 3) .nil)) (.var 1)))) .nil) ps S').sat fun fl _ S' => finF S.length P fl S' := by
    rintro ps S' ⟨S0, ks, left, v6, v7, v8, rfl, p, hks, hkl, h0, hsum, rfl⟩
    simp only [x_cons, x_nil, x_asg, x_asgT, x_asgS, x_asgA, x_aug, x_ex, x_ret, x_retN, x_if, x_for, x_pass, x_brk, x_cnt, x_try, w_var, w_cst, w_glb, w_tup, w_lst, w_dct0, w_neg, w_bin, w_cmp, w_chain, w_and_, w_or_, w_and1_, w_and2_, w_or1_, w_or2_, w_not, w_ife, w_sub, w_sl1, w_sl2, w_sl3, w_attr, w_call, w_callK, w_new, w_meth, w_cmeth, w_bf, w_bm, w_isi, w_fstr, w_comp, w_dcomp, w_nil, w_cons, w_ie, w_rng, w_enum, w_zip, w_tnil, w_tcons, Fl.go_next, Fl.go_ret, Fl.go_brk, Fl.go_cnt, List.map_cons, List.map_nil, List.cons_append, List.nil_append, List.replicate, List.length_cons, List.length_nil, Nat.sub_self, Nat.reduceSub, Nat.reduceAdd, List.getElem?_cons_zero, List.getElem?_cons_succ, List.set_cons_zero, List.set_cons_succ, setAll, wipeP, Option.some.injEq, exists_eq_left', exists_eq_left, Res.sat_ok, Res.sat_guard, finF_ret, finF_next, finT_ret, finT_next, cTest_nil, cTest_nm, cElt_nm, fBody_nm, t_bl, m_lst, m_ref, m_dct, m_dref, b_add, b_sub, b_mul, b_div, b_mod, b_cat, c_eqI, c_neI, c_ltI, c_leI, c_gtI, c_geI, c_eqS, c_neS, f_int, f_lenL, f_lenT, f_lenS, f_lenC, f_tupL, PV.tup.injEq, PV.lst.injEq, decide_eq_true_eq, decide_eq_false_iff_not, Bool.and_eq_true, Bool.not_eq_true', Bool.not_true, Bool.not_false, true_and, and_true]
    have tk : (S0 ++ [PO.lst (ks.map intV)]).take S.length = S0 := by
      rw [List.take_append_of_le_length (by rw [p.len]; exact Nat.le_refl _), List.take_of_length_le (by rw [p.len]; exact Nat.le_refl _)]
    refine ⟨fun h => ?_, fun h => ⟨by rw [sizeLine_eq]; omega, ?_⟩⟩
    · refine ⟨_, fz_list (xs := ks.map intV) (by rw [List.getElem?_append_right (by rw [p.len]; exact Nat.le_refl _), p.len]; simp) (Nat.le_refl _) (rfs_int ks), ?_⟩
      rw [tk]
      exact hP ks S0 p hks (by omega) (by omega)
    · rw [b_rep, rep_one]
      simp only [x_cons, x_nil, x_asg, x_asgT, x_asgS, x_asgA, x_aug, x_ex, x_ret, x_retN, x_if, x_for, x_pass, x_brk, x_cnt, x_try, w_var, w_cst, w_glb, w_tup, w_lst, w_dct0, w_neg, w_bin, w_cmp, w_chain, w_and_, w_or_, w_and1_, w_and2_, w_or1_, w_or2_, w_not, w_ife, w_sub, w_sl1, w_sl2, w_sl3, w_attr, w_call, w_callK, w_new, w_meth, w_cmeth, w_bf, w_bm, w_isi, w_fstr, w_comp, w_dcomp, w_nil, w_cons, w_ie, w_rng, w_enum, w_zip, w_tnil, w_tcons, Fl.go_next, Fl.go_ret, Fl.go_brk, Fl.go_cnt, List.map_cons, List.map_nil, List.cons_append, List.nil_append, List.replicate, List.length_cons, List.length_nil, Nat.sub_self, Nat.reduceSub, Nat.reduceAdd, List.getElem?_cons_zero, List.getElem?_cons_succ, List.set_cons_zero, List.set_cons_succ, setAll, wipeP, Option.some.injEq, exists_eq_left', exists_eq_left, Res.sat_ok, Res.sat_guard, finF_ret, finF_next, finT_ret, finT_next, cTest_nil, cTest_nm, cElt_nm, fBody_nm, t_bl, m_lst, m_ref, m_dct, m_dref, b_add, b_sub, b_mul, b_div, b_mod, b_cat, c_eqI, c_neI, c_ltI, c_leI, c_gtI, c_geI, c_eqS, c_neS, f_int, f_lenL, f_lenT, f_lenS, f_lenC, f_tupL, PV.tup.injEq, PV.lst.injEq, decide_eq_true_eq, decide_eq_false_iff_not, Bool.and_eq_true, Bool.not_eq_true', Bool.not_true, Bool.not_false, true_and, and_true]
      refine ⟨⟨⟨by rw [sizeLine_eq]; omega, by omega⟩, by omega⟩, ?_⟩
      have e : List.replicate q.toNat (PV.int (at_ : Int)) = (List.replicate q.toNat at_).map intV := by rw [List.map_replicate]; rfl
      rw [e]
      refine ⟨_, fz_rf (by show PV.rfs _ = true; exact rfs_int _), ?_⟩
      rw [tk]
      refine hP _ S0 p (fun i hi => by rw [(List.mem_replicate.mp hi).2]; exact hat) ?_ (by rw [List.length_replicate]; omega)
      rw [List.map_replicate, sum_rep, Int.toNat_of_nonneg (by omega)]
  refine for_inv (k := 0) (fun j ps S' => ∃ (S0 : Store) (ks : List Nat) (left : Int) (v6 v7 v8 : Option PV), S' = S0 ++ [.lst (ks.map intV)] ∧ Pl l S S0 ∧ (∀ i ∈ ks, i < ws.length) ∧ ks.length = j ∧ 0 ≤ left ∧ (ks.map (wdth ws)).sum + left = q * wdth ws at_ ∧ ps = [some (.ref l), some (.int q), some (.lst (ws.map .int)), some (.int (at_ : Int)), some (.int left), some (.ref S.length), v6, v7, v8])
    ?_ (fun _ _ _ _ => stay_nil _) (fun j x ps S' ex h => ?_) fun ps S' h => ?_
  · exact ⟨S, [], _, none, none, none, rfl, Pl.refl hl, (fun _ h => by cases h), rfl, by
      have := wb at_ hat
      exact Int.mul_nonneg (by omega) (by omega), by simp, rfl⟩
  · obtain ⟨S0, ks, left, v6, v7, v8, rfl, p, hks, hkl, h0, hsum, rfl⟩ := h
    have hj := (List.getElem?_eq_some_iff.mp ex).1
    rw [hlen] at hj
    simp only [x_cons, x_nil, x_asg, x_asgT, x_asgS, x_asgA, x_aug, x_ex, x_ret, x_retN, x_if, x_for, x_pass, x_brk, x_cnt, x_try, w_var, w_cst, w_glb, w_tup, w_lst, w_dct0, w_neg, w_bin, w_cmp, w_chain, w_and_, w_or_, w_and1_, w_and2_, w_or1_, w_or2_, w_not, w_ife, w_sub, w_sl1, w_sl2, w_sl3, w_attr, w_call, w_callK, w_new, w_meth, w_cmeth, w_bf, w_bm, w_isi, w_fstr, w_comp, w_dcomp, w_nil, w_cons, w_ie, w_rng, w_enum, w_zip, w_tnil, w_tcons, Fl.go_next, Fl.go_ret, Fl.go_brk, Fl.go_cnt, List.map_cons, List.map_nil, List.cons_append, List.nil_append, List.replicate, List.length_cons, List.length_nil, Nat.sub_self, Nat.reduceSub, Nat.reduceAdd, List.getElem?_cons_zero, List.getElem?_cons_succ, List.set_cons_zero, List.set_cons_succ, setAll, wipeP, Option.some.injEq, exists_eq_left', exists_eq_left, Res.sat_ok, Res.sat_guard, finF_ret, finF_next, finT_ret, finT_next, cTest_nil, cTest_nm, cElt_nm, fBody_nm, t_bl, m_lst, m_ref, m_dct, m_dref, b_add, b_sub, b_mul, b_div, b_mod, b_cat, c_eqI, c_neI, c_ltI, c_leI, c_gtI, c_geI, c_eqS, c_neS, f_int, f_lenL, f_lenT, f_lenS, f_lenC, f_tupL, PV.tup.injEq, PV.lst.injEq, decide_eq_true_eq, decide_eq_false_iff_not, Bool.and_eq_true, Bool.not_eq_true', Bool.not_true, Bool.not_false, true_and, and_true]
    refine ⟨_, r_rng (by rw [List.length_map]; omega) (by rw [List.length_map]; omega), ?_⟩
    rw [List.length_map]
    refine comp_rangeF intV (fun i => decide (wdth ws i ≤ left)) (by omega) (fun i hi => ?_) (fun i hi => ?_) ?_
    · simp only [x_cons, x_nil, x_asg, x_asgT, x_asgS, x_asgA, x_aug, x_ex, x_ret, x_retN, x_if, x_for, x_pass, x_brk, x_cnt, x_try, w_var, w_cst, w_glb, w_tup, w_lst, w_dct0, w_neg, w_bin, w_cmp, w_chain, w_and_, w_or_, w_and1_, w_and2_, w_or1_, w_or2_, w_not, w_ife, w_sub, w_sl1, w_sl2, w_sl3, w_attr, w_call, w_callK, w_new, w_meth, w_cmeth, w_bf, w_bm, w_isi, w_fstr, w_comp, w_dcomp, w_nil, w_cons, w_ie, w_rng, w_enum, w_zip, w_tnil, w_tcons, Fl.go_next, Fl.go_ret, Fl.go_brk, Fl.go_cnt, List.map_cons, List.map_nil, List.cons_append, List.nil_append, List.replicate, List.length_cons, List.length_nil, Nat.sub_self, Nat.reduceSub, Nat.reduceAdd, List.getElem?_cons_zero, List.getElem?_cons_succ, List.set_cons_zero, List.set_cons_succ, setAll, wipeP, Option.some.injEq, exists_eq_left', exists_eq_left, Res.sat_ok, Res.sat_guard, finF_ret, finF_next, finT_ret, finT_next, cTest_nil, cTest_nm, cElt_nm, fBody_nm, t_bl, m_lst, m_ref, m_dct, m_dref, b_add, b_sub, b_mul, b_div, b_mod, b_cat, c_eqI, c_neI, c_ltI, c_leI, c_gtI, c_geI, c_eqS, c_neS, f_int, f_lenL, f_lenT, f_lenS, f_lenC, f_tupL, PV.tup.injEq, PV.lst.injEq, decide_eq_true_eq, decide_eq_false_iff_not, Bool.and_eq_true, Bool.not_eq_true', Bool.not_true, Bool.not_false, true_and, and_true]
      refine ⟨_, w_get (S := S0 ++ [PO.lst (ks.map intV)]) hi, ?_⟩
      simp only [x_cons, x_nil, x_asg, x_asgT, x_asgS, x_asgA, x_aug, x_ex, x_ret, x_retN, x_if, x_for, x_pass, x_brk, x_cnt, x_try, w_var, w_cst, w_glb, w_tup, w_lst, w_dct0, w_neg, w_bin, w_cmp, w_chain, w_and_, w_or_, w_and1_, w_and2_, w_or1_, w_or2_, w_not, w_ife, w_sub, w_sl1, w_sl2, w_sl3, w_attr, w_call, w_callK, w_new, w_meth, w_cmeth, w_bf, w_bm, w_isi, w_fstr, w_comp, w_dcomp, w_nil, w_cons, w_ie, w_rng, w_enum, w_zip, w_tnil, w_tcons, Fl.go_next, Fl.go_ret, Fl.go_brk, Fl.go_cnt, List.map_cons, List.map_nil, List.cons_append, List.nil_append, List.replicate, List.length_cons, List.length_nil, Nat.sub_self, Nat.reduceSub, Nat.reduceAdd, List.getElem?_cons_zero, List.getElem?_cons_succ, List.set_cons_zero, List.set_cons_succ, setAll, wipeP, Option.some.injEq, exists_eq_left', exists_eq_left, Res.sat_ok, Res.sat_guard, finF_ret, finF_next, finT_ret, finT_next, cTest_nil, cTest_nm, cElt_nm, fBody_nm, t_bl, m_lst, m_ref, m_dct, m_dref, b_add, b_sub, b_mul, b_div, b_mod, b_cat, c_eqI, c_neI, c_ltI, c_leI, c_gtI, c_geI, c_eqS, c_neS, f_int, f_lenL, f_lenT, f_lenS, f_lenC, f_tupL, PV.tup.injEq, PV.lst.injEq, decide_eq_true_eq, decide_eq_false_iff_not, Bool.and_eq_true, Bool.not_eq_true', Bool.not_true, Bool.not_false, true_and, and_true]
    · simp only [x_cons, x_nil, x_asg, x_asgT, x_asgS, x_asgA, x_aug, x_ex, x_ret, x_retN, x_if, x_for, x_pass, x_brk, x_cnt, x_try, w_var, w_cst, w_glb, w_tup, w_lst, w_dct0, w_neg, w_bin, w_cmp, w_chain, w_and_, w_or_, w_and1_, w_and2_, w_or1_, w_or2_, w_not, w_ife, w_sub, w_sl1, w_sl2, w_sl3, w_attr, w_call, w_callK, w_new, w_meth, w_cmeth, w_bf, w_bm, w_isi, w_fstr, w_comp, w_dcomp, w_nil, w_cons, w_ie, w_rng, w_enum, w_zip, w_tnil, w_tcons, Fl.go_next, Fl.go_ret, Fl.go_brk, Fl.go_cnt, List.map_cons, List.map_nil, List.cons_append, List.nil_append, List.replicate, List.length_cons, List.length_nil, Nat.sub_self, Nat.reduceSub, Nat.reduceAdd, List.getElem?_cons_zero, List.getElem?_cons_succ, List.set_cons_zero, List.set_cons_succ, setAll, wipeP, Option.some.injEq, exists_eq_left', exists_eq_left, Res.sat_ok, Res.sat_guard, finF_ret, finF_next, finT_ret, finT_next, cTest_nil, cTest_nm, cElt_nm, fBody_nm, t_bl, m_lst, m_ref, m_dct, m_dref, b_add, b_sub, b_mul, b_div, b_mod, b_cat, c_eqI, c_neI, c_ltI, c_leI, c_gtI, c_geI, c_eqS, c_neS, f_int, f_lenL, f_lenT, f_lenS, f_lenC, f_tupL, PV.tup.injEq, PV.lst.injEq, decide_eq_true_eq, decide_eq_false_iff_not, Bool.and_eq_true, Bool.not_eq_true', Bool.not_true, Bool.not_false, true_and, and_true]
      rfl
    have able : ∀ i ∈ (List.range ws.length).filter (fun i => decide (wdth ws i ≤ left)), i < ws.length ∧ wdth ws i ≤ left := fun i hi => by
      rw [List.mem_filter, List.mem_range, decide_eq_true_eq] at hi
      exact hi
    have ablen : ((List.range ws.length).filter (fun i => decide (wdth ws i ≤ left))).length ≤ 5 := by
      have := List.length_filter_le (fun i => decide (wdth ws i ≤ left)) (List.range ws.length)
      rw [List.length_range] at this; omega
    generalize (List.range ws.length).filter (fun i => decide (wdth ws i ≤ left)) = ab at able ablen ⊢
    refine ⟨by rw [sizeLine_eq]; omega, ?_⟩
    rw [c_eqNil]
    simp only [x_cons, x_nil, x_asg, x_asgT, x_asgS, x_asgA, x_aug, x_ex, x_ret, x_retN, x_if, x_for, x_pass, x_brk, x_cnt, x_try, w_var, w_cst, w_glb, w_tup, w_lst, w_dct0, w_neg, w_bin, w_cmp, w_chain, w_and_, w_or_, w_and1_, w_and2_, w_or1_, w_or2_, w_not, w_ife, w_sub, w_sl1, w_sl2, w_sl3, w_attr, w_call, w_callK, w_new, w_meth, w_cmeth, w_bf, w_bm, w_isi, w_fstr, w_comp, w_dcomp, w_nil, w_cons, w_ie, w_rng, w_enum, w_zip, w_tnil, w_tcons, Fl.go_next, Fl.go_ret, Fl.go_brk, Fl.go_cnt, List.map_cons, List.map_nil, List.cons_append, List.nil_append, List.replicate, List.length_cons, List.length_nil, Nat.sub_self, Nat.reduceSub, Nat.reduceAdd, List.getElem?_cons_zero, List.getElem?_cons_succ, List.set_cons_zero, List.set_cons_succ, setAll, wipeP, Option.some.injEq, exists_eq_left', exists_eq_left, Res.sat_ok, Res.sat_guard, finF_ret, finF_next, finT_ret, finT_next, cTest_nil, cTest_nm, cElt_nm, fBody_nm, t_bl, m_lst, m_ref, m_dct, m_dref, b_add, b_sub, b_mul, b_div, b_mod, b_cat, c_eqI, c_neI, c_ltI, c_leI, c_gtI, c_geI, c_eqS, c_neS, f_int, f_lenL, f_lenT, f_lenS, f_lenC, f_tupL, PV.tup.injEq, PV.lst.injEq, decide_eq_true_eq, decide_eq_false_iff_not, Bool.and_eq_true, Bool.not_eq_true', Bool.not_true, Bool.not_false, true_and, and_true]
    refine ⟨fun he => ?_, fun he => ?_⟩
    · have q := after _ _ ⟨S0, ks, left, some x, some (.lst (ab.map intV)), v8, rfl, p, hks, by omega, h0, hsum, rfl⟩
      simp only [x_cons, x_nil, x_asg, x_asgT, x_asgS, x_asgA, x_aug, x_ex, x_ret, x_retN, x_if, x_for, x_pass, x_brk, x_cnt, x_try, w_var, w_cst, w_glb, w_tup, w_lst, w_dct0, w_neg, w_bin, w_cmp, w_chain, w_and_, w_or_, w_and1_, w_and2_, w_or1_, w_or2_, w_not, w_ife, w_sub, w_sl1, w_sl2, w_sl3, w_attr, w_call, w_callK, w_new, w_meth, w_cmeth, w_bf, w_bm, w_isi, w_fstr, w_comp, w_dcomp, w_nil, w_cons, w_ie, w_rng, w_enum, w_zip, w_tnil, w_tcons, Fl.go_next, Fl.go_ret, Fl.go_brk, Fl.go_cnt, List.map_cons, List.map_nil, List.cons_append, List.nil_append, List.replicate, List.length_cons, List.length_nil, Nat.sub_self, Nat.reduceSub, Nat.reduceAdd, List.getElem?_cons_zero, List.getElem?_cons_succ, List.set_cons_zero, List.set_cons_succ, setAll, wipeP, Option.some.injEq, exists_eq_left', exists_eq_left, Res.sat_ok, Res.sat_guard, finF_ret, finF_next, finT_ret, finT_next, cTest_nil, cTest_nm, cElt_nm, fBody_nm, t_bl, m_lst, m_ref, m_dct, m_dref, b_add, b_sub, b_mul, b_div, b_mod, b_cat, c_eqI, c_neI, c_ltI, c_leI, c_gtI, c_geI, c_eqS, c_neS, f_int, f_lenL, f_lenT, f_lenS, f_lenC, f_tupL, PV.tup.injEq, PV.lst.injEq, decide_eq_true_eq, decide_eq_false_iff_not, Bool.and_eq_true, Bool.not_eq_true', Bool.not_true, Bool.not_false, true_and, and_true] at q ⊢
      exact q
    · have hpos : 0 < ab.length := by
        cases ab with
        | nil => cases he
        | cons _ _ => simp
      rw [List.length_map]
      refine draw hd (by decide) ((p.has hl).app _) (by omega) (by omega) fun r S1 p1 r0 r1 => ?_
      obtain ⟨T1, rfl, t1⟩ := Pl.app (p.has hl) p1
      clear p1
      have hr : r.toNat < ab.length := by omega
      have hb := able _ (List.getElem_mem hr)
      have lenT : T1.length = S.length := by rw [t1.len, p.len]
      have here : ∀ o : PO, (T1 ++ [o])[S.length]? = some o := fun o => by
        rw [List.getElem?_append_right (by omega)]
        simp [lenT]
      refine ⟨intV ab[r.toNat], by rw [g_lst]; exact atI_of r0 (by rw [List.getElem?_map, List.getElem?_eq_getElem hr]; rfl), bt_append (here _), bm_append (here _) rfl (by rw [List.length_map, sizeLine_eq]; omega) ?_⟩
      refine ⟨_, w_get hb.1, ?_⟩
      simp only [x_cons, x_nil, x_asg, x_asgT, x_asgS, x_asgA, x_aug, x_ex, x_ret, x_retN, x_if, x_for, x_pass, x_brk, x_cnt, x_try, w_var, w_cst, w_glb, w_tup, w_lst, w_dct0, w_neg, w_bin, w_cmp, w_chain, w_and_, w_or_, w_and1_, w_and2_, w_or1_, w_or2_, w_not, w_ife, w_sub, w_sl1, w_sl2, w_sl3, w_attr, w_call, w_callK, w_new, w_meth, w_cmeth, w_bf, w_bm, w_isi, w_fstr, w_comp, w_dcomp, w_nil, w_cons, w_ie, w_rng, w_enum, w_zip, w_tnil, w_tcons, Fl.go_next, Fl.go_ret, Fl.go_brk, Fl.go_cnt, List.map_cons, List.map_nil, List.cons_append, List.nil_append, List.replicate, List.length_cons, List.length_nil, Nat.sub_self, Nat.reduceSub, Nat.reduceAdd, List.getElem?_cons_zero, List.getElem?_cons_succ, List.set_cons_zero, List.set_cons_succ, setAll, wipeP, Option.some.injEq, exists_eq_left', exists_eq_left, Res.sat_ok, Res.sat_guard, finF_ret, finF_next, finT_ret, finT_next, cTest_nil, cTest_nm, cElt_nm, fBody_nm, t_bl, m_lst, m_ref, m_dct, m_dref, b_add, b_sub, b_mul, b_div, b_mod, b_cat, c_eqI, c_neI, c_ltI, c_leI, c_gtI, c_geI, c_eqS, c_neS, f_int, f_lenL, f_lenT, f_lenS, f_lenC, f_tupL, PV.tup.injEq, PV.lst.injEq, decide_eq_true_eq, decide_eq_false_iff_not, Bool.and_eq_true, Bool.not_eq_true', Bool.not_true, Bool.not_false, true_and, and_true]
      refine ⟨T1, ks ++ [ab[r.toNat]], _, _, _, _, ?_, p.trans t1, ?_, ?_, ?_, ?_, rfl⟩
      · rw [List.set_append_right _ _ (by omega), lenT, Nat.sub_self, List.map_append]
        rfl
      · intro i hi
        rcases List.mem_append.mp hi with hi | hi
        · exact hks i hi
        · rw [List.mem_singleton] at hi; rw [hi]; exact hb.1
      · rw [List.length_append, hkl]; rfl
      · omega
      · rw [List.map_append, List.sum_append, List.map_cons, List.map_nil, List.sum_cons, List.sum_nil]
        omega
  · obtain ⟨S0, ks, left, v6, v7, v8, rfl, p, hks, hkl, h0, hsum, rfl⟩ := h
    rw [hlen] at hkl
    have q := after _ _ ⟨S0, ks, left, v6, v7, v8, rfl, p, hks, by omega, h0, hsum, rfl⟩
    simp only [x_cons, x_nil, x_asg, x_asgT, x_asgS, x_asgA, x_aug, x_ex, x_ret, x_retN, x_if, x_for, x_pass, x_brk, x_cnt, x_try, w_var, w_cst, w_glb, w_tup, w_lst, w_dct0, w_neg, w_bin, w_cmp, w_chain, w_and_, w_or_, w_and1_, w_and2_, w_or1_, w_or2_, w_not, w_ife, w_sub, w_sl1, w_sl2, w_sl3, w_attr, w_call, w_callK, w_new, w_meth, w_cmeth, w_bf, w_bm, w_isi, w_fstr, w_comp, w_dcomp, w_nil, w_cons, w_ie, w_rng, w_enum, w_zip, w_tnil, w_tcons, Fl.go_next, Fl.go_ret, Fl.go_brk, Fl.go_cnt, List.map_cons, List.map_nil, List.cons_append, List.nil_append, List.replicate, List.length_cons, List.length_nil, Nat.sub_self, Nat.reduceSub, Nat.reduceAdd, List.getElem?_cons_zero, List.getElem?_cons_succ, List.set_cons_zero, List.set_cons_succ, setAll, wipeP, Option.some.injEq, exists_eq_left', exists_eq_left, Res.sat_ok, Res.sat_guard, finF_ret, finF_next, finT_ret, finT_next, cTest_nil, cTest_nm, cElt_nm, fBody_nm, t_bl, m_lst, m_ref, m_dct, m_dref, b_add, b_sub, b_mul, b_div, b_mod, b_cat, c_eqI, c_neI, c_ltI, c_leI, c_gtI, c_geI, c_eqS, c_neS, f_int, f_lenL, f_lenT, f_lenS, f_lenC, f_tupL, PV.tup.injEq, PV.lst.injEq, decide_eq_true_eq, decide_eq_false_iff_not, Bool.and_eq_true, Bool.not_eq_true', Bool.not_true, Bool.not_false, true_and, and_true] at q ⊢
    exact q
end
end PyI
set_option Elab.async false
set_option linter.all false
set_option maxRecDepth 100000
set_option maxHeartbeats 4000000
/-! LawF: kinds -/
namespace PyI
open PySem PySem.Spec PyProof.Rows
structure Srt where
  nm : List Nat
  w : Int
  row : List (List Nat)
def Srt.v (s : Srt) : PV := .tup [nmV s.nm, .int s.w, .tup (s.row.map nmV)]
/-- the kinds of a ruler with this factor, W: the widths -/
structure GoodR (q : Int) (W : List Nat → Int) (L : List Srt) : Prop where
  q2 : 2 ≤ q
  q9 : q ≤ 9
  ne : 0 < L.length
  few : L.length ≤ 5
  nd : (L.map (·.nm)).Nodup
  nm : ∀ s ∈ L, nmOk s.nm
  w : ∀ s ∈ L, W s.nm = s.w ∧ 1 ≤ s.w ∧ s.w ≤ 6
  row : ∀ s ∈ L, (∀ x ∈ s.row, x ∈ L.map (·.nm)) ∧ (s.row.map W).sum = q * s.w ∧ s.row.length < 100
section
variable {G : Tab} {S : Store} {l : Nat} {c : Nat → Nat → List PV → Store → Res PV} {n : Nat}
theorem comp_eff {α : Type} {own : List Nat} {v : Nat} {e : IE} {ps : Ev} {m : Nat} {P : List PV → Store → Prop} (V : α → PV) (Q : Nat → α → Prop) (hm : m ≤ 1000) (hl : HasP l S)
    (he : ∀ i, i < m → ∀ (S1 : Store) (R : PV → Store → Prop), HasP l S1 → S1.length = S.length → (∀ a S2, Pl l S1 S2 → Q i a → R (V a) S2) → (eval G c n e ((wipeP ps own).set v (some (.int (i : Int)))) S1).sat R)
    (hP : ∀ (as : List α) S', as.length = m → (∀ (i : Nat) a, as[i]? = some a → Q i a) → Pl l S S' → P (as.map V) S') :
    (compLoop (stay []) (cTest G c n own (.nm v) .nil ps) (cElt G c n own (.nm v) e ps) (rangeL 0 (m : Int)) [] S).sat P := by
  rw [rangeL_nat]
  have hlen : ((List.range m).map fun (i : Nat) => PV.int (i : Int)).length = m := by simp
  refine comp_inv (k := 0) (fun j acc S' => Pl l S S' ∧ ∃ as : List α, as.length = j ∧ (∀ (i : Nat) a, as[i]? = some a → Q i a) ∧ acc = as.map V) ⟨Pl.refl hl, [], rfl, (fun _ _ h => by simp at h), rfl⟩ (fun _ _ _ _ => stay_nil _) (fun j x acc S' ex h => ?_) fun acc S' h => ?_
  · obtain ⟨p, as, h1, h2, h3⟩ := h
    rw [List.getElem?_map, Option.map_eq_some_iff] at ex
    obtain ⟨i, e1, rfl⟩ := ex
    have hj : j < m := by
      have := (List.getElem?_eq_some_iff.mp e1).1
      simpa using this
    rw [List.getElem?_range hj] at e1
    obtain rfl : j = i := Option.some.inj e1
    simp only [x_cons, x_nil, x_asg, x_asgT, x_asgS, x_asgA, x_aug, x_ex, x_ret, x_retN, x_if, x_for, x_pass, x_brk, x_cnt, x_try, w_var, w_cst, w_glb, w_tup, w_lst, w_dct0, w_neg, w_bin, w_cmp, w_chain, w_and_, w_or_, w_and1_, w_and2_, w_or1_, w_or2_, w_not, w_ife, w_sub, w_sl1, w_sl2, w_sl3, w_attr, w_call, w_callK, w_new, w_meth, w_cmeth, w_bf, w_bm, w_isi, w_fstr, w_comp, w_dcomp, w_nil, w_cons, w_ie, w_rng, w_enum, w_zip, w_tnil, w_tcons, Fl.go_next, Fl.go_ret, Fl.go_brk, Fl.go_cnt, List.map_cons, List.map_nil, List.cons_append, List.nil_append, List.replicate, List.length_cons, List.length_nil, Nat.sub_self, Nat.reduceSub, Nat.reduceAdd, List.getElem?_cons_zero, List.getElem?_cons_succ, List.set_cons_zero, List.set_cons_succ, setAll, wipeP, Option.some.injEq, exists_eq_left', exists_eq_left, Res.sat_ok, Res.sat_guard, finF_ret, finF_next, finT_ret, finT_next, cTest_nil, cTest_nm, cElt_nm, fBody_nm, t_bl, m_lst, m_ref, m_dct, m_dref, b_add, b_sub, b_mul, b_div, b_mod, b_cat, c_eqI, c_neI, c_ltI, c_leI, c_gtI, c_geI, c_eqS, c_neS, f_int, f_lenL, f_lenT, f_lenS, f_lenC, f_tupL, PV.tup.injEq, PV.lst.injEq, decide_eq_true_eq, decide_eq_false_iff_not, Bool.and_eq_true, Bool.not_eq_true', Bool.not_true, Bool.not_false, true_and, and_true]
    refine ⟨fun _ => he j hj _ _ (p.has hl) p.len fun a S2 p2 qa => ⟨?_, p.trans p2, as ++ [a], ?_, ?_, ?_⟩, fun h => by cases h⟩
    · rw [h3, List.length_map, h1, sizeLine_eq]; omega
    · rw [List.length_append, h1]; rfl
    · intro i b hb
      by_cases hi : i < as.length
      · rw [List.getElem?_append_left hi] at hb
        exact h2 i b hb
      · rw [List.getElem?_append_right (by omega)] at hb
        have : i - as.length = 0 := by
          have := (List.getElem?_eq_some_iff.mp hb).1
          simp at this; omega
        rw [this] at hb
        have hb' : a = b := by simpa using hb
        subst hb'
        have : i = j := by omega
        rw [this]; exact qa
    · rw [h3, List.map_append]; rfl
  · obtain ⟨p, as, h1, h2, h3⟩ := h
    rw [hlen, Nat.zero_add] at h1
    rw [h3]
    exact hP as S' h1 h2 p
theorem idx_of {α : Type} [BEq α] [LawfulBEq α] : ∀ {l : List α} {i : Nat} (h : i < l.length), l.Nodup → l.idxOf l[i] = i
  | x :: t, 0, _, _ => by simp
  | x :: t, i + 1, h, nd => by
    rw [List.nodup_cons] at nd
    have hi : i < t.length := by simpa using h
    have hne : x ≠ t[i] := fun e => nd.1 (e ▸ List.getElem_mem hi)
    have hb : (x == t[i]) = false := by rw [beq_eq_false_iff_ne]; exact hne
    rw [List.getElem_cons_succ, List.idxOf_cons, hb]
    show t.idxOf t[i] + 1 = i + 1
    rw [idx_of hi nd.2]
def mkS (xs : List (List Nat)) (ws : List Int) (kss : List (List Nat)) (k : Nat) : Srt := ⟨xs.getD k [], wdth ws k, (kss.getD k []).map fun j => xs.getD j []⟩
theorem good_mk {q : Int} {xs : List (List Nat)} {ws : List Int} {kss : List (List Nat)} {m : Nat} (q2 : 2 ≤ q) (q9 : q ≤ 9) (m0 : 0 < m) (m5 : m ≤ 5) (nx : Names m xs) (lw : ws.length = m) (hw : ∀ w ∈ ws, 1 ≤ w ∧ w ≤ 6) (lk : kss.length = m)
    (hk : ∀ (i : Nat) ks, kss[i]? = some ks → (∀ j ∈ ks, j < ws.length) ∧ (ks.map (wdth ws)).sum = q * wdth ws i ∧ ks.length < 100) : GoodR q (fun x => wdth ws (xs.idxOf x)) ((List.range m).map (mkS xs ws kss)) := by
  have xg : ∀ i, (h : i < xs.length) → xs.getD i [] = xs[i] := fun i h => by rw [List.getD_eq_getElem?_getD, List.getElem?_eq_getElem h]; rfl
  have nms : ((List.range m).map (mkS xs ws kss)).map (·.nm) = xs := by
    rw [List.map_map]
    refine List.ext_getElem (by simp [nx.1]) fun i h1 h2 => ?_
    simp only [List.getElem_map, List.getElem_range, Function.comp]
    show xs.getD i [] = _
    exact xg i h2
  have wi : ∀ i, i < m → wdth ws (xs.idxOf (xs.getD i [])) = wdth ws i := fun i hi => by
    have h' : i < xs.length := by rw [nx.1]; exact hi
    rw [xg i h', idx_of h' nx.2.1]
  refine ⟨q2, q9, by simpa using m0, by simpa using m5, by rw [nms]; exact nx.2.1, fun s hs => ?_, fun s hs => ?_, fun s hs => ?_⟩
  · obtain ⟨i, hi, rfl⟩ := List.mem_map.mp hs
    rw [List.mem_range] at hi
    show nmOk (xs.getD i [])
    rw [xg i (by rw [nx.1]; exact hi)]
    exact nx.2.2 _ (List.getElem_mem _)
  · obtain ⟨i, hi, rfl⟩ := List.mem_map.mp hs
    rw [List.mem_range] at hi
    refine ⟨wi i hi, ?_⟩
    show 1 ≤ wdth ws i ∧ wdth ws i ≤ 6
    unfold wdth
    rw [List.getD_eq_getElem?_getD, List.getElem?_eq_getElem (by rw [lw]; exact hi)]
    exact hw _ (List.getElem_mem _)
  · obtain ⟨i, hi, rfl⟩ := List.mem_map.mp hs
    rw [List.mem_range] at hi
    have hki : kss[i]? = some kss[i] := List.getElem?_eq_getElem (by rw [lk]; exact hi)
    have kg : kss.getD i [] = kss[i] := by rw [List.getD_eq_getElem?_getD, hki]; rfl
    obtain ⟨h1, h2, h3⟩ := hk i _ hki
    rw [nms]
    refine ⟨fun x hx => ?_, ?_, ?_⟩
    · have hx' : x ∈ (kss.getD i []).map fun j => xs.getD j [] := hx
      obtain ⟨j, hj, rfl⟩ := List.mem_map.mp hx'
      rw [kg] at hj
      rw [xg j (by rw [nx.1, ← lw]; exact h1 j hj)]
      exact List.getElem_mem _
    · show (((kss.getD i []).map fun j => xs.getD j []).map _).sum = q * wdth ws i
      rw [kg, List.map_map, ← h2]
      congr 1
      refine List.map_congr_left fun j hj => ?_
      exact wi j (by rw [← lw]; exact h1 j hj)
    · show ((kss.getD i []).map _).length < 100
      rw [kg, List.length_map]; exact h3
theorem rfs_srt (L : List Srt) : PV.rfs (L.map Srt.v) = true := by
  rw [PV.rfs_eq, List.all_map, List.all_eq_true]
  intro s _
  show PV.rfs [nmV s.nm, .int s.w, .tup (s.row.map nmV)] = true
  simp only [PV.rfs, Bool.and_eq_true]
  refine ⟨rfl, rfl, ?_, trivial⟩
  simp only [PV.rf]
  exact rfs_nm s.row
theorem f_tupR {fr : Bool} {m : Nat} {xs : List PV} (h : S[m]? = some (.lst xs)) : bfunR G c .tuple fr [.ref m] S = .ok (.tup xs) S := by
  cases fr <;> (show (ofO ((itemsOf (.ref m) S).map PV.tup) S).bind _ = _; unfold itemsOf; simp only [h]; rfl)
theorem sorts_ok {f fd ff fl fn k : Nat} (hf : G.fns[f]? = some ⟨4, 11, Lib.law_sorts fd fl fn, 4, false⟩) (hd : G.fns[fd]? = some ⟨2, 4, Lib.law_draw, 1, false⟩) (hfl : G.fns[fl]? = some ⟨4, 9, Lib.law_fill fd, 2, false⟩) (hfn : G.fns[fn]? = some ⟨2, 10, Lib.law_names fd ff, 3, false⟩) (hff : G.fns[ff]? = some ⟨2, 10, Lib.law_free_names fd, 2, false⟩) (hk : 4 ≤ k)
    {q most wide : Int} (hq : 2 ≤ q ∧ q ≤ 9) (hmost : 1 ≤ most ∧ most ≤ 5) (hwide : 1 ≤ wide ∧ wide ≤ 6) {P : PV → Store → Prop} (hl : HasP l S)
    (hP : ∀ W L S', Pl l S S' → GoodR q W L → P (.tup (L.map Srt.v)) S') : (callN G k f S.length [.ref l, .int q, .int most, .int wide] S).sat P := by
  refine callF hf (by decide) hk rfl (by decide) ?_
  unfold Lib.law_sorts
  simp only [x_cons, x_nil, x_asg, x_asgT, x_asgS, x_asgA, x_aug, x_ex, x_ret, x_retN, x_if, x_for, x_pass, x_brk, x_cnt, x_try, w_var, w_cst, w_glb, w_tup, w_lst, w_dct0, w_neg, w_bin, w_cmp, w_chain, w_and_, w_or_, w_and1_, w_and2_, w_or1_, w_or2_, w_not, w_ife, w_sub, w_sl1, w_sl2, w_sl3, w_attr, w_call, w_callK, w_new, w_meth, w_cmeth, w_bf, w_bm, w_isi, w_fstr, w_comp, w_dcomp, w_nil, w_cons, w_ie, w_rng, w_enum, w_zip, w_tnil, w_tcons, Fl.go_next, Fl.go_ret, Fl.go_brk, Fl.go_cnt, List.map_cons, List.map_nil, List.cons_append, List.nil_append, List.replicate, List.length_cons, List.length_nil, Nat.sub_self, Nat.reduceSub, Nat.reduceAdd, List.getElem?_cons_zero, List.getElem?_cons_succ, List.set_cons_zero, List.set_cons_succ, setAll, wipeP, Option.some.injEq, exists_eq_left', exists_eq_left, Res.sat_ok, Res.sat_guard, finF_ret, finF_next, finT_ret, finT_next, cTest_nil, cTest_nm, cElt_nm, fBody_nm, t_bl, m_lst, m_ref, m_dct, m_dref, b_add, b_sub, b_mul, b_div, b_mod, b_cat, c_eqI, c_neI, c_ltI, c_leI, c_gtI, c_geI, c_eqS, c_neS, f_int, f_lenL, f_lenT, f_lenS, f_lenC, f_tupL, PV.tup.injEq, PV.lst.injEq, decide_eq_true_eq, decide_eq_false_iff_not, Bool.and_eq_true, Bool.not_eq_true', Bool.not_true, Bool.not_false, true_and, and_true]
  refine draw hd (by decide) hl (by omega) (by omega) fun r S1 p1 r0 r1 => ?_
  simp only [x_cons, x_nil, x_asg, x_asgT, x_asgS, x_asgA, x_aug, x_ex, x_ret, x_retN, x_if, x_for, x_pass, x_brk, x_cnt, x_try, w_var, w_cst, w_glb, w_tup, w_lst, w_dct0, w_neg, w_bin, w_cmp, w_chain, w_and_, w_or_, w_and1_, w_and2_, w_or1_, w_or2_, w_not, w_ife, w_sub, w_sl1, w_sl2, w_sl3, w_attr, w_call, w_callK, w_new, w_meth, w_cmeth, w_bf, w_bm, w_isi, w_fstr, w_comp, w_dcomp, w_nil, w_cons, w_ie, w_rng, w_enum, w_zip, w_tnil, w_tcons, Fl.go_next, Fl.go_ret, Fl.go_brk, Fl.go_cnt, List.map_cons, List.map_nil, List.cons_append, List.nil_append, List.replicate, List.length_cons, List.length_nil, Nat.sub_self, Nat.reduceSub, Nat.reduceAdd, List.getElem?_cons_zero, List.getElem?_cons_succ, List.set_cons_zero, List.set_cons_succ, setAll, wipeP, Option.some.injEq, exists_eq_left', exists_eq_left, Res.sat_ok, Res.sat_guard, finF_ret, finF_next, finT_ret, finT_next, cTest_nil, cTest_nm, cElt_nm, fBody_nm, t_bl, m_lst, m_ref, m_dct, m_dref, b_add, b_sub, b_mul, b_div, b_mod, b_cat, c_eqI, c_neI, c_ltI, c_leI, c_gtI, c_geI, c_eqS, c_neS, f_int, f_lenL, f_lenT, f_lenS, f_lenC, f_tupL, PV.tup.injEq, PV.lst.injEq, decide_eq_true_eq, decide_eq_false_iff_not, Bool.and_eq_true, Bool.not_eq_true', Bool.not_true, Bool.not_false, true_and, and_true]
  have l1 := p1.has hl
  obtain ⟨m, hm⟩ : ∃ m : Nat, (m : Int) = 1 + r := ⟨(1 + r).toNat, by omega⟩
  rw [← hm]
  have m0 : 0 < m := by omega
  have m5 : m ≤ 5 := by omega
  refine ⟨_, r_rng (by omega) (by omega), ?_⟩
  refine comp_eff (l := l) PV.int (fun _ w => 1 ≤ w ∧ w ≤ 6) (by omega) l1 (fun i hi Sx R hx _ hR => ?_) fun ws S2 lw hw p2 => ?_
  · simp only [x_cons, x_nil, x_asg, x_asgT, x_asgS, x_asgA, x_aug, x_ex, x_ret, x_retN, x_if, x_for, x_pass, x_brk, x_cnt, x_try, w_var, w_cst, w_glb, w_tup, w_lst, w_dct0, w_neg, w_bin, w_cmp, w_chain, w_and_, w_or_, w_and1_, w_and2_, w_or1_, w_or2_, w_not, w_ife, w_sub, w_sl1, w_sl2, w_sl3, w_attr, w_call, w_callK, w_new, w_meth, w_cmeth, w_bf, w_bm, w_isi, w_fstr, w_comp, w_dcomp, w_nil, w_cons, w_ie, w_rng, w_enum, w_zip, w_tnil, w_tcons, Fl.go_next, Fl.go_ret, Fl.go_brk, Fl.go_cnt, List.map_cons, List.map_nil, List.cons_append, List.nil_append, List.replicate, List.length_cons, List.length_nil, Nat.sub_self, Nat.reduceSub, Nat.reduceAdd, List.getElem?_cons_zero, List.getElem?_cons_succ, List.set_cons_zero, List.set_cons_succ, setAll, wipeP, Option.some.injEq, exists_eq_left', exists_eq_left, Res.sat_ok, Res.sat_guard, finF_ret, finF_next, finT_ret, finT_next, cTest_nil, cTest_nm, cElt_nm, fBody_nm, t_bl, m_lst, m_ref, m_dct, m_dref, b_add, b_sub, b_mul, b_div, b_mod, b_cat, c_eqI, c_neI, c_ltI, c_leI, c_gtI, c_geI, c_eqS, c_neS, f_int, f_lenL, f_lenT, f_lenS, f_lenC, f_tupL, PV.tup.injEq, PV.lst.injEq, decide_eq_true_eq, decide_eq_false_iff_not, Bool.and_eq_true, Bool.not_eq_true', Bool.not_true, Bool.not_false, true_and, and_true]
    refine draw hd (by decide) hx (by omega) (by omega) fun r S2 p2 r0 r1 => ?_
    simp only [x_cons, x_nil, x_asg, x_asgT, x_asgS, x_asgA, x_aug, x_ex, x_ret, x_retN, x_if, x_for, x_pass, x_brk, x_cnt, x_try, w_var, w_cst, w_glb, w_tup, w_lst, w_dct0, w_neg, w_bin, w_cmp, w_chain, w_and_, w_or_, w_and1_, w_and2_, w_or1_, w_or2_, w_not, w_ife, w_sub, w_sl1, w_sl2, w_sl3, w_attr, w_call, w_callK, w_new, w_meth, w_cmeth, w_bf, w_bm, w_isi, w_fstr, w_comp, w_dcomp, w_nil, w_cons, w_ie, w_rng, w_enum, w_zip, w_tnil, w_tcons, Fl.go_next, Fl.go_ret, Fl.go_brk, Fl.go_cnt, List.map_cons, List.map_nil, List.cons_append, List.nil_append, List.replicate, List.length_cons, List.length_nil, Nat.sub_self, Nat.reduceSub, Nat.reduceAdd, List.getElem?_cons_zero, List.getElem?_cons_succ, List.set_cons_zero, List.set_cons_succ, setAll, wipeP, Option.some.injEq, exists_eq_left', exists_eq_left, Res.sat_ok, Res.sat_guard, finF_ret, finF_next, finT_ret, finT_next, cTest_nil, cTest_nm, cElt_nm, fBody_nm, t_bl, m_lst, m_ref, m_dct, m_dref, b_add, b_sub, b_mul, b_div, b_mod, b_cat, c_eqI, c_neI, c_ltI, c_leI, c_gtI, c_geI, c_eqS, c_neS, f_int, f_lenL, f_lenT, f_lenS, f_lenC, f_tupL, PV.tup.injEq, PV.lst.injEq, decide_eq_true_eq, decide_eq_false_iff_not, Bool.and_eq_true, Bool.not_eq_true', Bool.not_true, Bool.not_false, true_and, and_true]
    exact hR _ _ p2 ⟨by omega, by omega⟩
  have l2 := p2.has l1
  have hw' : ∀ w ∈ ws, 1 ≤ w ∧ w ≤ 6 := fun w h => by
    obtain ⟨i, hi, e⟩ := List.mem_iff_getElem.mp h
    exact hw i w (by rw [List.getElem?_eq_getElem hi, e])
  refine ⟨_, r_rng (by omega) (by omega), ?_⟩
  refine comp_eff (l := l) (fun ks : List Nat => PV.lst (ks.map intV)) (fun i ks => (∀ j ∈ ks, j < ws.length) ∧ (ks.map (wdth ws)).sum = q * wdth ws i ∧ ks.length < 100) (by omega) l2 (fun i hi Sx R hx _ hR => ?_) fun kss S3 lk hkss p3 => ?_
  · simp only [x_cons, x_nil, x_asg, x_asgT, x_asgS, x_asgA, x_aug, x_ex, x_ret, x_retN, x_if, x_for, x_pass, x_brk, x_cnt, x_try, w_var, w_cst, w_glb, w_tup, w_lst, w_dct0, w_neg, w_bin, w_cmp, w_chain, w_and_, w_or_, w_and1_, w_and2_, w_or1_, w_or2_, w_not, w_ife, w_sub, w_sl1, w_sl2, w_sl3, w_attr, w_call, w_callK, w_new, w_meth, w_cmeth, w_bf, w_bm, w_isi, w_fstr, w_comp, w_dcomp, w_nil, w_cons, w_ie, w_rng, w_enum, w_zip, w_tnil, w_tcons, Fl.go_next, Fl.go_ret, Fl.go_brk, Fl.go_cnt, List.map_cons, List.map_nil, List.cons_append, List.nil_append, List.replicate, List.length_cons, List.length_nil, Nat.sub_self, Nat.reduceSub, Nat.reduceAdd, List.getElem?_cons_zero, List.getElem?_cons_succ, List.set_cons_zero, List.set_cons_succ, setAll, wipeP, Option.some.injEq, exists_eq_left', exists_eq_left, Res.sat_ok, Res.sat_guard, finF_ret, finF_next, finT_ret, finT_next, cTest_nil, cTest_nm, cElt_nm, fBody_nm, t_bl, m_lst, m_ref, m_dct, m_dref, b_add, b_sub, b_mul, b_div, b_mod, b_cat, c_eqI, c_neI, c_ltI, c_leI, c_gtI, c_geI, c_eqS, c_neS, f_int, f_lenL, f_lenT, f_lenS, f_lenC, f_tupL, PV.tup.injEq, PV.lst.injEq, decide_eq_true_eq, decide_eq_false_iff_not, Bool.and_eq_true, Bool.not_eq_true', Bool.not_true, Bool.not_false, true_and, and_true]
    exact fill_ok hfl hd (by decide) hq hw' (by omega) (by omega) hx fun ks S' p h1 h2 h3 => hR _ _ p ⟨h1, h2, h3⟩
  have l3 := p3.has l2
  refine names_ok hfn hd hff (by decide) m5 l3 fun xs S4 p4 nx => ?_
  have l4 := p4.has l3
  have p14 : Pl l S S4 := ((p1.trans p2).trans p3).trans p4
  refine ⟨by rw [sizeLine_eq]; omega, _, r_rng (by omega) (by omega), ?_⟩
  have G0 := good_mk hq.1 hq.2 m0 m5 nx lw hw' lk hkss
  have hlen : (rangeL 0 (m : Int)).length = m := by rw [rangeL_nat]; simp
  refine for_inv (k := 0) (fun j ps S' => ∃ v6 v10 : Option PV, S' = S4 ++ [.lst (((List.range j).map (mkS xs ws kss)).map Srt.v)] ∧ ps = [some (.ref l), some (.int q), some (.int most), some (.int wide), some (.int (m : Int)), some (.lst (ws.map .int)), v6, some (.lst (kss.map fun ks : List Nat => PV.lst (ks.map intV))), some (.lst (xs.map nmV)), some (.ref S4.length), v10])
    ⟨_, _, rfl, rfl⟩ (fun _ _ _ _ => stay_nil _) (fun j x ps S' ex h => ?_) fun ps S' h => ?_
  · obtain ⟨v6, v10, rfl, rfl⟩ := h
    have hj := (List.getElem?_eq_some_iff.mp ex).1
    rw [hlen] at hj
    rw [rangeL_nat, List.getElem?_map, List.getElem?_range hj] at ex
    obtain rfl : PV.int (j : Int) = x := Option.some.inj ex
    have xg : ∀ i, (h : i < m) → xs[i]? = some (xs.getD i []) := fun i h => by
      rw [List.getD_eq_getElem?_getD, List.getElem?_eq_getElem (by rw [nx.1]; exact h)]; rfl
    have kg : kss[j]? = some (kss.getD j []) := by
      rw [List.getD_eq_getElem?_getD, List.getElem?_eq_getElem (by rw [lk]; exact hj)]; rfl
    have here : ∀ o : PO, (S4 ++ [o])[S4.length]? = some o := fun o => by simp
    simp only [x_cons, x_nil, x_asg, x_asgT, x_asgS, x_asgA, x_aug, x_ex, x_ret, x_retN, x_if, x_for, x_pass, x_brk, x_cnt, x_try, w_var, w_cst, w_glb, w_tup, w_lst, w_dct0, w_neg, w_bin, w_cmp, w_chain, w_and_, w_or_, w_and1_, w_and2_, w_or1_, w_or2_, w_not, w_ife, w_sub, w_sl1, w_sl2, w_sl3, w_attr, w_call, w_callK, w_new, w_meth, w_cmeth, w_bf, w_bm, w_isi, w_fstr, w_comp, w_dcomp, w_nil, w_cons, w_ie, w_rng, w_enum, w_zip, w_tnil, w_tcons, Fl.go_next, Fl.go_ret, Fl.go_brk, Fl.go_cnt, List.map_cons, List.map_nil, List.cons_append, List.nil_append, List.replicate, List.length_cons, List.length_nil, Nat.sub_self, Nat.reduceSub, Nat.reduceAdd, List.getElem?_cons_zero, List.getElem?_cons_succ, List.set_cons_zero, List.set_cons_succ, setAll, wipeP, Option.some.injEq, exists_eq_left', exists_eq_left, Res.sat_ok, Res.sat_guard, finF_ret, finF_next, finT_ret, finT_next, cTest_nil, cTest_nm, cElt_nm, fBody_nm, t_bl, m_lst, m_ref, m_dct, m_dref, b_add, b_sub, b_mul, b_div, b_mod, b_cat, c_eqI, c_neI, c_ltI, c_leI, c_gtI, c_geI, c_eqS, c_neS, f_int, f_lenL, f_lenT, f_lenS, f_lenC, f_tupL, PV.tup.injEq, PV.lst.injEq, decide_eq_true_eq, decide_eq_false_iff_not, Bool.and_eq_true, Bool.not_eq_true', Bool.not_true, Bool.not_false, true_and, and_true]
    refine ⟨bt_append (here _), _, by rw [g_lst]; exact atI_nat (by rw [List.getElem?_map, xg j hj]; rfl), _, w_get (by omega), _, by rw [g_lst]; exact atI_nat (by rw [List.getElem?_map, kg]; rfl), _, rfl, ?_⟩
    obtain ⟨k1, k2, k3⟩ := hkss j _ kg
    refine comp_map (onInt .non fun i => nmV (xs.getD i [])) (stay_nil _) (by rw [List.length_map, sizeLine_eq]; omega) (fun x hx => ?_) (fun x hx => ?_) ?_
    · rw [cTest_nil]; exact ⟨rfl, rfl⟩
    · obtain ⟨i, hi, rfl⟩ := List.mem_map.mp hx
      unfold intV
      simp only [x_cons, x_nil, x_asg, x_asgT, x_asgS, x_asgA, x_aug, x_ex, x_ret, x_retN, x_if, x_for, x_pass, x_brk, x_cnt, x_try, w_var, w_cst, w_glb, w_tup, w_lst, w_dct0, w_neg, w_bin, w_cmp, w_chain, w_and_, w_or_, w_and1_, w_and2_, w_or1_, w_or2_, w_not, w_ife, w_sub, w_sl1, w_sl2, w_sl3, w_attr, w_call, w_callK, w_new, w_meth, w_cmeth, w_bf, w_bm, w_isi, w_fstr, w_comp, w_dcomp, w_nil, w_cons, w_ie, w_rng, w_enum, w_zip, w_tnil, w_tcons, Fl.go_next, Fl.go_ret, Fl.go_brk, Fl.go_cnt, List.map_cons, List.map_nil, List.cons_append, List.nil_append, List.replicate, List.length_cons, List.length_nil, Nat.sub_self, Nat.reduceSub, Nat.reduceAdd, List.getElem?_cons_zero, List.getElem?_cons_succ, List.set_cons_zero, List.set_cons_succ, setAll, wipeP, Option.some.injEq, exists_eq_left', exists_eq_left, Res.sat_ok, Res.sat_guard, finF_ret, finF_next, finT_ret, finT_next, cTest_nil, cTest_nm, cElt_nm, fBody_nm, t_bl, m_lst, m_ref, m_dct, m_dref, b_add, b_sub, b_mul, b_div, b_mod, b_cat, c_eqI, c_neI, c_ltI, c_leI, c_gtI, c_geI, c_eqS, c_neS, f_int, f_lenL, f_lenT, f_lenS, f_lenC, f_tupL, PV.tup.injEq, PV.lst.injEq, decide_eq_true_eq, decide_eq_false_iff_not, Bool.and_eq_true, Bool.not_eq_true', Bool.not_true, Bool.not_false, true_and, and_true]
      exact ⟨_, by rw [g_lst]; exact atI_nat (by rw [List.getElem?_map, xg i (by rw [← lw]; exact k1 i hi)]; rfl), rfl⟩
    · have e1 : ((kss.getD j []).map intV).map (onInt .non fun i => nmV (xs.getD i [])) = ((kss.getD j []).map fun i => xs.getD i []).map nmV := by
        rw [List.map_map, List.map_map]
        refine List.map_congr_left fun i _ => ?_
        show nmV (xs.getD (i : Int).toNat []) = nmV (xs.getD i [])
        rw [Int.toNat_natCast]
      rw [e1]
      refine ⟨by rw [sizeLine_eq]; omega, bm_append (here _) (List.all_eq_true.mp (by rw [← PV.rfs_eq]; exact rfs_srt [mkS xs ws kss j]) _ List.mem_cons_self) (by rw [List.length_map, List.length_map, List.length_range, sizeLine_eq]; omega) ?_⟩
      refine ⟨_, _, ?_, rfl⟩
      rw [List.set_append_right _ _ (Nat.le_refl _), Nat.sub_self, Nat.zero_add, List.range_succ, List.map_append, List.map_append]
      rfl
  · obtain ⟨v6, v10, rfl, rfl⟩ := h
    rw [hlen, Nat.zero_add]
    simp only [x_cons, x_nil, x_asg, x_asgT, x_asgS, x_asgA, x_aug, x_ex, x_ret, x_retN, x_if, x_for, x_pass, x_brk, x_cnt, x_try, w_var, w_cst, w_glb, w_tup, w_lst, w_dct0, w_neg, w_bin, w_cmp, w_chain, w_and_, w_or_, w_and1_, w_and2_, w_or1_, w_or2_, w_not, w_ife, w_sub, w_sl1, w_sl2, w_sl3, w_attr, w_call, w_callK, w_new, w_meth, w_cmeth, w_bf, w_bm, w_isi, w_fstr, w_comp, w_dcomp, w_nil, w_cons, w_ie, w_rng, w_enum, w_zip, w_tnil, w_tcons, Fl.go_next, Fl.go_ret, Fl.go_brk, Fl.go_cnt, List.map_cons, List.map_nil, List.cons_append, List.nil_append, List.replicate, List.length_cons, List.length_nil, Nat.sub_self, Nat.reduceSub, Nat.reduceAdd, List.getElem?_cons_zero, List.getElem?_cons_succ, List.set_cons_zero, List.set_cons_succ, setAll, wipeP, Option.some.injEq, exists_eq_left', exists_eq_left, Res.sat_ok, Res.sat_guard, finF_ret, finF_next, finT_ret, finT_next, cTest_nil, cTest_nm, cElt_nm, fBody_nm, t_bl, m_lst, m_ref, m_dct, m_dref, b_add, b_sub, b_mul, b_div, b_mod, b_cat, c_eqI, c_neI, c_ltI, c_leI, c_gtI, c_geI, c_eqS, c_neS, f_int, f_lenL, f_lenT, f_lenS, f_lenC, f_tupL, PV.tup.injEq, PV.lst.injEq, decide_eq_true_eq, decide_eq_false_iff_not, Bool.and_eq_true, Bool.not_eq_true', Bool.not_true, Bool.not_false, true_and, and_true]
    rw [f_tupR (xs := ((List.range m).map (mkS xs ws kss)).map Srt.v) (by simp)]
    simp only [x_cons, x_nil, x_asg, x_asgT, x_asgS, x_asgA, x_aug, x_ex, x_ret, x_retN, x_if, x_for, x_pass, x_brk, x_cnt, x_try, w_var, w_cst, w_glb, w_tup, w_lst, w_dct0, w_neg, w_bin, w_cmp, w_chain, w_and_, w_or_, w_and1_, w_and2_, w_or1_, w_or2_, w_not, w_ife, w_sub, w_sl1, w_sl2, w_sl3, w_attr, w_call, w_callK, w_new, w_meth, w_cmeth, w_bf, w_bm, w_isi, w_fstr, w_comp, w_dcomp, w_nil, w_cons, w_ie, w_rng, w_enum, w_zip, w_tnil, w_tcons, Fl.go_next, Fl.go_ret, Fl.go_brk, Fl.go_cnt, List.map_cons, List.map_nil, List.cons_append, List.nil_append, List.replicate, List.length_cons, List.length_nil, Nat.sub_self, Nat.reduceSub, Nat.reduceAdd, List.getElem?_cons_zero, List.getElem?_cons_succ, List.set_cons_zero, List.set_cons_succ, setAll, wipeP, Option.some.injEq, exists_eq_left', exists_eq_left, Res.sat_ok, Res.sat_guard, finF_ret, finF_next, finT_ret, finT_next, cTest_nil, cTest_nm, cElt_nm, fBody_nm, t_bl, m_lst, m_ref, m_dct, m_dref, b_add, b_sub, b_mul, b_div, b_mod, b_cat, c_eqI, c_neI, c_ltI, c_leI, c_gtI, c_geI, c_eqS, c_neS, f_int, f_lenL, f_lenT, f_lenS, f_lenC, f_tupL, PV.tup.injEq, PV.lst.injEq, decide_eq_true_eq, decide_eq_false_iff_not, Bool.and_eq_true, Bool.not_eq_true', Bool.not_true, Bool.not_false, true_and, and_true]
    refine ⟨_, fz_rf (by simp only [PV.rf]; exact rfs_srt _), ?_⟩
    rw [List.take_append_of_le_length (by rw [p14.len]; exact Nat.le_refl _), List.take_of_length_le (by rw [p14.len]; exact Nat.le_refl _)]
    exact hP _ _ S4 p14 G0
end
end PyI
set_option Elab.async false
set_option linter.all false
set_option maxRecDepth 100000
set_option maxHeartbeats 4000000
/-! LawG: pools, cells -/
namespace PyI
open PySem PySem.Spec PyProof.Rows
section
variable {G : Tab} {S : Store} {l : Nat} {c : Nat → Nat → List PV → Store → Res PV} {n : Nat}
theorem pool_ok {f k : Nat} (hf : G.fns[f]? = some ⟨1, 2, Lib.law_pool, 1, true⟩) (hk : 1 ≤ k) {i : Int} {P : PV → Store → Prop} (hP : ∀ a b c, P (.ref S.length) (S ++ [pool3 a b c])) : (callN G k f S.length [.int i] S).sat P := by
  refine callT hf (by decide) hk rfl (by decide) ?_
  unfold Lib.law_pool
  simp only [x_cons, x_nil, x_asg, x_asgT, x_asgS, x_asgA, x_aug, x_ex, x_ret, x_retN, x_if, x_for, x_pass, x_brk, x_cnt, x_try, w_var, w_cst, w_glb, w_tup, w_lst, w_dct0, w_neg, w_bin, w_cmp, w_chain, w_and_, w_or_, w_and1_, w_and2_, w_or1_, w_or2_, w_not, w_ife, w_sub, w_sl1, w_sl2, w_sl3, w_attr, w_call, w_callK, w_new, w_meth, w_cmeth, w_bf, w_bm, w_isi, w_fstr, w_comp, w_dcomp, w_nil, w_cons, w_ie, w_rng, w_enum, w_zip, w_tnil, w_tcons, Fl.go_next, Fl.go_ret, Fl.go_brk, Fl.go_cnt, List.map_cons, List.map_nil, List.cons_append, List.nil_append, List.replicate, List.length_cons, List.length_nil, Nat.sub_self, Nat.reduceSub, Nat.reduceAdd, List.getElem?_cons_zero, List.getElem?_cons_succ, List.set_cons_zero, List.set_cons_succ, setAll, wipeP, Option.some.injEq, exists_eq_left', exists_eq_left, Res.sat_ok, Res.sat_guard, finF_ret, finF_next, finT_ret, finT_next, cTest_nil, cTest_nm, cElt_nm, fBody_nm, t_bl, m_lst, m_ref, m_dct, m_dref, b_add, b_sub, b_mul, b_div, b_mod, b_cat, c_eqI, c_neI, c_ltI, c_leI, c_gtI, c_geI, c_eqS, c_neS, f_int, f_lenL, f_lenT, f_lenS, f_lenC, f_tupL, PV.tup.injEq, PV.lst.injEq, decide_eq_true_eq, decide_eq_false_iff_not, Bool.and_eq_true, Bool.not_eq_true', Bool.not_true, Bool.not_false, true_and, and_true, b_pow, f_abs]
  have h3 : 3 ≤ sizeLine := by rw [sizeLine_eq]; omega
  exact ⟨fun h => ⟨by decide, fun _ => ⟨by decide, h3, hP _ _ _⟩, fun _ => ⟨by decide, h3, hP _ _ _⟩⟩, fun h => ⟨fun _ => ⟨by decide, h3, hP _ _ _⟩, fun _ => ⟨by decide, h3, hP _ _ _⟩⟩⟩
theorem cell_ok {f k : Nat} (hf : G.fns[f]? = some ⟨2, 4, Lib.law_cell, 1, false⟩) (hk : 1 ≤ k) {ns : List Int} {j : Nat} (hj : j < 100) {P : PV → Store → Prop} (hP : ∀ i, P (.int i) S) : (callN G k f S.length [.scr ns, .int (j : Int)] S).sat P := by
  refine callF hf (by decide) hk rfl (by decide) ?_
  unfold Lib.law_cell
  have tk : S.take S.length = S := List.take_of_length_le (Nat.le_refl _)
  simp only [x_cons, x_nil, x_asg, x_asgT, x_asgS, x_asgA, x_aug, x_ex, x_ret, x_retN, x_if, x_for, x_pass, x_brk, x_cnt, x_try, w_var, w_cst, w_glb, w_tup, w_lst, w_dct0, w_neg, w_bin, w_cmp, w_chain, w_and_, w_or_, w_and1_, w_and2_, w_or1_, w_or2_, w_not, w_ife, w_sub, w_sl1, w_sl2, w_sl3, w_attr, w_call, w_callK, w_new, w_meth, w_cmeth, w_bf, w_bm, w_isi, w_fstr, w_comp, w_dcomp, w_nil, w_cons, w_ie, w_rng, w_enum, w_zip, w_tnil, w_tcons, Fl.go_next, Fl.go_ret, Fl.go_brk, Fl.go_cnt, List.map_cons, List.map_nil, List.cons_append, List.nil_append, List.replicate, List.length_cons, List.length_nil, Nat.sub_self, Nat.reduceSub, Nat.reduceAdd, List.getElem?_cons_zero, List.getElem?_cons_succ, List.set_cons_zero, List.set_cons_succ, setAll, wipeP, Option.some.injEq, exists_eq_left', exists_eq_left, Res.sat_ok, Res.sat_guard, finF_ret, finF_next, finT_ret, finT_next, cTest_nil, cTest_nm, cElt_nm, fBody_nm, t_bl, m_lst, m_ref, m_dct, m_dref, b_add, b_sub, b_mul, b_div, b_mod, b_cat, c_eqI, c_neI, c_ltI, c_leI, c_gtI, c_geI, c_eqS, c_neS, f_int, f_lenL, f_lenT, f_lenS, f_lenC, f_tupL, PV.tup.injEq, PV.lst.injEq, decide_eq_true_eq, decide_eq_false_iff_not, Bool.and_eq_true, Bool.not_eq_true', Bool.not_true, Bool.not_false, true_and, and_true]
  refine ⟨fun h => ?_, fun h => ⟨mulOk_r (by omega), mulOk_l (by decide), mulOk_l (by decide), by decide, ?_⟩⟩
  · have hl : j < ns.length := by omega
    refine ⟨.int ns[j], by rw [g_scr, atI_nat (List.getElem?_eq_getElem hl)]; rfl, _, fz_rf rfl, ?_⟩
    rw [tk]; exact hP _
  · refine ⟨_, rfl, _, rfl, ?_⟩
    refine for_inv (k := 0) (fun _ ps S' => S' = S ∧ ∃ (s : Int) (v : Option PV), ps = [some (.scr ns), some (.int (j : Int)), some (.int s), v]) ⟨rfl, _, _, rfl⟩ (fun _ _ _ _ => stay_nil _) (fun i x ps S' ex h => ?_) fun ps S' h => ?_
    · obtain ⟨rfl, s, v, rfl⟩ := h
      have hx : x ∈ (cutL ns none (some 3)).map PV.int := List.mem_of_getElem? ex
      obtain ⟨y, _, rfl⟩ := List.mem_map.mp hx
      simp only [x_cons, x_nil, x_asg, x_asgT, x_asgS, x_asgA, x_aug, x_ex, x_ret, x_retN, x_if, x_for, x_pass, x_brk, x_cnt, x_try, w_var, w_cst, w_glb, w_tup, w_lst, w_dct0, w_neg, w_bin, w_cmp, w_chain, w_and_, w_or_, w_and1_, w_and2_, w_or1_, w_or2_, w_not, w_ife, w_sub, w_sl1, w_sl2, w_sl3, w_attr, w_call, w_callK, w_new, w_meth, w_cmeth, w_bf, w_bm, w_isi, w_fstr, w_comp, w_dcomp, w_nil, w_cons, w_ie, w_rng, w_enum, w_zip, w_tnil, w_tcons, Fl.go_next, Fl.go_ret, Fl.go_brk, Fl.go_cnt, List.map_cons, List.map_nil, List.cons_append, List.nil_append, List.replicate, List.length_cons, List.length_nil, Nat.sub_self, Nat.reduceSub, Nat.reduceAdd, List.getElem?_cons_zero, List.getElem?_cons_succ, List.set_cons_zero, List.set_cons_succ, setAll, wipeP, Option.some.injEq, exists_eq_left', exists_eq_left, Res.sat_ok, Res.sat_guard, finF_ret, finF_next, finT_ret, finT_next, cTest_nil, cTest_nm, cElt_nm, fBody_nm, t_bl, m_lst, m_ref, m_dct, m_dref, b_add, b_sub, b_mul, b_div, b_mod, b_cat, c_eqI, c_neI, c_ltI, c_leI, c_gtI, c_geI, c_eqS, c_neS, f_int, f_lenL, f_lenT, f_lenS, f_lenC, f_tupL, PV.tup.injEq, PV.lst.injEq, decide_eq_true_eq, decide_eq_false_iff_not, Bool.and_eq_true, Bool.not_eq_true', Bool.not_true, Bool.not_false, true_and, and_true]
      exact ⟨mulOk_r (by decide), by decide, _, _, rfl⟩
    · obtain ⟨rfl, s, v, rfl⟩ := h
      simp only [x_cons, x_nil, x_asg, x_asgT, x_asgS, x_asgA, x_aug, x_ex, x_ret, x_retN, x_if, x_for, x_pass, x_brk, x_cnt, x_try, w_var, w_cst, w_glb, w_tup, w_lst, w_dct0, w_neg, w_bin, w_cmp, w_chain, w_and_, w_or_, w_and1_, w_and2_, w_or1_, w_or2_, w_not, w_ife, w_sub, w_sl1, w_sl2, w_sl3, w_attr, w_call, w_callK, w_new, w_meth, w_cmeth, w_bf, w_bm, w_isi, w_fstr, w_comp, w_dcomp, w_nil, w_cons, w_ie, w_rng, w_enum, w_zip, w_tnil, w_tcons, Fl.go_next, Fl.go_ret, Fl.go_brk, Fl.go_cnt, List.map_cons, List.map_nil, List.cons_append, List.nil_append, List.replicate, List.length_cons, List.length_nil, Nat.sub_self, Nat.reduceSub, Nat.reduceAdd, List.getElem?_cons_zero, List.getElem?_cons_succ, List.set_cons_zero, List.set_cons_succ, setAll, wipeP, Option.some.injEq, exists_eq_left', exists_eq_left, Res.sat_ok, Res.sat_guard, finF_ret, finF_next, finT_ret, finT_next, cTest_nil, cTest_nm, cElt_nm, fBody_nm, t_bl, m_lst, m_ref, m_dct, m_dref, b_add, b_sub, b_mul, b_div, b_mod, b_cat, c_eqI, c_neI, c_ltI, c_leI, c_gtI, c_geI, c_eqS, c_neS, f_int, f_lenL, f_lenT, f_lenS, f_lenC, f_tupL, PV.tup.injEq, PV.lst.injEq, decide_eq_true_eq, decide_eq_false_iff_not, Bool.and_eq_true, Bool.not_eq_true', Bool.not_true, Bool.not_false, true_and, and_true]
      refine ⟨_, fz_rf rfl, ?_⟩
      rw [tk]; exact hP _
end
end PyI
set_option Elab.async false
set_option linter.all false
set_option maxRecDepth 100000
set_option maxHeartbeats 4000000
/-! LawH: kinds that are right -/
namespace PyI
open PySem PySem.Spec PyProof.Rows
section
variable {G : Tab} {S : Store} {c : Nat → Nat → List PV → Store → Res PV} {n k : Nat}
theorem take_self (S : Store) : S.take S.length = S := List.take_of_length_le (Nat.le_refl _)
theorem isInt_eq {f : Nat} (hf : G.fns[f]? = some ⟨1, 1, Lib.is_integer, 1, false⟩) (hk : 1 ≤ k) (i : Int) : callN G k f S.length [.int i] S = .ok (.bl true) S := by
  refine Res.sat_eq (callF hf (by decide) hk rfl (by decide) ?_)
  unfold Lib.is_integer
  simp only [x_cons, x_nil, x_asg, x_asgT, x_asgS, x_asgA, x_aug, x_ex, x_ret, x_retN, x_if, x_for, x_pass, x_brk, x_cnt, x_try, w_var, w_cst, w_glb, w_tup, w_lst, w_dct0, w_neg, w_bin, w_cmp, w_chain, w_and_, w_or_, w_and1_, w_and2_, w_or1_, w_or2_, w_not, w_ife, w_sub, w_sl1, w_sl2, w_sl3, w_attr, w_call, w_callK, w_new, w_meth, w_cmeth, w_bf, w_bm, w_isi, w_fstr, w_comp, w_dcomp, w_nil, w_cons, w_ie, w_rng, w_enum, w_zip, w_tnil, w_tcons, Fl.go_next, Fl.go_ret, Fl.go_brk, Fl.go_cnt, List.map_cons, List.map_nil, List.cons_append, List.nil_append, List.replicate, List.length_cons, List.length_nil, Nat.sub_self, Nat.reduceSub, Nat.reduceAdd, List.getElem?_cons_zero, List.getElem?_cons_succ, List.set_cons_zero, List.set_cons_succ, setAll, wipeP, Option.some.injEq, exists_eq_left', exists_eq_left, Res.sat_ok, Res.sat_guard, finF_ret, finF_next, finT_ret, finT_next, cTest_nil, cTest_nm, cElt_nm, fBody_nm, t_bl, m_lst, m_ref, m_dct, m_dref, b_add, b_sub, b_mul, b_div, b_mod, b_cat, c_eqI, c_neI, c_ltI, c_leI, c_gtI, c_geI, c_eqS, c_neS, f_int, f_lenL, f_lenT, f_lenS, f_lenC, f_tupL, PV.tup.injEq, PV.lst.injEq, decide_eq_true_eq, decide_eq_false_iff_not, Bool.and_eq_true, Bool.not_eq_true', Bool.not_true, Bool.not_false, true_and, and_true]
  exact ⟨rfl, true, rfl, fun _ => ⟨rfl, false, rfl, _, fz_rf rfl, rfl, take_self S⟩, fun h => by cases h⟩
theorem between_eq {f fi : Nat} (hf : G.fns[f]? = some ⟨3, 3, Lib.is_between fi, 2, false⟩) (hi : G.fns[fi]? = some ⟨1, 1, Lib.is_integer, 1, false⟩) (hk : 2 ≤ k) {i a b : Int} (h1 : a ≤ i) (h2 : i ≤ b) : callN G k f S.length [.int i, .int a, .int b] S = .ok (.bl true) S := by
  refine Res.sat_eq (callF hf (by decide) hk rfl (by decide) ?_)
  unfold Lib.is_between
  simp only [x_cons, x_nil, x_asg, x_asgT, x_asgS, x_asgA, x_aug, x_ex, x_ret, x_retN, x_if, x_for, x_pass, x_brk, x_cnt, x_try, w_var, w_cst, w_glb, w_tup, w_lst, w_dct0, w_neg, w_bin, w_cmp, w_chain, w_and_, w_or_, w_and1_, w_and2_, w_or1_, w_or2_, w_not, w_ife, w_sub, w_sl1, w_sl2, w_sl3, w_attr, w_call, w_callK, w_new, w_meth, w_cmeth, w_bf, w_bm, w_isi, w_fstr, w_comp, w_dcomp, w_nil, w_cons, w_ie, w_rng, w_enum, w_zip, w_tnil, w_tcons, Fl.go_next, Fl.go_ret, Fl.go_brk, Fl.go_cnt, List.map_cons, List.map_nil, List.cons_append, List.nil_append, List.replicate, List.length_cons, List.length_nil, Nat.sub_self, Nat.reduceSub, Nat.reduceAdd, List.getElem?_cons_zero, List.getElem?_cons_succ, List.set_cons_zero, List.set_cons_succ, setAll, wipeP, Option.some.injEq, exists_eq_left', exists_eq_left, Res.sat_ok, Res.sat_guard, finF_ret, finF_next, finT_ret, finT_next, cTest_nil, cTest_nm, cElt_nm, fBody_nm, t_bl, m_lst, m_ref, m_dct, m_dref, b_add, b_sub, b_mul, b_div, b_mod, b_cat, c_eqI, c_neI, c_ltI, c_leI, c_gtI, c_geI, c_eqS, c_neS, f_int, f_lenL, f_lenT, f_lenS, f_lenC, f_tupL, PV.tup.injEq, PV.lst.injEq, decide_eq_true_eq, decide_eq_false_iff_not, Bool.and_eq_true, Bool.not_eq_true', Bool.not_true, Bool.not_false, true_and, and_true]
  rw [isInt_eq hi (by decide)]
  simp only [x_cons, x_nil, x_asg, x_asgT, x_asgS, x_asgA, x_aug, x_ex, x_ret, x_retN, x_if, x_for, x_pass, x_brk, x_cnt, x_try, w_var, w_cst, w_glb, w_tup, w_lst, w_dct0, w_neg, w_bin, w_cmp, w_chain, w_and_, w_or_, w_and1_, w_and2_, w_or1_, w_or2_, w_not, w_ife, w_sub, w_sl1, w_sl2, w_sl3, w_attr, w_call, w_callK, w_new, w_meth, w_cmeth, w_bf, w_bm, w_isi, w_fstr, w_comp, w_dcomp, w_nil, w_cons, w_ie, w_rng, w_enum, w_zip, w_tnil, w_tcons, Fl.go_next, Fl.go_ret, Fl.go_brk, Fl.go_cnt, List.map_cons, List.map_nil, List.cons_append, List.nil_append, List.replicate, List.length_cons, List.length_nil, Nat.sub_self, Nat.reduceSub, Nat.reduceAdd, List.getElem?_cons_zero, List.getElem?_cons_succ, List.set_cons_zero, List.set_cons_succ, setAll, wipeP, Option.some.injEq, exists_eq_left', exists_eq_left, Res.sat_ok, Res.sat_guard, finF_ret, finF_next, finT_ret, finT_next, cTest_nil, cTest_nm, cElt_nm, fBody_nm, t_bl, m_lst, m_ref, m_dct, m_dref, b_add, b_sub, b_mul, b_div, b_mod, b_cat, c_eqI, c_neI, c_ltI, c_leI, c_gtI, c_geI, c_eqS, c_neS, f_int, f_lenL, f_lenT, f_lenS, f_lenC, f_tupL, PV.tup.injEq, PV.lst.injEq, decide_eq_true_eq, decide_eq_false_iff_not, Bool.and_eq_true, Bool.not_eq_true', Bool.not_true, Bool.not_false, true_and, and_true]
  exact ⟨fun _ => ⟨fun _ => ⟨_, fz_rf rfl, by rw [decide_eq_true h2], take_self S⟩, fun h => absurd h1 h⟩, fun h => by cases h⟩
theorem in_all : ∀ i ∈ List.range 26, isInStr (SX.S [97 + i]) ltr = true := by decide +kernel
theorem in_ltr {d : Nat} (h1 : 97 ≤ d) (h2 : d ≤ 122) : cmpR G c .In (nmV [d]) (.str ltr) S = .ok (.true) S := by
  have := in_all (d - 97) (by rw [List.mem_range]; omega)
  rw [show 97 + (d - 97) = d by omega] at this
  show ofO (some (isInStr (SX.S [d]) ltr)) S = _
  rw [this]; rfl
theorem chars_nm (x : List Nat) : chars (SX.S x) = x.map fun d => nmV [d] := rfl
theorem all_true {α : Type} (xs : List α) : (xs.map fun _ => true).all id = true := by
  rw [List.all_map, List.all_eq_true]; intro _ _; rfl
theorem isName_eq {f : Nat} (hf : G.fns[f]? = some ⟨1, 2, Lib.is_name, 1, false⟩) (hk : 1 ≤ k) {x : List Nat} (h : nmOk x) : callN G k f S.length [nmV x] S = .ok (.bl true) S := by
  obtain ⟨h1, h2, h3⟩ := h
  refine Res.sat_eq (callF hf (by decide) hk rfl (by decide) ?_)
  unfold Lib.is_name nmV
  simp only [x_cons, x_nil, x_asg, x_asgT, x_asgS, x_asgA, x_aug, x_ex, x_ret, x_retN, x_if, x_for, x_pass, x_brk, x_cnt, x_try, w_var, w_cst, w_glb, w_tup, w_lst, w_dct0, w_neg, w_bin, w_cmp, w_chain, w_and_, w_or_, w_and1_, w_and2_, w_or1_, w_or2_, w_not, w_ife, w_sub, w_sl1, w_sl2, w_sl3, w_attr, w_call, w_callK, w_new, w_meth, w_cmeth, w_bf, w_bm, w_isi, w_fstr, w_comp, w_dcomp, w_nil, w_cons, w_ie, w_rng, w_enum, w_zip, w_tnil, w_tcons, Fl.go_next, Fl.go_ret, Fl.go_brk, Fl.go_cnt, List.map_cons, List.map_nil, List.cons_append, List.nil_append, List.replicate, List.length_cons, List.length_nil, Nat.sub_self, Nat.reduceSub, Nat.reduceAdd, List.getElem?_cons_zero, List.getElem?_cons_succ, List.set_cons_zero, List.set_cons_succ, setAll, wipeP, Option.some.injEq, exists_eq_left', exists_eq_left, Res.sat_ok, Res.sat_guard, finF_ret, finF_next, finT_ret, finT_next, cTest_nil, cTest_nm, cElt_nm, fBody_nm, t_bl, m_lst, m_ref, m_dct, m_dref, b_add, b_sub, b_mul, b_div, b_mod, b_cat, c_eqI, c_neI, c_ltI, c_leI, c_gtI, c_geI, c_eqS, c_neS, f_int, f_lenL, f_lenT, f_lenS, f_lenC, f_tupL, PV.tup.injEq, PV.lst.injEq, decide_eq_true_eq, decide_eq_false_iff_not, Bool.and_eq_true, Bool.not_eq_true', Bool.not_true, Bool.not_false, true_and, and_true]
  rw [SX.S_len]
  refine ⟨rfl, true, rfl, fun _ => ⟨fun _ => ⟨fun _ => ?_, fun h => absurd (show (x.length : Int) < 9 by omega) h⟩, fun h => absurd (show (0 : Int) < x.length by omega) h⟩, fun h => by cases h⟩
  refine ⟨_, rfl, ?_⟩
  rw [chars_nm]
  refine comp_map (fun _ => .bl true) (stay_nil _) (by rw [List.length_map, sizeLine_eq]; omega) (fun y hy => ?_) (fun y hy => ?_) ?_
  · rw [cTest_nil]; exact ⟨rfl, rfl⟩
  · obtain ⟨d, hd, rfl⟩ := List.mem_map.mp hy
    simp only [x_cons, x_nil, x_asg, x_asgT, x_asgS, x_asgA, x_aug, x_ex, x_ret, x_retN, x_if, x_for, x_pass, x_brk, x_cnt, x_try, w_var, w_cst, w_glb, w_tup, w_lst, w_dct0, w_neg, w_bin, w_cmp, w_chain, w_and_, w_or_, w_and1_, w_and2_, w_or1_, w_or2_, w_not, w_ife, w_sub, w_sl1, w_sl2, w_sl3, w_attr, w_call, w_callK, w_new, w_meth, w_cmeth, w_bf, w_bm, w_isi, w_fstr, w_comp, w_dcomp, w_nil, w_cons, w_ie, w_rng, w_enum, w_zip, w_tnil, w_tcons, Fl.go_next, Fl.go_ret, Fl.go_brk, Fl.go_cnt, List.map_cons, List.map_nil, List.cons_append, List.nil_append, List.replicate, List.length_cons, List.length_nil, Nat.sub_self, Nat.reduceSub, Nat.reduceAdd, List.getElem?_cons_zero, List.getElem?_cons_succ, List.set_cons_zero, List.set_cons_succ, setAll, wipeP, Option.some.injEq, exists_eq_left', exists_eq_left, Res.sat_ok, Res.sat_guard, finF_ret, finF_next, finT_ret, finT_next, cTest_nil, cTest_nm, cElt_nm, fBody_nm, t_bl, m_lst, m_ref, m_dct, m_dref, b_add, b_sub, b_mul, b_div, b_mod, b_cat, c_eqI, c_neI, c_ltI, c_leI, c_gtI, c_geI, c_eqS, c_neS, f_int, f_lenL, f_lenT, f_lenS, f_lenC, f_tupL, PV.tup.injEq, PV.lst.injEq, decide_eq_true_eq, decide_eq_false_iff_not, Bool.and_eq_true, Bool.not_eq_true', Bool.not_true, Bool.not_false, true_and, and_true]
    show ((cmpR G _ .In (nmV [d]) (.str ltr) S).sat _)
    rw [in_ltr (h3 d hd).1 (h3 d hd).2]
    exact ⟨rfl, rfl⟩
  · rw [List.map_map, show ((fun _ => PV.bl true) ∘ fun d => nmV [d]) = PV.bl ∘ (fun _ : Nat => true) from rfl, ← List.map_map, f_allL, all_true]
    exact ⟨_, fz_rf rfl, rfl, take_self S⟩
/-- a kind by itself -/
structure SOk (s : Srt) : Prop where
  nm : nmOk s.nm
  w1 : 1 ≤ s.w
  w6 : s.w ≤ 6
  ne : 0 < s.row.length
  few : s.row.length < 100
  row : ∀ x ∈ s.row, nmOk x
theorem isKind_eq {f fb fn fi : Nat} (hf : G.fns[f]? = some ⟨1, 5, Lib.is_kind fb fn, 3, false⟩) (hb : G.fns[fb]? = some ⟨3, 3, Lib.is_between fi, 2, false⟩) (hi : G.fns[fi]? = some ⟨1, 1, Lib.is_integer, 1, false⟩) (hn : G.fns[fn]? = some ⟨1, 2, Lib.is_name, 1, false⟩) (hk : 3 ≤ k) {s : Srt} (h : SOk s) :
    callN G k f S.length [s.v] S = .ok (.bl true) S := by
  refine Res.sat_eq (callF hf (by decide) hk rfl (by decide) ?_)
  unfold Lib.is_kind Srt.v
  simp only [x_cons, x_nil, x_asg, x_asgT, x_asgS, x_asgA, x_aug, x_ex, x_ret, x_retN, x_if, x_for, x_pass, x_brk, x_cnt, x_try, w_var, w_cst, w_glb, w_tup, w_lst, w_dct0, w_neg, w_bin, w_cmp, w_chain, w_and_, w_or_, w_and1_, w_and2_, w_or1_, w_or2_, w_not, w_ife, w_sub, w_sl1, w_sl2, w_sl3, w_attr, w_call, w_callK, w_new, w_meth, w_cmeth, w_bf, w_bm, w_isi, w_fstr, w_comp, w_dcomp, w_nil, w_cons, w_ie, w_rng, w_enum, w_zip, w_tnil, w_tcons, Fl.go_next, Fl.go_ret, Fl.go_brk, Fl.go_cnt, List.map_cons, List.map_nil, List.cons_append, List.nil_append, List.replicate, List.length_cons, List.length_nil, Nat.sub_self, Nat.reduceSub, Nat.reduceAdd, List.getElem?_cons_zero, List.getElem?_cons_succ, List.set_cons_zero, List.set_cons_succ, setAll, wipeP, Option.some.injEq, exists_eq_left', exists_eq_left, Res.sat_ok, Res.sat_guard, finF_ret, finF_next, finT_ret, finT_next, cTest_nil, cTest_nm, cElt_nm, fBody_nm, t_bl, m_lst, m_ref, m_dct, m_dref, b_add, b_sub, b_mul, b_div, b_mod, b_cat, c_eqI, c_neI, c_ltI, c_leI, c_gtI, c_geI, c_eqS, c_neS, f_int, f_lenL, f_lenT, f_lenS, f_lenC, f_tupL, PV.tup.injEq, PV.lst.injEq, decide_eq_true_eq, decide_eq_false_iff_not, Bool.and_eq_true, Bool.not_eq_true', Bool.not_true, Bool.not_false, true_and, and_true]
  refine ⟨rfl, true, rfl, fun _ => ⟨fun h => absurd h (by decide), fun _ => ?_⟩, fun h => by cases h⟩
  rw [isName_eq hn (by decide) h.nm]
  simp only [x_cons, x_nil, x_asg, x_asgT, x_asgS, x_asgA, x_aug, x_ex, x_ret, x_retN, x_if, x_for, x_pass, x_brk, x_cnt, x_try, w_var, w_cst, w_glb, w_tup, w_lst, w_dct0, w_neg, w_bin, w_cmp, w_chain, w_and_, w_or_, w_and1_, w_and2_, w_or1_, w_or2_, w_not, w_ife, w_sub, w_sl1, w_sl2, w_sl3, w_attr, w_call, w_callK, w_new, w_meth, w_cmeth, w_bf, w_bm, w_isi, w_fstr, w_comp, w_dcomp, w_nil, w_cons, w_ie, w_rng, w_enum, w_zip, w_tnil, w_tcons, Fl.go_next, Fl.go_ret, Fl.go_brk, Fl.go_cnt, List.map_cons, List.map_nil, List.cons_append, List.nil_append, List.replicate, List.length_cons, List.length_nil, Nat.sub_self, Nat.reduceSub, Nat.reduceAdd, List.getElem?_cons_zero, List.getElem?_cons_succ, List.set_cons_zero, List.set_cons_succ, setAll, wipeP, Option.some.injEq, exists_eq_left', exists_eq_left, Res.sat_ok, Res.sat_guard, finF_ret, finF_next, finT_ret, finT_next, cTest_nil, cTest_nm, cElt_nm, fBody_nm, t_bl, m_lst, m_ref, m_dct, m_dref, b_add, b_sub, b_mul, b_div, b_mod, b_cat, c_eqI, c_neI, c_ltI, c_leI, c_gtI, c_geI, c_eqS, c_neS, f_int, f_lenL, f_lenT, f_lenS, f_lenC, f_tupL, PV.tup.injEq, PV.lst.injEq, decide_eq_true_eq, decide_eq_false_iff_not, Bool.and_eq_true, Bool.not_eq_true', Bool.not_true, Bool.not_false, true_and, and_true]
  refine ⟨fun _ => ?_, fun h => by cases h⟩
  rw [between_eq hb hi (by decide) h.w1 h.w6]
  simp only [x_cons, x_nil, x_asg, x_asgT, x_asgS, x_asgA, x_aug, x_ex, x_ret, x_retN, x_if, x_for, x_pass, x_brk, x_cnt, x_try, w_var, w_cst, w_glb, w_tup, w_lst, w_dct0, w_neg, w_bin, w_cmp, w_chain, w_and_, w_or_, w_and1_, w_and2_, w_or1_, w_or2_, w_not, w_ife, w_sub, w_sl1, w_sl2, w_sl3, w_attr, w_call, w_callK, w_new, w_meth, w_cmeth, w_bf, w_bm, w_isi, w_fstr, w_comp, w_dcomp, w_nil, w_cons, w_ie, w_rng, w_enum, w_zip, w_tnil, w_tcons, Fl.go_next, Fl.go_ret, Fl.go_brk, Fl.go_cnt, List.map_cons, List.map_nil, List.cons_append, List.nil_append, List.replicate, List.length_cons, List.length_nil, Nat.sub_self, Nat.reduceSub, Nat.reduceAdd, List.getElem?_cons_zero, List.getElem?_cons_succ, List.set_cons_zero, List.set_cons_succ, setAll, wipeP, Option.some.injEq, exists_eq_left', exists_eq_left, Res.sat_ok, Res.sat_guard, finF_ret, finF_next, finT_ret, finT_next, cTest_nil, cTest_nm, cElt_nm, fBody_nm, t_bl, m_lst, m_ref, m_dct, m_dref, b_add, b_sub, b_mul, b_div, b_mod, b_cat, c_eqI, c_neI, c_ltI, c_leI, c_gtI, c_geI, c_eqS, c_neS, f_int, f_lenL, f_lenT, f_lenS, f_lenC, f_tupL, PV.tup.injEq, PV.lst.injEq, decide_eq_true_eq, decide_eq_false_iff_not, Bool.and_eq_true, Bool.not_eq_true', Bool.not_true, Bool.not_false, true_and, and_true]
  refine ⟨(fun h => by cases h), fun _ => ⟨rfl, true, rfl, fun _ => ⟨fun _ => ?_, fun hh => absurd (show (0 : Int) < (s.row.map nmV).length by rw [List.length_map]; have := h.ne; omega) hh⟩, fun h => by cases h⟩⟩
  refine ⟨_, rfl, ?_⟩
  refine comp_map (fun _ => .bl true) (stay_nil _) (by rw [List.length_map, sizeLine_eq]; have := h.few; omega) (fun y hy => ?_) (fun y hy => ?_) ?_
  · rw [cTest_nil]; exact ⟨rfl, rfl⟩
  · obtain ⟨d, hd, rfl⟩ := List.mem_map.mp hy
    simp only [x_cons, x_nil, x_asg, x_asgT, x_asgS, x_asgA, x_aug, x_ex, x_ret, x_retN, x_if, x_for, x_pass, x_brk, x_cnt, x_try, w_var, w_cst, w_glb, w_tup, w_lst, w_dct0, w_neg, w_bin, w_cmp, w_chain, w_and_, w_or_, w_and1_, w_and2_, w_or1_, w_or2_, w_not, w_ife, w_sub, w_sl1, w_sl2, w_sl3, w_attr, w_call, w_callK, w_new, w_meth, w_cmeth, w_bf, w_bm, w_isi, w_fstr, w_comp, w_dcomp, w_nil, w_cons, w_ie, w_rng, w_enum, w_zip, w_tnil, w_tcons, Fl.go_next, Fl.go_ret, Fl.go_brk, Fl.go_cnt, List.map_cons, List.map_nil, List.cons_append, List.nil_append, List.replicate, List.length_cons, List.length_nil, Nat.sub_self, Nat.reduceSub, Nat.reduceAdd, List.getElem?_cons_zero, List.getElem?_cons_succ, List.set_cons_zero, List.set_cons_succ, setAll, wipeP, Option.some.injEq, exists_eq_left', exists_eq_left, Res.sat_ok, Res.sat_guard, finF_ret, finF_next, finT_ret, finT_next, cTest_nil, cTest_nm, cElt_nm, fBody_nm, t_bl, m_lst, m_ref, m_dct, m_dref, b_add, b_sub, b_mul, b_div, b_mod, b_cat, c_eqI, c_neI, c_ltI, c_leI, c_gtI, c_geI, c_eqS, c_neS, f_int, f_lenL, f_lenT, f_lenS, f_lenC, f_tupL, PV.tup.injEq, PV.lst.injEq, decide_eq_true_eq, decide_eq_false_iff_not, Bool.and_eq_true, Bool.not_eq_true', Bool.not_true, Bool.not_false, true_and, and_true]
    rw [isName_eq hn (by decide) (h.row d hd)]
    exact ⟨rfl, rfl⟩
  · rw [List.map_map, show ((fun _ => PV.bl true) ∘ nmV) = PV.bl ∘ (fun _ : List Nat => true) from rfl, ← List.map_map, f_allL, all_true]
    exact ⟨_, fz_rf rfl, rfl, take_self S⟩
end
end PyI
set_option Elab.async false
set_option linter.all false
set_option maxRecDepth 100000
set_option maxHeartbeats 4000000
/-! LawI: a ruler is made -/
namespace PyI
open PySem PySem.Spec PyProof.Rows
def keyS (s : Srt) : DKey := .s (SX.S s.nm)
def wV (s : Srt) : PV := .int s.w
def rowV (s : Srt) : PV := .tup (s.row.map nmV)
section
variable {G : Tab} {S : Store} {c : Nat → Nat → List PV → Store → Res PV} {n k : Nat} {L : List Srt} {W : List Nat → Int} {q : Int}
theorem key_ne {s : Srt} {x : List Nat} (e : s.nm ≠ x) : ¬ keyS s = .s (SX.S x) := fun z => e (SX.S_inj (DKey.s.inj z))
theorem key_ne2 {s t : Srt} (e : t.nm ≠ s.nm) : ¬ keyS t = keyS s := fun z => e (SX.S_inj (DKey.s.inj z))
theorem kind_keys (L : List Srt) (x : Str) : kindOk (L.map keyS) (.s x) = true := by
  cases L <;> rfl
theorem look_srt {α : Type} (f : Srt → α) : ∀ {L : List Srt} {x : List Nat}, x ∈ L.map (·.nm) → ∃ s ∈ L, s.nm = x ∧ look (L.map keyS) (L.map f) (.s (SX.S x)) = some (f s)
  | [], x, h => by cases h
  | s :: t, x, h => by
    by_cases e : s.nm = x
    · refine ⟨s, List.mem_cons_self, e, ?_⟩
      show (if keyS s = .s (SX.S x) then some (f s) else _) = _
      rw [if_pos (by unfold keyS; rw [e])]
    · have h' : x ∈ t.map (·.nm) := by
        rcases List.mem_cons.mp h with h | h
        · exact absurd h.symm e
        · exact h
      obtain ⟨s', m, e1, e2⟩ := look_srt f h'
      refine ⟨s', List.mem_cons_of_mem _ m, e1, ?_⟩
      show (if keyS s = .s (SX.S x) then some (f s) else look (t.map keyS) (t.map f) _) = _
      rw [if_neg (key_ne e), e2]
theorem look_no {α : Type} (f : Srt → α) : ∀ {L : List Srt} {x : List Nat}, x ∉ L.map (·.nm) → look (L.map keyS) (L.map f) (.s (SX.S x)) = none
  | [], x, h => rfl
  | s :: t, x, h => by
    have e : s.nm ≠ x := fun e => h (by rw [← e]; exact List.mem_cons_self)
    show (if keyS s = .s (SX.S x) then some (f s) else look (t.map keyS) (t.map f) _) = _
    rw [if_neg (key_ne e)]
    exact look_no f fun z => h (List.mem_cons_of_mem _ z)
theorem look_w (g : GoodR q W L) {x : List Nat} (h : x ∈ L.map (·.nm)) : look (L.map keyS) (L.map wV) (.s (SX.S x)) = some (.int (W x)) := by
  obtain ⟨s, m, e1, e2⟩ := look_srt wV h
  rw [e2, ← e1, (g.w s m).1]; rfl
theorem put_ks : ∀ {L : List Srt} {s : Srt}, s.nm ∉ L.map (·.nm) → putKs (L.map keyS) (keyS s) = (L ++ [s]).map keyS
  | [], s, _ => rfl
  | t :: r, s, h => by
    have e : t.nm ≠ s.nm := fun e => h (by rw [← e]; exact List.mem_cons_self)
    show (if keyS t = keyS s then _ else keyS t :: putKs (r.map keyS) (keyS s)) = _
    rw [if_neg (key_ne2 e), put_ks fun z => h (List.mem_cons_of_mem _ z)]
    rfl
theorem put_vs (f : Srt → PV) : ∀ {L : List Srt} {s : Srt}, s.nm ∉ L.map (·.nm) → putVs (L.map keyS) (L.map f) (keyS s) (f s) = (L ++ [s]).map f
  | [], s, _ => rfl
  | t :: r, s, h => by
    have e : t.nm ≠ s.nm := fun e => h (by rw [← e]; exact List.mem_cons_self)
    show (if keyS t = keyS s then _ else f t :: putVs (r.map keyS) (r.map f) (keyS s) (f s)) = _
    rw [if_neg (key_ne2 e), put_vs f fun z => h (List.mem_cons_of_mem _ z)]
    rfl
/-! ### dicts in the store -/
theorem d_in {m : Nat} {x : List Nat} (h : S[m]? = some (.dct (L.map keyS) (L.map wV))) : cmpR G c .In (nmV x) (.ref m) S = .ok (decide (x ∈ L.map (·.nm))) S := by
  have : cmpD .In (nmV x) (.ref m) S = some (decide (x ∈ L.map (·.nm))) := by
    unfold cmpD isInG dictOf
    simp only [h]
    show ((lookD (L.map keyS) (L.map wV) (.s (SX.S x))).map Option.isSome) = _
    unfold lookD
    rw [if_pos (kind_keys L _)]
    by_cases hx : x ∈ L.map (·.nm)
    · obtain ⟨s, _, _, e⟩ := look_srt wV hx
      rw [e, decide_eq_true hx]; rfl
    · rw [look_no wV hx, decide_eq_false hx]; rfl
  show ofO (cmpD .In (nmV x) (.ref m) S) S = _
  rw [this]; rfl
theorem d_get (g : GoodR q W L) {m : Nat} {x : List Nat} (h : S[m]? = some (.dct (L.map keyS) (L.map wV))) (hx : x ∈ L.map (·.nm)) : getIx (.ref m) (nmV x) S = some (.int (W x)) := by
  unfold getIx dictOf
  simp only [h]
  show ((lookD (L.map keyS) (L.map wV) (.s (SX.S x))).bind id) = _
  unfold lookD
  rw [if_pos (kind_keys L _), look_w g hx]; rfl
theorem fills_eq {f : Nat} (hf : G.fns[f]? = some ⟨4, 5, Lib.fills, 1, false⟩) (hk : 1 ≤ k) (g : GoodR q W L) {m : Nat} (h : S[m]? = some (.dct (L.map keyS) (L.map wV))) {s : Srt} (hs : s ∈ L) : callN G k f S.length [.int q, .ref m, .int s.w, .tup (s.row.map nmV)] S = .ok (.bl true) S := by
  obtain ⟨r1, r2, r3⟩ := g.row s hs
  refine Res.sat_eq (callF hf (by decide) hk rfl (by decide) ?_)
  unfold Lib.fills
  simp only [x_cons, x_nil, x_asg, x_asgT, x_asgS, x_asgA, x_aug, x_ex, x_ret, x_retN, x_if, x_for, x_pass, x_brk, x_cnt, x_try, w_var, w_cst, w_glb, w_tup, w_lst, w_dct0, w_neg, w_bin, w_cmp, w_chain, w_and_, w_or_, w_and1_, w_and2_, w_or1_, w_or2_, w_not, w_ife, w_sub, w_sl1, w_sl2, w_sl3, w_attr, w_call, w_callK, w_new, w_meth, w_cmeth, w_bf, w_bm, w_isi, w_fstr, w_comp, w_dcomp, w_nil, w_cons, w_ie, w_rng, w_enum, w_zip, w_tnil, w_tcons, Fl.go_next, Fl.go_ret, Fl.go_brk, Fl.go_cnt, List.map_cons, List.map_nil, List.cons_append, List.nil_append, List.replicate, List.length_cons, List.length_nil, Nat.sub_self, Nat.reduceSub, Nat.reduceAdd, List.getElem?_cons_zero, List.getElem?_cons_succ, List.set_cons_zero, List.set_cons_succ, setAll, wipeP, Option.some.injEq, exists_eq_left', exists_eq_left, Res.sat_ok, Res.sat_guard, finF_ret, finF_next, finT_ret, finT_next, cTest_nil, cTest_nm, cElt_nm, fBody_nm, t_bl, m_lst, m_ref, m_dct, m_dref, b_add, b_sub, b_mul, b_div, b_mod, b_cat, c_eqI, c_neI, c_ltI, c_leI, c_gtI, c_geI, c_eqS, c_neS, f_int, f_lenL, f_lenT, f_lenS, f_lenC, f_tupL, PV.tup.injEq, PV.lst.injEq, decide_eq_true_eq, decide_eq_false_iff_not, Bool.and_eq_true, Bool.not_eq_true', Bool.not_true, Bool.not_false, true_and, and_true]
  refine ⟨_, rfl, ?_⟩
  refine comp_map (fun _ => .bl true) (stay_nil _) (by rw [List.length_map, sizeLine_eq]; omega) (fun y hy => ?_) (fun y hy => ?_) ?_
  · rw [cTest_nil]; exact ⟨rfl, rfl⟩
  · obtain ⟨d, hd, rfl⟩ := List.mem_map.mp hy
    simp only [x_cons, x_nil, x_asg, x_asgT, x_asgS, x_asgA, x_aug, x_ex, x_ret, x_retN, x_if, x_for, x_pass, x_brk, x_cnt, x_try, w_var, w_cst, w_glb, w_tup, w_lst, w_dct0, w_neg, w_bin, w_cmp, w_chain, w_and_, w_or_, w_and1_, w_and2_, w_or1_, w_or2_, w_not, w_ife, w_sub, w_sl1, w_sl2, w_sl3, w_attr, w_call, w_callK, w_new, w_meth, w_cmeth, w_bf, w_bm, w_isi, w_fstr, w_comp, w_dcomp, w_nil, w_cons, w_ie, w_rng, w_enum, w_zip, w_tnil, w_tcons, Fl.go_next, Fl.go_ret, Fl.go_brk, Fl.go_cnt, List.map_cons, List.map_nil, List.cons_append, List.nil_append, List.replicate, List.length_cons, List.length_nil, Nat.sub_self, Nat.reduceSub, Nat.reduceAdd, List.getElem?_cons_zero, List.getElem?_cons_succ, List.set_cons_zero, List.set_cons_succ, setAll, wipeP, Option.some.injEq, exists_eq_left', exists_eq_left, Res.sat_ok, Res.sat_guard, finF_ret, finF_next, finT_ret, finT_next, cTest_nil, cTest_nm, cElt_nm, fBody_nm, t_bl, m_lst, m_ref, m_dct, m_dref, b_add, b_sub, b_mul, b_div, b_mod, b_cat, c_eqI, c_neI, c_ltI, c_leI, c_gtI, c_geI, c_eqS, c_neS, f_int, f_lenL, f_lenT, f_lenS, f_lenC, f_tupL, PV.tup.injEq, PV.lst.injEq, decide_eq_true_eq, decide_eq_false_iff_not, Bool.and_eq_true, Bool.not_eq_true', Bool.not_true, Bool.not_false, true_and, and_true]
    rw [d_in h, decide_eq_true (r1 d hd)]
    exact ⟨rfl, rfl⟩
  · rw [List.map_map, show ((fun _ => PV.bl true) ∘ nmV) = PV.bl ∘ (fun _ : List Nat => true) from rfl, ← List.map_map, f_allL, all_true]
    simp only [x_cons, x_nil, x_asg, x_asgT, x_asgS, x_asgA, x_aug, x_ex, x_ret, x_retN, x_if, x_for, x_pass, x_brk, x_cnt, x_try, w_var, w_cst, w_glb, w_tup, w_lst, w_dct0, w_neg, w_bin, w_cmp, w_chain, w_and_, w_or_, w_and1_, w_and2_, w_or1_, w_or2_, w_not, w_ife, w_sub, w_sl1, w_sl2, w_sl3, w_attr, w_call, w_callK, w_new, w_meth, w_cmeth, w_bf, w_bm, w_isi, w_fstr, w_comp, w_dcomp, w_nil, w_cons, w_ie, w_rng, w_enum, w_zip, w_tnil, w_tcons, Fl.go_next, Fl.go_ret, Fl.go_brk, Fl.go_cnt, List.map_cons, List.map_nil, List.cons_append, List.nil_append, List.replicate, List.length_cons, List.length_nil, Nat.sub_self, Nat.reduceSub, Nat.reduceAdd, List.getElem?_cons_zero, List.getElem?_cons_succ, List.set_cons_zero, List.set_cons_succ, setAll, wipeP, Option.some.injEq, exists_eq_left', exists_eq_left, Res.sat_ok, Res.sat_guard, finF_ret, finF_next, finT_ret, finT_next, cTest_nil, cTest_nm, cElt_nm, fBody_nm, t_bl, m_lst, m_ref, m_dct, m_dref, b_add, b_sub, b_mul, b_div, b_mod, b_cat, c_eqI, c_neI, c_ltI, c_leI, c_gtI, c_geI, c_eqS, c_neS, f_int, f_lenL, f_lenT, f_lenS, f_lenC, f_tupL, PV.tup.injEq, PV.lst.injEq, decide_eq_true_eq, decide_eq_false_iff_not, Bool.and_eq_true, Bool.not_eq_true', Bool.not_true, Bool.not_false, true_and, and_true]
    refine ⟨(fun h => by cases h), fun _ => ⟨_, rfl, ?_⟩⟩
    refine comp_map (fun v => match v with
      | .str y => .int (W y.cps.toList)
      | _ => .non) (stay_nil _) (by rw [List.length_map, sizeLine_eq]; omega) (fun y hy => ?_) (fun y hy => ?_) ?_
    · rw [cTest_nil]; exact ⟨rfl, rfl⟩
    · obtain ⟨d, hd, rfl⟩ := List.mem_map.mp hy
      simp only [x_cons, x_nil, x_asg, x_asgT, x_asgS, x_asgA, x_aug, x_ex, x_ret, x_retN, x_if, x_for, x_pass, x_brk, x_cnt, x_try, w_var, w_cst, w_glb, w_tup, w_lst, w_dct0, w_neg, w_bin, w_cmp, w_chain, w_and_, w_or_, w_and1_, w_and2_, w_or1_, w_or2_, w_not, w_ife, w_sub, w_sl1, w_sl2, w_sl3, w_attr, w_call, w_callK, w_new, w_meth, w_cmeth, w_bf, w_bm, w_isi, w_fstr, w_comp, w_dcomp, w_nil, w_cons, w_ie, w_rng, w_enum, w_zip, w_tnil, w_tcons, Fl.go_next, Fl.go_ret, Fl.go_brk, Fl.go_cnt, List.map_cons, List.map_nil, List.cons_append, List.nil_append, List.replicate, List.length_cons, List.length_nil, Nat.sub_self, Nat.reduceSub, Nat.reduceAdd, List.getElem?_cons_zero, List.getElem?_cons_succ, List.set_cons_zero, List.set_cons_succ, setAll, wipeP, Option.some.injEq, exists_eq_left', exists_eq_left, Res.sat_ok, Res.sat_guard, finF_ret, finF_next, finT_ret, finT_next, cTest_nil, cTest_nm, cElt_nm, fBody_nm, t_bl, m_lst, m_ref, m_dct, m_dref, b_add, b_sub, b_mul, b_div, b_mod, b_cat, c_eqI, c_neI, c_ltI, c_leI, c_gtI, c_geI, c_eqS, c_neS, f_int, f_lenL, f_lenT, f_lenS, f_lenC, f_tupL, PV.tup.injEq, PV.lst.injEq, decide_eq_true_eq, decide_eq_false_iff_not, Bool.and_eq_true, Bool.not_eq_true', Bool.not_true, Bool.not_false, true_and, and_true]
      exact ⟨_, d_get g h (r1 d hd), rfl⟩
    · rw [List.map_map, show ((fun v : PV => match v with
        | .str y => .int (W y.cps.toList)
        | _ => .non) ∘ nmV) = PV.int ∘ W from rfl, ← List.map_map, f_sumL]
      simp only [x_cons, x_nil, x_asg, x_asgT, x_asgS, x_asgA, x_aug, x_ex, x_ret, x_retN, x_if, x_for, x_pass, x_brk, x_cnt, x_try, w_var, w_cst, w_glb, w_tup, w_lst, w_dct0, w_neg, w_bin, w_cmp, w_chain, w_and_, w_or_, w_and1_, w_and2_, w_or1_, w_or2_, w_not, w_ife, w_sub, w_sl1, w_sl2, w_sl3, w_attr, w_call, w_callK, w_new, w_meth, w_cmeth, w_bf, w_bm, w_isi, w_fstr, w_comp, w_dcomp, w_nil, w_cons, w_ie, w_rng, w_enum, w_zip, w_tnil, w_tcons, Fl.go_next, Fl.go_ret, Fl.go_brk, Fl.go_cnt, List.map_cons, List.map_nil, List.cons_append, List.nil_append, List.replicate, List.length_cons, List.length_nil, Nat.sub_self, Nat.reduceSub, Nat.reduceAdd, List.getElem?_cons_zero, List.getElem?_cons_succ, List.set_cons_zero, List.set_cons_succ, setAll, wipeP, Option.some.injEq, exists_eq_left', exists_eq_left, Res.sat_ok, Res.sat_guard, finF_ret, finF_next, finT_ret, finT_next, cTest_nil, cTest_nm, cElt_nm, fBody_nm, t_bl, m_lst, m_ref, m_dct, m_dref, b_add, b_sub, b_mul, b_div, b_mod, b_cat, c_eqI, c_neI, c_ltI, c_leI, c_gtI, c_geI, c_eqS, c_neS, f_int, f_lenL, f_lenT, f_lenS, f_lenC, f_tupL, PV.tup.injEq, PV.lst.injEq, decide_eq_true_eq, decide_eq_false_iff_not, Bool.and_eq_true, Bool.not_eq_true', Bool.not_true, Bool.not_false, true_and, and_true]
      exact ⟨mulOk_l (by have := g.q2; have := g.q9; omega), _, fz_rf rfl, by rw [r2, decide_eq_true rfl], take_self S⟩
theorem sok (g : GoodR q W L) {s : Srt} (hs : s ∈ L) : SOk s := by
  obtain ⟨r1, r2, r3⟩ := g.row s hs
  obtain ⟨w1, w2, w3⟩ := g.w s hs
  refine ⟨g.nm s hs, w2, w3, Nat.pos_of_ne_zero fun z => ?_, r3, fun x hx => ?_⟩
  · rw [List.length_eq_zero_iff] at z
    rw [z] at r2
    have := g.q2
    have : 0 < q * s.w := Int.mul_pos (by omega) (by omega)
    have r2' : (0 : Int) = q * s.w := r2
    omega
  · obtain ⟨t, ht, rfl⟩ := List.mem_map.mp (r1 x hx)
    exact g.nm t ht
theorem enum_at {xs : List PV} {j : Nat} {x : PV} (h : (enumFrom 0 xs)[j]? = some x) : ∃ y, xs[j]? = some y ∧ x = .tup [.int (j : Int), y] := by
  rw [enumFrom_get, Option.map_eq_some_iff] at h
  obtain ⟨y, h1, h2⟩ := h
  exact ⟨y, h1, by rw [← h2, Nat.zero_add]⟩
theorem checkKinds_eq {f ff fk fb fn fi : Nat} (hf : G.fns[f]? = some ⟨2, 5, Lib.check_kinds ff fk, 4, false⟩) (hff : G.fns[ff]? = some ⟨4, 5, Lib.fills, 1, false⟩) (hfk : G.fns[fk]? = some ⟨1, 5, Lib.is_kind fb fn, 3, false⟩) (hb : G.fns[fb]? = some ⟨3, 3, Lib.is_between fi, 2, false⟩)
    (hi : G.fns[fi]? = some ⟨1, 1, Lib.is_integer, 1, false⟩) (hn : G.fns[fn]? = some ⟨1, 2, Lib.is_name, 1, false⟩) (hk : 4 ≤ k) (g : GoodR q W L) : callN G k f S.length [.int q, .tup (L.map Srt.v)] S = .ok .non S := by
  refine Res.sat_eq (callF hf (by decide) hk rfl (by decide) ?_)
  unfold Lib.check_kinds
  simp only [x_cons, x_nil, x_asg, x_asgT, x_asgS, x_asgA, x_aug, x_ex, x_ret, x_retN, x_if, x_for, x_pass, x_brk, x_cnt, x_try, w_var, w_cst, w_glb, w_tup, w_lst, w_dct0, w_neg, w_bin, w_cmp, w_chain, w_and_, w_or_, w_and1_, w_and2_, w_or1_, w_or2_, w_not, w_ife, w_sub, w_sl1, w_sl2, w_sl3, w_attr, w_call, w_callK, w_new, w_meth, w_cmeth, w_bf, w_bm, w_isi, w_fstr, w_comp, w_dcomp, w_nil, w_cons, w_ie, w_rng, w_enum, w_zip, w_tnil, w_tcons, Fl.go_next, Fl.go_ret, Fl.go_brk, Fl.go_cnt, List.map_cons, List.map_nil, List.cons_append, List.nil_append, List.replicate, List.length_cons, List.length_nil, Nat.sub_self, Nat.reduceSub, Nat.reduceAdd, List.getElem?_cons_zero, List.getElem?_cons_succ, List.set_cons_zero, List.set_cons_succ, setAll, wipeP, Option.some.injEq, exists_eq_left', exists_eq_left, Res.sat_ok, Res.sat_guard, finF_ret, finF_next, finT_ret, finT_next, cTest_nil, cTest_nm, cElt_nm, fBody_nm, t_bl, m_lst, m_ref, m_dct, m_dref, b_add, b_sub, b_mul, b_div, b_mod, b_cat, c_eqI, c_neI, c_ltI, c_leI, c_gtI, c_geI, c_eqS, c_neS, f_int, f_lenL, f_lenT, f_lenS, f_lenC, f_tupL, PV.tup.injEq, PV.lst.injEq, decide_eq_true_eq, decide_eq_false_iff_not, Bool.and_eq_true, Bool.not_eq_true', Bool.not_true, Bool.not_false, true_and, and_true]
  have g0 := g.ne
  have g5 := g.few
  rw [List.length_map]
  refine ⟨rfl, true, rfl, (fun _ => ⟨fun h => absurd h (by omega), fun _ => ?_⟩), (fun h => by cases h)⟩
  refine ⟨_, rfl, ?_⟩
  have here : ∀ o : PO, (S ++ [o])[S.length]? = some o := fun o => by simp
  have elen : (enumFrom 0 (L.map Srt.v)).length = L.length := by rw [enumFrom_length, List.length_map]
  have at_ : ∀ j, (h : j < L.length) → (L.map Srt.v)[j]? = some (L[j]).v := fun j h => by rw [List.getElem?_map, List.getElem?_eq_getElem h]; rfl
  refine for_inv (k := 0) (fun j ps S' => S' = S ++ [.dct ((L.take j).map keyS) ((L.take j).map wV)] ∧ ∃ v3 v4 : Option PV, ps = [some (.int q), some (.tup (L.map Srt.v)), some (.ref S.length), v3, v4]) ⟨by simp, _, _, rfl⟩ (fun _ _ _ _ => stay_nil _) (fun j x ps S' ex h => ?_) fun ps S' h => ?_
  · obtain ⟨rfl, v3, v4, rfl⟩ := h
    have hj := (List.getElem?_eq_some_iff.mp ex).1
    have hj : j < L.length := by
      have e2 : (enumFrom 0 (L.map Srt.v)).length = L.length := elen
      rw [e2] at hj; exact hj
    obtain ⟨y, e1, rfl⟩ := enum_at ex
    rw [at_ j hj] at e1
    obtain rfl : (L[j]).v = y := Option.some.inj e1
    have hs := List.getElem_mem hj
    rw [fBody_tp _ _ _ rfl]
    simp only [x_cons, x_nil, x_asg, x_asgT, x_asgS, x_asgA, x_aug, x_ex, x_ret, x_retN, x_if, x_for, x_pass, x_brk, x_cnt, x_try, w_var, w_cst, w_glb, w_tup, w_lst, w_dct0, w_neg, w_bin, w_cmp, w_chain, w_and_, w_or_, w_and1_, w_and2_, w_or1_, w_or2_, w_not, w_ife, w_sub, w_sl1, w_sl2, w_sl3, w_attr, w_call, w_callK, w_new, w_meth, w_cmeth, w_bf, w_bm, w_isi, w_fstr, w_comp, w_dcomp, w_nil, w_cons, w_ie, w_rng, w_enum, w_zip, w_tnil, w_tcons, Fl.go_next, Fl.go_ret, Fl.go_brk, Fl.go_cnt, List.map_cons, List.map_nil, List.cons_append, List.nil_append, List.replicate, List.length_cons, List.length_nil, Nat.sub_self, Nat.reduceSub, Nat.reduceAdd, List.getElem?_cons_zero, List.getElem?_cons_succ, List.set_cons_zero, List.set_cons_succ, setAll, wipeP, Option.some.injEq, exists_eq_left', exists_eq_left, Res.sat_ok, Res.sat_guard, finF_ret, finF_next, finT_ret, finT_next, cTest_nil, cTest_nm, cElt_nm, fBody_nm, t_bl, m_lst, m_ref, m_dct, m_dref, b_add, b_sub, b_mul, b_div, b_mod, b_cat, c_eqI, c_neI, c_ltI, c_leI, c_gtI, c_geI, c_eqS, c_neS, f_int, f_lenL, f_lenT, f_lenS, f_lenC, f_tupL, PV.tup.injEq, PV.lst.injEq, decide_eq_true_eq, decide_eq_false_iff_not, Bool.and_eq_true, Bool.not_eq_true', Bool.not_true, Bool.not_false, true_and, and_true]
    refine ⟨(fun _ => ?_), fun h => absurd h (by omega)⟩
    rw [isKind_eq hfk hb hi hn (by decide) (sok g hs)]
    simp only [x_cons, x_nil, x_asg, x_asgT, x_asgS, x_asgA, x_aug, x_ex, x_ret, x_retN, x_if, x_for, x_pass, x_brk, x_cnt, x_try, w_var, w_cst, w_glb, w_tup, w_lst, w_dct0, w_neg, w_bin, w_cmp, w_chain, w_and_, w_or_, w_and1_, w_and2_, w_or1_, w_or2_, w_not, w_ife, w_sub, w_sl1, w_sl2, w_sl3, w_attr, w_call, w_callK, w_new, w_meth, w_cmeth, w_bf, w_bm, w_isi, w_fstr, w_comp, w_dcomp, w_nil, w_cons, w_ie, w_rng, w_enum, w_zip, w_tnil, w_tcons, Fl.go_next, Fl.go_ret, Fl.go_brk, Fl.go_cnt, List.map_cons, List.map_nil, List.cons_append, List.nil_append, List.replicate, List.length_cons, List.length_nil, Nat.sub_self, Nat.reduceSub, Nat.reduceAdd, List.getElem?_cons_zero, List.getElem?_cons_succ, List.set_cons_zero, List.set_cons_succ, setAll, wipeP, Option.some.injEq, exists_eq_left', exists_eq_left, Res.sat_ok, Res.sat_guard, finF_ret, finF_next, finT_ret, finT_next, cTest_nil, cTest_nm, cElt_nm, fBody_nm, t_bl, m_lst, m_ref, m_dct, m_dref, b_add, b_sub, b_mul, b_div, b_mod, b_cat, c_eqI, c_neI, c_ltI, c_leI, c_gtI, c_geI, c_eqS, c_neS, f_int, f_lenL, f_lenT, f_lenS, f_lenC, f_tupL, PV.tup.injEq, PV.lst.injEq, decide_eq_true_eq, decide_eq_false_iff_not, Bool.and_eq_true, Bool.not_eq_true', Bool.not_true, Bool.not_false, true_and, and_true]
    refine ⟨(fun _ => ?_), fun h => by cases h⟩
    have nin : (L[j]).nm ∉ (L.take (0 + j)).map (·.nm) := by
      rw [Nat.zero_add]
      intro z
      have nd := g.nd
      rw [← List.take_append_drop j L, List.map_append, List.nodup_append] at nd
      refine nd.2.2 _ z (L[j]).nm ?_ rfl
      rw [List.drop_eq_getElem_cons hj]
      exact List.mem_cons_self
    refine ⟨nmV (L[j]).nm, by unfold Srt.v; rw [g_tup]; exact at0, ?_⟩
    rw [d_in (here _), decide_eq_false nin]
    simp only [x_cons, x_nil, x_asg, x_asgT, x_asgS, x_asgA, x_aug, x_ex, x_ret, x_retN, x_if, x_for, x_pass, x_brk, x_cnt, x_try, w_var, w_cst, w_glb, w_tup, w_lst, w_dct0, w_neg, w_bin, w_cmp, w_chain, w_and_, w_or_, w_and1_, w_and2_, w_or1_, w_or2_, w_not, w_ife, w_sub, w_sl1, w_sl2, w_sl3, w_attr, w_call, w_callK, w_new, w_meth, w_cmeth, w_bf, w_bm, w_isi, w_fstr, w_comp, w_dcomp, w_nil, w_cons, w_ie, w_rng, w_enum, w_zip, w_tnil, w_tcons, Fl.go_next, Fl.go_ret, Fl.go_brk, Fl.go_cnt, List.map_cons, List.map_nil, List.cons_append, List.nil_append, List.replicate, List.length_cons, List.length_nil, Nat.sub_self, Nat.reduceSub, Nat.reduceAdd, List.getElem?_cons_zero, List.getElem?_cons_succ, List.set_cons_zero, List.set_cons_succ, setAll, wipeP, Option.some.injEq, exists_eq_left', exists_eq_left, Res.sat_ok, Res.sat_guard, finF_ret, finF_next, finT_ret, finT_next, cTest_nil, cTest_nm, cElt_nm, fBody_nm, t_bl, m_lst, m_ref, m_dct, m_dref, b_add, b_sub, b_mul, b_div, b_mod, b_cat, c_eqI, c_neI, c_ltI, c_leI, c_gtI, c_geI, c_eqS, c_neS, f_int, f_lenL, f_lenT, f_lenS, f_lenC, f_tupL, PV.tup.injEq, PV.lst.injEq, decide_eq_true_eq, decide_eq_false_iff_not, Bool.and_eq_true, Bool.not_eq_true', Bool.not_true, Bool.not_false, true_and, and_true]
    refine ⟨(fun h => by cases h), fun _ => ⟨wV L[j], by unfold Srt.v; rw [g_tup]; exact at1, nmV (L[j]).nm, by unfold Srt.v; rw [g_tup]; exact at0, S ++ [.dct ((L.take (j + 1)).map keyS) ((L.take (j + 1)).map wV)], ?_, by rw [Nat.zero_add], _, _, rfl⟩⟩
    unfold setIx
    simp only [here]
    rw [if_pos (by rw [Bool.or_eq_true]; exact .inl (decide_eq_true (Nat.le_refl _)))]
    show (if (decide (((L.take (0 + j)).map keyS).length < sizeLine) && kindOk ((L.take (0 + j)).map keyS) (keyS L[j])) = true then some ((S ++ [_]).set S.length (.dct (putKs _ (keyS L[j])) (putVs _ _ (keyS L[j]) (wV L[j])))) else none) = _
    rw [if_pos (by rw [Bool.and_eq_true, decide_eq_true_eq]; exact ⟨by rw [List.length_map, List.length_take, sizeLine_eq]; omega, kind_keys _ _⟩), put_ks nin, put_vs wV nin, List.set_append_right _ _ (Nat.le_refl _), Nat.sub_self, Nat.zero_add]
    rw [List.take_add_one, List.getElem?_eq_getElem hj]
    rfl
  · obtain ⟨rfl, v3, v4, rfl⟩ := h
    have e2 : (enumFrom 0 (L.map Srt.v)).length = L.length := elen
    rw [show (0 + ({ xs := enumFrom 0 (L.map Srt.v), ls := [] } : Walked).xs.length) = L.length by show 0 + (enumFrom 0 (L.map Srt.v)).length = _; rw [e2, Nat.zero_add], List.take_of_length_le (Nat.le_refl _)]
    simp only [x_cons, x_nil, x_asg, x_asgT, x_asgS, x_asgA, x_aug, x_ex, x_ret, x_retN, x_if, x_for, x_pass, x_brk, x_cnt, x_try, w_var, w_cst, w_glb, w_tup, w_lst, w_dct0, w_neg, w_bin, w_cmp, w_chain, w_and_, w_or_, w_and1_, w_and2_, w_or1_, w_or2_, w_not, w_ife, w_sub, w_sl1, w_sl2, w_sl3, w_attr, w_call, w_callK, w_new, w_meth, w_cmeth, w_bf, w_bm, w_isi, w_fstr, w_comp, w_dcomp, w_nil, w_cons, w_ie, w_rng, w_enum, w_zip, w_tnil, w_tcons, Fl.go_next, Fl.go_ret, Fl.go_brk, Fl.go_cnt, List.map_cons, List.map_nil, List.cons_append, List.nil_append, List.replicate, List.length_cons, List.length_nil, Nat.sub_self, Nat.reduceSub, Nat.reduceAdd, List.getElem?_cons_zero, List.getElem?_cons_succ, List.set_cons_zero, List.set_cons_succ, setAll, wipeP, Option.some.injEq, exists_eq_left', exists_eq_left, Res.sat_ok, Res.sat_guard, finF_ret, finF_next, finT_ret, finT_next, cTest_nil, cTest_nm, cElt_nm, fBody_nm, t_bl, m_lst, m_ref, m_dct, m_dref, b_add, b_sub, b_mul, b_div, b_mod, b_cat, c_eqI, c_neI, c_ltI, c_leI, c_gtI, c_geI, c_eqS, c_neS, f_int, f_lenL, f_lenT, f_lenS, f_lenC, f_tupL, PV.tup.injEq, PV.lst.injEq, decide_eq_true_eq, decide_eq_false_iff_not, Bool.and_eq_true, Bool.not_eq_true', Bool.not_true, Bool.not_false, true_and, and_true]
    refine ⟨_, rfl, ?_⟩
    refine for_inv (k := 0) (fun j ps S' => S' = S ++ [.dct (L.map keyS) (L.map wV)] ∧ ∃ v3 v4 : Option PV, ps = [some (.int q), some (.tup (L.map Srt.v)), some (.ref S.length), v3, v4]) ⟨rfl, _, _, rfl⟩ (fun _ _ _ _ => stay_nil _) (fun j x ps S' ex h => ?_) fun ps S' h => ?_
    · obtain ⟨rfl, v3, v4, rfl⟩ := h
      have hj := (List.getElem?_eq_some_iff.mp ex).1
      have hj : j < L.length := by
        rw [show ({ xs := enumFrom 0 (L.map Srt.v), ls := [] } : Walked).xs.length = L.length from e2] at hj; exact hj
      obtain ⟨y, e1, rfl⟩ := enum_at ex
      rw [at_ j hj] at e1
      obtain rfl : (L[j]).v = y := Option.some.inj e1
      have hs := List.getElem_mem hj
      rw [fBody_tp _ _ _ rfl]
      simp only [x_cons, x_nil, x_asg, x_asgT, x_asgS, x_asgA, x_aug, x_ex, x_ret, x_retN, x_if, x_for, x_pass, x_brk, x_cnt, x_try, w_var, w_cst, w_glb, w_tup, w_lst, w_dct0, w_neg, w_bin, w_cmp, w_chain, w_and_, w_or_, w_and1_, w_and2_, w_or1_, w_or2_, w_not, w_ife, w_sub, w_sl1, w_sl2, w_sl3, w_attr, w_call, w_callK, w_new, w_meth, w_cmeth, w_bf, w_bm, w_isi, w_fstr, w_comp, w_dcomp, w_nil, w_cons, w_ie, w_rng, w_enum, w_zip, w_tnil, w_tcons, Fl.go_next, Fl.go_ret, Fl.go_brk, Fl.go_cnt, List.map_cons, List.map_nil, List.cons_append, List.nil_append, List.replicate, List.length_cons, List.length_nil, Nat.sub_self, Nat.reduceSub, Nat.reduceAdd, List.getElem?_cons_zero, List.getElem?_cons_succ, List.set_cons_zero, List.set_cons_succ, setAll, wipeP, Option.some.injEq, exists_eq_left', exists_eq_left, Res.sat_ok, Res.sat_guard, finF_ret, finF_next, finT_ret, finT_next, cTest_nil, cTest_nm, cElt_nm, fBody_nm, t_bl, m_lst, m_ref, m_dct, m_dref, b_add, b_sub, b_mul, b_div, b_mod, b_cat, c_eqI, c_neI, c_ltI, c_leI, c_gtI, c_geI, c_eqS, c_neS, f_int, f_lenL, f_lenT, f_lenS, f_lenC, f_tupL, PV.tup.injEq, PV.lst.injEq, decide_eq_true_eq, decide_eq_false_iff_not, Bool.and_eq_true, Bool.not_eq_true', Bool.not_true, Bool.not_false, true_and, and_true]
      refine ⟨wV L[j], by unfold Srt.v; rw [g_tup]; exact at1, rowV L[j], by unfold Srt.v; rw [g_tup]; exact at2, ?_⟩
      rw [show ([PV.int q, PV.ref S.length, wV L[j], rowV L[j]] : List PV) = [.int q, .ref S.length, .int (L[j]).w, .tup ((L[j]).row.map nmV)] from rfl, fills_eq hff (by decide) g (here _) hs]
      simp only [x_cons, x_nil, x_asg, x_asgT, x_asgS, x_asgA, x_aug, x_ex, x_ret, x_retN, x_if, x_for, x_pass, x_brk, x_cnt, x_try, w_var, w_cst, w_glb, w_tup, w_lst, w_dct0, w_neg, w_bin, w_cmp, w_chain, w_and_, w_or_, w_and1_, w_and2_, w_or1_, w_or2_, w_not, w_ife, w_sub, w_sl1, w_sl2, w_sl3, w_attr, w_call, w_callK, w_new, w_meth, w_cmeth, w_bf, w_bm, w_isi, w_fstr, w_comp, w_dcomp, w_nil, w_cons, w_ie, w_rng, w_enum, w_zip, w_tnil, w_tcons, Fl.go_next, Fl.go_ret, Fl.go_brk, Fl.go_cnt, List.map_cons, List.map_nil, List.cons_append, List.nil_append, List.replicate, List.length_cons, List.length_nil, Nat.sub_self, Nat.reduceSub, Nat.reduceAdd, List.getElem?_cons_zero, List.getElem?_cons_succ, List.set_cons_zero, List.set_cons_succ, setAll, wipeP, Option.some.injEq, exists_eq_left', exists_eq_left, Res.sat_ok, Res.sat_guard, finF_ret, finF_next, finT_ret, finT_next, cTest_nil, cTest_nm, cElt_nm, fBody_nm, t_bl, m_lst, m_ref, m_dct, m_dref, b_add, b_sub, b_mul, b_div, b_mod, b_cat, c_eqI, c_neI, c_ltI, c_leI, c_gtI, c_geI, c_eqS, c_neS, f_int, f_lenL, f_lenT, f_lenS, f_lenC, f_tupL, PV.tup.injEq, PV.lst.injEq, decide_eq_true_eq, decide_eq_false_iff_not, Bool.and_eq_true, Bool.not_eq_true', Bool.not_true, Bool.not_false, true_and, and_true]
      exact ⟨(fun h => by cases h), fun _ => ⟨_, _, rfl⟩⟩
    · obtain ⟨rfl, v3, v4, rfl⟩ := h
      simp only [x_cons, x_nil, x_asg, x_asgT, x_asgS, x_asgA, x_aug, x_ex, x_ret, x_retN, x_if, x_for, x_pass, x_brk, x_cnt, x_try, w_var, w_cst, w_glb, w_tup, w_lst, w_dct0, w_neg, w_bin, w_cmp, w_chain, w_and_, w_or_, w_and1_, w_and2_, w_or1_, w_or2_, w_not, w_ife, w_sub, w_sl1, w_sl2, w_sl3, w_attr, w_call, w_callK, w_new, w_meth, w_cmeth, w_bf, w_bm, w_isi, w_fstr, w_comp, w_dcomp, w_nil, w_cons, w_ie, w_rng, w_enum, w_zip, w_tnil, w_tcons, Fl.go_next, Fl.go_ret, Fl.go_brk, Fl.go_cnt, List.map_cons, List.map_nil, List.cons_append, List.nil_append, List.replicate, List.length_cons, List.length_nil, Nat.sub_self, Nat.reduceSub, Nat.reduceAdd, List.getElem?_cons_zero, List.getElem?_cons_succ, List.set_cons_zero, List.set_cons_succ, setAll, wipeP, Option.some.injEq, exists_eq_left', exists_eq_left, Res.sat_ok, Res.sat_guard, finF_ret, finF_next, finT_ret, finT_next, cTest_nil, cTest_nm, cElt_nm, fBody_nm, t_bl, m_lst, m_ref, m_dct, m_dref, b_add, b_sub, b_mul, b_div, b_mod, b_cat, c_eqI, c_neI, c_ltI, c_leI, c_gtI, c_geI, c_eqS, c_neS, f_int, f_lenL, f_lenT, f_lenS, f_lenC, f_tupL, PV.tup.injEq, PV.lst.injEq, decide_eq_true_eq, decide_eq_false_iff_not, Bool.and_eq_true, Bool.not_eq_true', Bool.not_true, Bool.not_false, true_and, and_true]
      simp
end
end PyI
set_option Elab.async false
set_option linter.all false
set_option maxRecDepth 100000
set_option maxHeartbeats 4000000
/-! LawJ: a ruler answers -/
namespace PyI
open PySem PySem.Spec PyProof.Rows
theorem callB {G : Tab} {f k np nl lv b : Nat} {body : ISs} {vs : List PV} {S : Store} {P : PV → Store → Prop} (hd : G.fns[f]? = some ⟨np, nl, body, lv, true⟩) (h1 : 1 ≤ lv) (h2 : lv ≤ k) (hl : vs.length = np) (hn : np ≤ nl)
    (h : (execs G (callN G (lv - 1)) b body (vs.map some ++ List.replicate (nl - vs.length) none) S).sat fun fl _ S' => finT P fl S') : (callN G k f b vs S).sat P := by
  rw [callN_le hd h1 h2]
  unfold runFn
  rw [if_pos ⟨hl, hn, .inl rfl⟩]
  cases hr : execs G (callN G (lv - 1)) b body (vs.map some ++ List.replicate (nl - vs.length) none) S with
  | stuck => rw [hr] at h; exact h
  | exn e ps' S' => rw [hr] at h; exact h.elim
  | ok fl ps' S' =>
    rw [hr] at h
    cases fl <;> exact h
section
variable {G : Tab} {S : Store} {c : Nat → Nat → List PV → Store → Res PV} {n k : Nat} {L : List Srt} {W : List Nat → Int} {q : Int} {C mh mw mr : Nat}
def rulerV (C mh mw mr : Nat) (q : Int) (L : List Srt) : PV := .ins C [mh, mw, mr] [.tup [.int q, .tup (L.map Srt.v)], .dct (L.map keyS) (L.map wV), .dct (L.map keyS) (L.map rowV)]
structure RC (G : Tab) (C mh mw mr : Nat) : Prop where
  h : noAt G C mh = true
  w : noAt G C mw = true
  r : noAt G C mr = true
  hw : mh ≠ mw
  hr : mh ≠ mr
  wr : mw ≠ mr
  lt : C < G.cls.length
theorem set_new {T : Store} {fs : List Nat} {vs : List PV} {m : Nat} {v : PV} (h : noAt G C m = true) (hf : fs.length < 100) : setAt G T.length (.ref T.length) m v (T ++ [.ins C fs vs]) = some (T ++ [.ins C (putFk fs m) (putFv fs vs m v)]) := by
  unfold setAt
  dsimp only
  rw [if_pos (by rw [Bool.or_eq_true]; exact .inl (decide_eq_true (Nat.le_refl _)))]
  have here : (T ++ [PO.ins C fs vs])[T.length]? = some (.ins C fs vs) := by simp
  simp only [here]
  rw [if_pos (by rw [Bool.and_eq_true, decide_eq_true_eq]; exact ⟨hf, h⟩), List.set_append_right _ _ (Nat.le_refl _), Nat.sub_self]
  rfl
theorem dcomp_srt {ok : Store → Bool} {test : PV → Store → Res Bool} {elt : PV → Store → Res (DKey × PV)} {P : List DKey × List PV → Store → Prop} (f : Srt → PV) (hok : ok S = true) : ∀ (L A : List Srt), (∀ s ∈ L, (test s.v S).sat fun b S1 => b = true ∧ S1 = S) →
    (∀ s ∈ L, (elt s.v S).sat fun kv S1 => kv = (keyS s, f s) ∧ S1 = S) → ((A ++ L).map (·.nm)).Nodup → (A ++ L).length ≤ 1000 → P ((A ++ L).map keyS, (A ++ L).map f) S → (dcompLoop ok test elt (L.map Srt.v) (A.map keyS) (A.map f) S).sat P
  | [], A, _, _, _, _, hP => by
    rw [List.map_nil]
    unfold dcompLoop
    rw [if_pos hok]
    rw [List.append_nil] at hP
    exact hP
  | s :: t, A, ht, he, nd, hl, hP => by
    rw [List.map_cons]
    unfold dcompLoop
    rw [if_pos hok, Res.sat_bind]
    refine Res.sat_mono (ht s List.mem_cons_self) fun b S1 z => ?_
    obtain ⟨z1, z2⟩ := z
    rw [z1, z2, if_pos rfl, Res.sat_bind]
    refine Res.sat_mono (he s List.mem_cons_self) fun kv S2 z => ?_
    obtain ⟨z1, z2⟩ := z
    rw [z1, z2]
    have nin : s.nm ∉ A.map (·.nm) := by
      intro z
      rw [List.map_append, List.nodup_append] at nd
      exact nd.2.2 _ z s.nm List.mem_cons_self rfl
    have hA : A.length < sizeLine := by
      rw [List.length_append, List.length_cons] at hl
      rw [sizeLine_eq]; omega
    rw [if_pos (by rw [Bool.and_eq_true, decide_eq_true_eq]; exact ⟨by rw [List.length_map]; exact hA, rfl⟩), put_ks nin, put_vs f nin]
    have e : A ++ s :: t = (A ++ [s]) ++ t := by simp
    rw [e] at nd hl hP
    exact dcomp_srt f hok t (A ++ [s]) (fun s' h => ht s' (List.mem_cons_of_mem _ h)) (fun s' h => he s' (List.mem_cons_of_mem _ h)) nd hl hP
theorem init_ok {f fc fb ff fk fi fn : Nat} (hf : G.fns[f]? = some ⟨3, 6, Lib.Ruler_init fc fb mh mr mw, 5, true⟩) (hc : G.fns[fc]? = some ⟨2, 5, Lib.check_kinds ff fk, 4, false⟩) (hff : G.fns[ff]? = some ⟨4, 5, Lib.fills, 1, false⟩) (hfk : G.fns[fk]? = some ⟨1, 5, Lib.is_kind fb fn, 3, false⟩) (hb : G.fns[fb]? = some ⟨3, 3, Lib.is_between fi, 2, false⟩)
    (hi : G.fns[fi]? = some ⟨1, 1, Lib.is_integer, 1, false⟩) (hn : G.fns[fn]? = some ⟨1, 2, Lib.is_name, 1, false⟩) (hk : 5 ≤ k) (rc : RC G C mh mw mr) (g : GoodR q W L) {P : PV → Store → Prop} (hP : P .non (S ++ [.ins C [mh, mw, mr] [.tup [.int q, .tup (L.map Srt.v)], .dct (L.map keyS) (L.map wV), .dct (L.map keyS) (L.map rowV)]])) :
    (callN G k f S.length [.ref S.length, .int q, .tup (L.map Srt.v)] (S ++ [.ins C [] []])).sat P := by
  refine callB hf (by decide) hk rfl (by decide) ?_
  unfold Lib.Ruler_init
  simp only [x_cons, x_nil, x_asg, x_asgT, x_asgS, x_asgA, x_aug, x_ex, x_ret, x_retN, x_if, x_for, x_pass, x_brk, x_cnt, x_try, w_var, w_cst, w_glb, w_tup, w_lst, w_dct0, w_neg, w_bin, w_cmp, w_chain, w_and_, w_or_, w_and1_, w_and2_, w_or1_, w_or2_, w_not, w_ife, w_sub, w_sl1, w_sl2, w_sl3, w_attr, w_call, w_callK, w_new, w_meth, w_cmeth, w_bf, w_bm, w_isi, w_fstr, w_comp, w_dcomp, w_nil, w_cons, w_ie, w_rng, w_enum, w_zip, w_tnil, w_tcons, Fl.go_next, Fl.go_ret, Fl.go_brk, Fl.go_cnt, List.map_cons, List.map_nil, List.cons_append, List.nil_append, List.replicate, List.length_cons, List.length_nil, Nat.sub_self, Nat.reduceSub, Nat.reduceAdd, List.getElem?_cons_zero, List.getElem?_cons_succ, List.set_cons_zero, List.set_cons_succ, setAll, wipeP, Option.some.injEq, exists_eq_left', exists_eq_left, Res.sat_ok, Res.sat_guard, finF_ret, finF_next, finT_ret, finT_next, cTest_nil, cTest_nm, cElt_nm, fBody_nm, t_bl, m_lst, m_ref, m_dct, m_dref, b_add, b_sub, b_mul, b_div, b_mod, b_cat, c_eqI, c_neI, c_ltI, c_leI, c_gtI, c_geI, c_eqS, c_neS, f_int, f_lenL, f_lenT, f_lenS, f_lenC, f_tupL, PV.tup.injEq, PV.lst.injEq, decide_eq_true_eq, decide_eq_false_iff_not, Bool.and_eq_true, Bool.not_eq_true', Bool.not_true, Bool.not_false, true_and, and_true]
  rw [between_eq hb hi (by decide) g.q2 g.q9]
  simp only [x_cons, x_nil, x_asg, x_asgT, x_asgS, x_asgA, x_aug, x_ex, x_ret, x_retN, x_if, x_for, x_pass, x_brk, x_cnt, x_try, w_var, w_cst, w_glb, w_tup, w_lst, w_dct0, w_neg, w_bin, w_cmp, w_chain, w_and_, w_or_, w_and1_, w_and2_, w_or1_, w_or2_, w_not, w_ife, w_sub, w_sl1, w_sl2, w_sl3, w_attr, w_call, w_callK, w_new, w_meth, w_cmeth, w_bf, w_bm, w_isi, w_fstr, w_comp, w_dcomp, w_nil, w_cons, w_ie, w_rng, w_enum, w_zip, w_tnil, w_tcons, Fl.go_next, Fl.go_ret, Fl.go_brk, Fl.go_cnt, List.map_cons, List.map_nil, List.cons_append, List.nil_append, List.replicate, List.length_cons, List.length_nil, Nat.sub_self, Nat.reduceSub, Nat.reduceAdd, List.getElem?_cons_zero, List.getElem?_cons_succ, List.set_cons_zero, List.set_cons_succ, setAll, wipeP, Option.some.injEq, exists_eq_left', exists_eq_left, Res.sat_ok, Res.sat_guard, finF_ret, finF_next, finT_ret, finT_next, cTest_nil, cTest_nm, cElt_nm, fBody_nm, t_bl, m_lst, m_ref, m_dct, m_dref, b_add, b_sub, b_mul, b_div, b_mod, b_cat, c_eqI, c_neI, c_ltI, c_leI, c_gtI, c_geI, c_eqS, c_neS, f_int, f_lenL, f_lenT, f_lenS, f_lenC, f_tupL, PV.tup.injEq, PV.lst.injEq, decide_eq_true_eq, decide_eq_false_iff_not, Bool.and_eq_true, Bool.not_eq_true', Bool.not_true, Bool.not_false, true_and, and_true]
  refine ⟨(fun h => by cases h), fun _ => ?_⟩
  rw [checkKinds_eq hc hff hfk hb hi hn (by decide) g]
  simp only [x_cons, x_nil, x_asg, x_asgT, x_asgS, x_asgA, x_aug, x_ex, x_ret, x_retN, x_if, x_for, x_pass, x_brk, x_cnt, x_try, w_var, w_cst, w_glb, w_tup, w_lst, w_dct0, w_neg, w_bin, w_cmp, w_chain, w_and_, w_or_, w_and1_, w_and2_, w_or1_, w_or2_, w_not, w_ife, w_sub, w_sl1, w_sl2, w_sl3, w_attr, w_call, w_callK, w_new, w_meth, w_cmeth, w_bf, w_bm, w_isi, w_fstr, w_comp, w_dcomp, w_nil, w_cons, w_ie, w_rng, w_enum, w_zip, w_tnil, w_tcons, Fl.go_next, Fl.go_ret, Fl.go_brk, Fl.go_cnt, List.map_cons, List.map_nil, List.cons_append, List.nil_append, List.replicate, List.length_cons, List.length_nil, Nat.sub_self, Nat.reduceSub, Nat.reduceAdd, List.getElem?_cons_zero, List.getElem?_cons_succ, List.set_cons_zero, List.set_cons_succ, setAll, wipeP, Option.some.injEq, exists_eq_left', exists_eq_left, Res.sat_ok, Res.sat_guard, finF_ret, finF_next, finT_ret, finT_next, cTest_nil, cTest_nm, cElt_nm, fBody_nm, t_bl, m_lst, m_ref, m_dct, m_dref, b_add, b_sub, b_mul, b_div, b_mod, b_cat, c_eqI, c_neI, c_ltI, c_leI, c_gtI, c_geI, c_eqS, c_neS, f_int, f_lenL, f_lenT, f_lenS, f_lenC, f_tupL, PV.tup.injEq, PV.lst.injEq, decide_eq_true_eq, decide_eq_false_iff_not, Bool.and_eq_true, Bool.not_eq_true', Bool.not_true, Bool.not_false, true_and, and_true]
  refine ⟨by rw [sizeLine_eq]; omega, _, set_new rc.h (by decide), _, rfl, ?_⟩
  have few := g.few
  refine dcomp_srt wV (stay_nil _) L [] (fun s _ => ?_) (fun s _ => ?_) (by simpa using g.nd) (by simp; omega) ?_
  · unfold Srt.v
    rw [cTest_tp _ _ _ _ rfl]
    simp only [x_cons, x_nil, x_asg, x_asgT, x_asgS, x_asgA, x_aug, x_ex, x_ret, x_retN, x_if, x_for, x_pass, x_brk, x_cnt, x_try, w_var, w_cst, w_glb, w_tup, w_lst, w_dct0, w_neg, w_bin, w_cmp, w_chain, w_and_, w_or_, w_and1_, w_and2_, w_or1_, w_or2_, w_not, w_ife, w_sub, w_sl1, w_sl2, w_sl3, w_attr, w_call, w_callK, w_new, w_meth, w_cmeth, w_bf, w_bm, w_isi, w_fstr, w_comp, w_dcomp, w_nil, w_cons, w_ie, w_rng, w_enum, w_zip, w_tnil, w_tcons, Fl.go_next, Fl.go_ret, Fl.go_brk, Fl.go_cnt, List.map_cons, List.map_nil, List.cons_append, List.nil_append, List.replicate, List.length_cons, List.length_nil, Nat.sub_self, Nat.reduceSub, Nat.reduceAdd, List.getElem?_cons_zero, List.getElem?_cons_succ, List.set_cons_zero, List.set_cons_succ, setAll, wipeP, Option.some.injEq, exists_eq_left', exists_eq_left, Res.sat_ok, Res.sat_guard, finF_ret, finF_next, finT_ret, finT_next, cTest_nil, cTest_nm, cElt_nm, fBody_nm, t_bl, m_lst, m_ref, m_dct, m_dref, b_add, b_sub, b_mul, b_div, b_mod, b_cat, c_eqI, c_neI, c_ltI, c_leI, c_gtI, c_geI, c_eqS, c_neS, f_int, f_lenL, f_lenT, f_lenS, f_lenC, f_tupL, PV.tup.injEq, PV.lst.injEq, decide_eq_true_eq, decide_eq_false_iff_not, Bool.and_eq_true, Bool.not_eq_true', Bool.not_true, Bool.not_false, true_and, and_true]
  · unfold Srt.v
    rw [cKv_tp _ _ _ _ _ rfl]
    simp only [x_cons, x_nil, x_asg, x_asgT, x_asgS, x_asgA, x_aug, x_ex, x_ret, x_retN, x_if, x_for, x_pass, x_brk, x_cnt, x_try, w_var, w_cst, w_glb, w_tup, w_lst, w_dct0, w_neg, w_bin, w_cmp, w_chain, w_and_, w_or_, w_and1_, w_and2_, w_or1_, w_or2_, w_not, w_ife, w_sub, w_sl1, w_sl2, w_sl3, w_attr, w_call, w_callK, w_new, w_meth, w_cmeth, w_bf, w_bm, w_isi, w_fstr, w_comp, w_dcomp, w_nil, w_cons, w_ie, w_rng, w_enum, w_zip, w_tnil, w_tcons, Fl.go_next, Fl.go_ret, Fl.go_brk, Fl.go_cnt, List.map_cons, List.map_nil, List.cons_append, List.nil_append, List.replicate, List.length_cons, List.length_nil, Nat.sub_self, Nat.reduceSub, Nat.reduceAdd, List.getElem?_cons_zero, List.getElem?_cons_succ, List.set_cons_zero, List.set_cons_succ, setAll, wipeP, Option.some.injEq, exists_eq_left', exists_eq_left, Res.sat_ok, Res.sat_guard, finF_ret, finF_next, finT_ret, finT_next, cTest_nil, cTest_nm, cElt_nm, fBody_nm, t_bl, m_lst, m_ref, m_dct, m_dref, b_add, b_sub, b_mul, b_div, b_mod, b_cat, c_eqI, c_neI, c_ltI, c_leI, c_gtI, c_geI, c_eqS, c_neS, f_int, f_lenL, f_lenT, f_lenS, f_lenC, f_tupL, PV.tup.injEq, PV.lst.injEq, decide_eq_true_eq, decide_eq_false_iff_not, Bool.and_eq_true, Bool.not_eq_true', Bool.not_true, Bool.not_false, true_and, and_true]
    exact ⟨_, rfl, rfl⟩
  simp only [x_cons, x_nil, x_asg, x_asgT, x_asgS, x_asgA, x_aug, x_ex, x_ret, x_retN, x_if, x_for, x_pass, x_brk, x_cnt, x_try, w_var, w_cst, w_glb, w_tup, w_lst, w_dct0, w_neg, w_bin, w_cmp, w_chain, w_and_, w_or_, w_and1_, w_and2_, w_or1_, w_or2_, w_not, w_ife, w_sub, w_sl1, w_sl2, w_sl3, w_attr, w_call, w_callK, w_new, w_meth, w_cmeth, w_bf, w_bm, w_isi, w_fstr, w_comp, w_dcomp, w_nil, w_cons, w_ie, w_rng, w_enum, w_zip, w_tnil, w_tcons, Fl.go_next, Fl.go_ret, Fl.go_brk, Fl.go_cnt, List.map_cons, List.map_nil, List.cons_append, List.nil_append, List.replicate, List.length_cons, List.length_nil, Nat.sub_self, Nat.reduceSub, Nat.reduceAdd, List.getElem?_cons_zero, List.getElem?_cons_succ, List.set_cons_zero, List.set_cons_succ, setAll, wipeP, Option.some.injEq, exists_eq_left', exists_eq_left, Res.sat_ok, Res.sat_guard, finF_ret, finF_next, finT_ret, finT_next, cTest_nil, cTest_nm, cElt_nm, fBody_nm, t_bl, m_lst, m_ref, m_dct, m_dref, b_add, b_sub, b_mul, b_div, b_mod, b_cat, c_eqI, c_neI, c_ltI, c_leI, c_gtI, c_geI, c_eqS, c_neS, f_int, f_lenL, f_lenT, f_lenS, f_lenC, f_tupL, PV.tup.injEq, PV.lst.injEq, decide_eq_true_eq, decide_eq_false_iff_not, Bool.and_eq_true, Bool.not_eq_true', Bool.not_true, Bool.not_false, true_and, and_true]
  refine ⟨_, set_new rc.w (by simp [putFk]), _, rfl, ?_⟩
  refine dcomp_srt rowV (stay_nil _) L [] (fun s _ => ?_) (fun s _ => ?_) (by simpa using g.nd) (by simp; omega) ?_
  · unfold Srt.v
    rw [cTest_tp _ _ _ _ rfl]
    simp only [x_cons, x_nil, x_asg, x_asgT, x_asgS, x_asgA, x_aug, x_ex, x_ret, x_retN, x_if, x_for, x_pass, x_brk, x_cnt, x_try, w_var, w_cst, w_glb, w_tup, w_lst, w_dct0, w_neg, w_bin, w_cmp, w_chain, w_and_, w_or_, w_and1_, w_and2_, w_or1_, w_or2_, w_not, w_ife, w_sub, w_sl1, w_sl2, w_sl3, w_attr, w_call, w_callK, w_new, w_meth, w_cmeth, w_bf, w_bm, w_isi, w_fstr, w_comp, w_dcomp, w_nil, w_cons, w_ie, w_rng, w_enum, w_zip, w_tnil, w_tcons, Fl.go_next, Fl.go_ret, Fl.go_brk, Fl.go_cnt, List.map_cons, List.map_nil, List.cons_append, List.nil_append, List.replicate, List.length_cons, List.length_nil, Nat.sub_self, Nat.reduceSub, Nat.reduceAdd, List.getElem?_cons_zero, List.getElem?_cons_succ, List.set_cons_zero, List.set_cons_succ, setAll, wipeP, Option.some.injEq, exists_eq_left', exists_eq_left, Res.sat_ok, Res.sat_guard, finF_ret, finF_next, finT_ret, finT_next, cTest_nil, cTest_nm, cElt_nm, fBody_nm, t_bl, m_lst, m_ref, m_dct, m_dref, b_add, b_sub, b_mul, b_div, b_mod, b_cat, c_eqI, c_neI, c_ltI, c_leI, c_gtI, c_geI, c_eqS, c_neS, f_int, f_lenL, f_lenT, f_lenS, f_lenC, f_tupL, PV.tup.injEq, PV.lst.injEq, decide_eq_true_eq, decide_eq_false_iff_not, Bool.and_eq_true, Bool.not_eq_true', Bool.not_true, Bool.not_false, true_and, and_true]
  · unfold Srt.v
    rw [cKv_tp _ _ _ _ _ rfl]
    simp only [x_cons, x_nil, x_asg, x_asgT, x_asgS, x_asgA, x_aug, x_ex, x_ret, x_retN, x_if, x_for, x_pass, x_brk, x_cnt, x_try, w_var, w_cst, w_glb, w_tup, w_lst, w_dct0, w_neg, w_bin, w_cmp, w_chain, w_and_, w_or_, w_and1_, w_and2_, w_or1_, w_or2_, w_not, w_ife, w_sub, w_sl1, w_sl2, w_sl3, w_attr, w_call, w_callK, w_new, w_meth, w_cmeth, w_bf, w_bm, w_isi, w_fstr, w_comp, w_dcomp, w_nil, w_cons, w_ie, w_rng, w_enum, w_zip, w_tnil, w_tcons, Fl.go_next, Fl.go_ret, Fl.go_brk, Fl.go_cnt, List.map_cons, List.map_nil, List.cons_append, List.nil_append, List.replicate, List.length_cons, List.length_nil, Nat.sub_self, Nat.reduceSub, Nat.reduceAdd, List.getElem?_cons_zero, List.getElem?_cons_succ, List.set_cons_zero, List.set_cons_succ, setAll, wipeP, Option.some.injEq, exists_eq_left', exists_eq_left, Res.sat_ok, Res.sat_guard, finF_ret, finF_next, finT_ret, finT_next, cTest_nil, cTest_nm, cElt_nm, fBody_nm, t_bl, m_lst, m_ref, m_dct, m_dref, b_add, b_sub, b_mul, b_div, b_mod, b_cat, c_eqI, c_neI, c_ltI, c_leI, c_gtI, c_geI, c_eqS, c_neS, f_int, f_lenL, f_lenT, f_lenS, f_lenC, f_tupL, PV.tup.injEq, PV.lst.injEq, decide_eq_true_eq, decide_eq_false_iff_not, Bool.and_eq_true, Bool.not_eq_true', Bool.not_true, Bool.not_false, true_and, and_true]
    exact ⟨_, rfl, rfl⟩
  simp only [x_cons, x_nil, x_asg, x_asgT, x_asgS, x_asgA, x_aug, x_ex, x_ret, x_retN, x_if, x_for, x_pass, x_brk, x_cnt, x_try, w_var, w_cst, w_glb, w_tup, w_lst, w_dct0, w_neg, w_bin, w_cmp, w_chain, w_and_, w_or_, w_and1_, w_and2_, w_or1_, w_or2_, w_not, w_ife, w_sub, w_sl1, w_sl2, w_sl3, w_attr, w_call, w_callK, w_new, w_meth, w_cmeth, w_bf, w_bm, w_isi, w_fstr, w_comp, w_dcomp, w_nil, w_cons, w_ie, w_rng, w_enum, w_zip, w_tnil, w_tcons, Fl.go_next, Fl.go_ret, Fl.go_brk, Fl.go_cnt, List.map_cons, List.map_nil, List.cons_append, List.nil_append, List.replicate, List.length_cons, List.length_nil, Nat.sub_self, Nat.reduceSub, Nat.reduceAdd, List.getElem?_cons_zero, List.getElem?_cons_succ, List.set_cons_zero, List.set_cons_succ, setAll, wipeP, Option.some.injEq, exists_eq_left', exists_eq_left, Res.sat_ok, Res.sat_guard, finF_ret, finF_next, finT_ret, finT_next, cTest_nil, cTest_nm, cElt_nm, fBody_nm, t_bl, m_lst, m_ref, m_dct, m_dref, b_add, b_sub, b_mul, b_div, b_mod, b_cat, c_eqI, c_neI, c_ltI, c_leI, c_gtI, c_geI, c_eqS, c_neS, f_int, f_lenL, f_lenT, f_lenS, f_lenC, f_tupL, PV.tup.injEq, PV.lst.injEq, decide_eq_true_eq, decide_eq_false_iff_not, Bool.and_eq_true, Bool.not_eq_true', Bool.not_true, Bool.not_false, true_and, and_true]
  refine ⟨_, set_new rc.r (by simp [putFk, rc.hw]), ?_⟩
  simp only [putFk, putFv, if_neg rc.hw, if_neg rc.hr, if_neg rc.wr, List.nil_append]
  exact hP
theorem rf_ruler : PV.rfs [.tup [.int q, .tup (L.map Srt.v)], .dct (L.map keyS) (L.map wV), .dct (L.map keyS) (L.map rowV)] = true := by
  have h1 : PV.rfs (L.map wV) = true := by
    rw [PV.rfs_eq, List.all_map, List.all_eq_true]; intro s _; rfl
  have h2 : PV.rfs (L.map rowV) = true := by
    rw [PV.rfs_eq, List.all_map, List.all_eq_true]
    intro s _
    show PV.rf (.tup (s.row.map nmV)) = true
    simp only [PV.rf]
    exact rfs_nm s.row
  simp only [PV.rfs, PV.rf, rfs_srt, h1, h2, Bool.and_self]
theorem new_eq {kd : ClsDef} {f fc fb ff fk fi fn : Nat} (hcl : G.cls[C]? = some kd) (hin : kd.init = f) (hfr : kd.frz = true) (hf : G.fns[f]? = some ⟨3, 6, Lib.Ruler_init fc fb mh mr mw, 5, true⟩) (hc : G.fns[fc]? = some ⟨2, 5, Lib.check_kinds ff fk, 4, false⟩) (hff : G.fns[ff]? = some ⟨4, 5, Lib.fills, 1, false⟩) (hfk : G.fns[fk]? = some ⟨1, 5, Lib.is_kind fb fn, 3, false⟩) (hb : G.fns[fb]? = some ⟨3, 3, Lib.is_between fi, 2, false⟩)
    (hi : G.fns[fi]? = some ⟨1, 1, Lib.is_integer, 1, false⟩) (hn : G.fns[fn]? = some ⟨1, 2, Lib.is_name, 1, false⟩) (hk : 5 ≤ k) (rc : RC G C mh mw mr) (g : GoodR q W L) : newI G (callN G k) C [.int q, .tup (L.map Srt.v)] S = .ok (rulerV C mh mw mr q L) S := by
  obtain ⟨v, T, e, e1, e2⟩ := Res.sat_ex (init_ok (S := S) (P := fun v T => v = .non ∧ T = _) hf hc hff hfk hb hi hn hk rc g ⟨rfl, rfl⟩)
  subst e1; subst e2
  unfold newI
  simp only [hcl, hin, e, hfr, if_true]
  have here : ∀ o : PO, (S ++ [o])[S.length]? = some o := fun o => by simp
  have ef : fz (S ++ [PO.ins C [mh, mw, mr] [.tup [.int q, .tup (L.map Srt.v)], .dct (L.map keyS) (L.map wV), .dct (L.map keyS) (L.map rowV)]]) S.length 6 (.ref S.length) = some (rulerV C mh mw mr q L) := by
    unfold fz
    rw [if_neg (by simp [PV.rf])]
    simp only [here]
    rw [if_neg (by omega), mapO_some (f := fz _ S.length 5) fun x hx => by
      unfold fz
      rw [if_pos (List.all_eq_true.mp (by rw [← PV.rfs_eq]; exact rf_ruler) x hx)]]
    rfl
  rw [ef]
  simp
/-! ### attributes -/
theorem at_fld {fs : List Nat} {vs : List PV} {m : Nat} {v : PV} (h : noAt G C m = true) (e : lookF fs vs m = some v) : getAt G c (.ins C fs vs) m S = .ok v S := by
  obtain ⟨kd, hc⟩ := noAt_cls h
  have q := noAt_eq hc h
  unfold getAt insOf
  simp only [hc, Option.bind_some, q.1, h, if_true, e, ofO_some]
theorem at_prop {fs : List Nat} {vs : List PV} {m f : Nat} (h : ((G.cls[C]?).bind fun k => k.props.lookup m) = some f) : getAt G c (.ins C fs vs) m S = (c f S.length [.ins C fs vs] S).noX := by
  unfold getAt insOf
  simp only [h]
theorem ruler_h (rc : RC G C mh mw mr) : getAt G c (rulerV C mh mw mr q L) mh S = .ok (.tup [.int q, .tup (L.map Srt.v)]) S := at_fld rc.h (by simp [lookF])
theorem ruler_w (rc : RC G C mh mw mr) : getAt G c (rulerV C mh mw mr q L) mw S = .ok (.dct (L.map keyS) (L.map wV)) S := at_fld rc.w (by simp [lookF, rc.hw])
theorem ruler_r (rc : RC G C mh mw mr) : getAt G c (rulerV C mh mw mr q L) mr S = .ok (.dct (L.map keyS) (L.map rowV)) S := at_fld rc.r (by simp [lookF, rc.hr, rc.wr])
theorem rf_R : (rulerV C mh mw mr q L).rf = true := by
  unfold rulerV
  simp only [PV.rf]
  exact rf_ruler
theorem checkRuler_eq {f : Nat} {lv : Nat} (hf : G.fns[f]? = some ⟨1, 1, Lib.check_ruler C, lv, false⟩) (h1 : 1 ≤ lv) (hk : lv ≤ k) (rc : RC G C mh mw mr) : callN G k f S.length [rulerV C mh mw mr q L] S = .ok .non S := by
  refine Res.sat_eq (callF hf h1 hk rfl (by decide) ?_)
  unfold Lib.check_ruler
  simp only [x_cons, x_nil, x_asg, x_asgT, x_asgS, x_asgA, x_aug, x_ex, x_ret, x_retN, x_if, x_for, x_pass, x_brk, x_cnt, x_try, w_var, w_cst, w_glb, w_tup, w_lst, w_dct0, w_neg, w_bin, w_cmp, w_chain, w_and_, w_or_, w_and1_, w_and2_, w_or1_, w_or2_, w_not, w_ife, w_sub, w_sl1, w_sl2, w_sl3, w_attr, w_call, w_callK, w_new, w_meth, w_cmeth, w_bf, w_bm, w_isi, w_fstr, w_comp, w_dcomp, w_nil, w_cons, w_ie, w_rng, w_enum, w_zip, w_tnil, w_tcons, Fl.go_next, Fl.go_ret, Fl.go_brk, Fl.go_cnt, List.map_cons, List.map_nil, List.cons_append, List.nil_append, List.replicate, List.length_cons, List.length_nil, Nat.sub_self, Nat.reduceSub, Nat.reduceAdd, List.getElem?_cons_zero, List.getElem?_cons_succ, List.set_cons_zero, List.set_cons_succ, setAll, wipeP, Option.some.injEq, exists_eq_left', exists_eq_left, Res.sat_ok, Res.sat_guard, finF_ret, finF_next, finT_ret, finT_next, cTest_nil, cTest_nm, cElt_nm, fBody_nm, t_bl, m_lst, m_ref, m_dct, m_dref, b_add, b_sub, b_mul, b_div, b_mod, b_cat, c_eqI, c_neI, c_ltI, c_leI, c_gtI, c_geI, c_eqS, c_neS, f_int, f_lenL, f_lenT, f_lenS, f_lenC, f_tupL, PV.tup.injEq, PV.lst.injEq, decide_eq_true_eq, decide_eq_false_iff_not, Bool.and_eq_true, Bool.not_eq_true', Bool.not_true, Bool.not_false, true_and, and_true]
  refine ⟨?_, true, ?_, (fun h => by cases h), fun _ => take_self S⟩
  · show decide (C < G.cls.length) = true
    exact decide_eq_true rc.lt
  · show some (decide (TyC.own C = TyC.own C)) = some true
    simp
theorem names_eq {f : Nat} (hf : G.fns[f]? = some ⟨1, 2, Lib.Ruler_names mh, 1, false⟩) (hk : 1 ≤ k) (rc : RC G C mh mw mr) (g : GoodR q W L) : callN G k f S.length [rulerV C mh mw mr q L] S = .ok (.tup ((L.map (·.nm)).map nmV)) S := by
  refine Res.sat_eq (callF hf (by decide) hk rfl (by decide) ?_)
  unfold Lib.Ruler_names
  simp only [x_cons, x_nil, x_asg, x_asgT, x_asgS, x_asgA, x_aug, x_ex, x_ret, x_retN, x_if, x_for, x_pass, x_brk, x_cnt, x_try, w_var, w_cst, w_glb, w_tup, w_lst, w_dct0, w_neg, w_bin, w_cmp, w_chain, w_and_, w_or_, w_and1_, w_and2_, w_or1_, w_or2_, w_not, w_ife, w_sub, w_sl1, w_sl2, w_sl3, w_attr, w_call, w_callK, w_new, w_meth, w_cmeth, w_bf, w_bm, w_isi, w_fstr, w_comp, w_dcomp, w_nil, w_cons, w_ie, w_rng, w_enum, w_zip, w_tnil, w_tcons, Fl.go_next, Fl.go_ret, Fl.go_brk, Fl.go_cnt, List.map_cons, List.map_nil, List.cons_append, List.nil_append, List.replicate, List.length_cons, List.length_nil, Nat.sub_self, Nat.reduceSub, Nat.reduceAdd, List.getElem?_cons_zero, List.getElem?_cons_succ, List.set_cons_zero, List.set_cons_succ, setAll, wipeP, Option.some.injEq, exists_eq_left', exists_eq_left, Res.sat_ok, Res.sat_guard, finF_ret, finF_next, finT_ret, finT_next, cTest_nil, cTest_nm, cElt_nm, fBody_nm, t_bl, m_lst, m_ref, m_dct, m_dref, b_add, b_sub, b_mul, b_div, b_mod, b_cat, c_eqI, c_neI, c_ltI, c_leI, c_gtI, c_geI, c_eqS, c_neS, f_int, f_lenL, f_lenT, f_lenS, f_lenC, f_tupL, PV.tup.injEq, PV.lst.injEq, decide_eq_true_eq, decide_eq_false_iff_not, Bool.and_eq_true, Bool.not_eq_true', Bool.not_true, Bool.not_false, true_and, and_true]
  rw [ruler_h rc]
  simp only [x_cons, x_nil, x_asg, x_asgT, x_asgS, x_asgA, x_aug, x_ex, x_ret, x_retN, x_if, x_for, x_pass, x_brk, x_cnt, x_try, w_var, w_cst, w_glb, w_tup, w_lst, w_dct0, w_neg, w_bin, w_cmp, w_chain, w_and_, w_or_, w_and1_, w_and2_, w_or1_, w_or2_, w_not, w_ife, w_sub, w_sl1, w_sl2, w_sl3, w_attr, w_call, w_callK, w_new, w_meth, w_cmeth, w_bf, w_bm, w_isi, w_fstr, w_comp, w_dcomp, w_nil, w_cons, w_ie, w_rng, w_enum, w_zip, w_tnil, w_tcons, Fl.go_next, Fl.go_ret, Fl.go_brk, Fl.go_cnt, List.map_cons, List.map_nil, List.cons_append, List.nil_append, List.replicate, List.length_cons, List.length_nil, Nat.sub_self, Nat.reduceSub, Nat.reduceAdd, List.getElem?_cons_zero, List.getElem?_cons_succ, List.set_cons_zero, List.set_cons_succ, setAll, wipeP, Option.some.injEq, exists_eq_left', exists_eq_left, Res.sat_ok, Res.sat_guard, finF_ret, finF_next, finT_ret, finT_next, cTest_nil, cTest_nm, cElt_nm, fBody_nm, t_bl, m_lst, m_ref, m_dct, m_dref, b_add, b_sub, b_mul, b_div, b_mod, b_cat, c_eqI, c_neI, c_ltI, c_leI, c_gtI, c_geI, c_eqS, c_neS, f_int, f_lenL, f_lenT, f_lenS, f_lenC, f_tupL, PV.tup.injEq, PV.lst.injEq, decide_eq_true_eq, decide_eq_false_iff_not, Bool.and_eq_true, Bool.not_eq_true', Bool.not_true, Bool.not_false, true_and, and_true]
  have few := g.few
  refine ⟨.tup (L.map Srt.v), by rw [g_tup]; exact at1, _, rfl, ?_⟩
  refine comp_map (fun v => match v with
    | .tup (x :: _) => x
    | _ => .non) (stay_nil _) (by rw [List.length_map, sizeLine_eq]; omega) (fun y hy => ?_) (fun y hy => ?_) ?_
  · rw [cTest_nil]; exact ⟨rfl, rfl⟩
  · obtain ⟨s, hs, rfl⟩ := List.mem_map.mp hy
    simp only [x_cons, x_nil, x_asg, x_asgT, x_asgS, x_asgA, x_aug, x_ex, x_ret, x_retN, x_if, x_for, x_pass, x_brk, x_cnt, x_try, w_var, w_cst, w_glb, w_tup, w_lst, w_dct0, w_neg, w_bin, w_cmp, w_chain, w_and_, w_or_, w_and1_, w_and2_, w_or1_, w_or2_, w_not, w_ife, w_sub, w_sl1, w_sl2, w_sl3, w_attr, w_call, w_callK, w_new, w_meth, w_cmeth, w_bf, w_bm, w_isi, w_fstr, w_comp, w_dcomp, w_nil, w_cons, w_ie, w_rng, w_enum, w_zip, w_tnil, w_tcons, Fl.go_next, Fl.go_ret, Fl.go_brk, Fl.go_cnt, List.map_cons, List.map_nil, List.cons_append, List.nil_append, List.replicate, List.length_cons, List.length_nil, Nat.sub_self, Nat.reduceSub, Nat.reduceAdd, List.getElem?_cons_zero, List.getElem?_cons_succ, List.set_cons_zero, List.set_cons_succ, setAll, wipeP, Option.some.injEq, exists_eq_left', exists_eq_left, Res.sat_ok, Res.sat_guard, finF_ret, finF_next, finT_ret, finT_next, cTest_nil, cTest_nm, cElt_nm, fBody_nm, t_bl, m_lst, m_ref, m_dct, m_dref, b_add, b_sub, b_mul, b_div, b_mod, b_cat, c_eqI, c_neI, c_ltI, c_leI, c_gtI, c_geI, c_eqS, c_neS, f_int, f_lenL, f_lenT, f_lenS, f_lenC, f_tupL, PV.tup.injEq, PV.lst.injEq, decide_eq_true_eq, decide_eq_false_iff_not, Bool.and_eq_true, Bool.not_eq_true', Bool.not_true, Bool.not_false, true_and, and_true]
    exact ⟨nmV s.nm, by unfold Srt.v; rw [g_tup]; exact at0, rfl⟩
  · rw [List.map_map, show ((fun v : PV => match v with
      | .tup (x :: _) => x
      | _ => .non) ∘ Srt.v) = nmV ∘ (·.nm) from rfl, ← List.map_map]
    exact ⟨_, fz_rf (by simp only [PV.rf]; exact rfs_nm _), rfl, take_self S⟩
theorem c_notInT {x : List Nat} {xs : List (List Nat)} : cmpR G c .NotIn (nmV x) (.tup (xs.map nmV)) S = .ok (!decide (x ∈ xs)) S := by
  have : cmpD .NotIn (nmV x) (.tup (xs.map nmV)) S = some (!decide (x ∈ xs)) := by
    unfold cmpD isInG
    show ((inG (nmV x) (xs.map nmV) _ S).map not) = _
    rw [inG_nm]; rfl
  show ofO (cmpD .NotIn (nmV x) (.tup (xs.map nmV)) S) S = _
  rw [this]; rfl
theorem checkKind_eq {f fn fnm mn : Nat} (hf : G.fns[f]? = some ⟨2, 2, Lib.check_kind fn mn, 2, false⟩) (hn : G.fns[fn]? = some ⟨1, 2, Lib.is_name, 1, false⟩) (hnm : G.fns[fnm]? = some ⟨1, 2, Lib.Ruler_names mh, 1, false⟩) (hp : ((G.cls[C]?).bind fun k => k.props.lookup mn) = some fnm) (hk : 2 ≤ k) (rc : RC G C mh mw mr) (g : GoodR q W L) {x : List Nat} (hx : x ∈ L.map (·.nm)) :
    callN G k f S.length [rulerV C mh mw mr q L, nmV x] S = .ok .non S := by
  refine Res.sat_eq (callF hf (by decide) hk rfl (by decide) ?_)
  unfold Lib.check_kind
  simp only [x_cons, x_nil, x_asg, x_asgT, x_asgS, x_asgA, x_aug, x_ex, x_ret, x_retN, x_if, x_for, x_pass, x_brk, x_cnt, x_try, w_var, w_cst, w_glb, w_tup, w_lst, w_dct0, w_neg, w_bin, w_cmp, w_chain, w_and_, w_or_, w_and1_, w_and2_, w_or1_, w_or2_, w_not, w_ife, w_sub, w_sl1, w_sl2, w_sl3, w_attr, w_call, w_callK, w_new, w_meth, w_cmeth, w_bf, w_bm, w_isi, w_fstr, w_comp, w_dcomp, w_nil, w_cons, w_ie, w_rng, w_enum, w_zip, w_tnil, w_tcons, Fl.go_next, Fl.go_ret, Fl.go_brk, Fl.go_cnt, List.map_cons, List.map_nil, List.cons_append, List.nil_append, List.replicate, List.length_cons, List.length_nil, Nat.sub_self, Nat.reduceSub, Nat.reduceAdd, List.getElem?_cons_zero, List.getElem?_cons_succ, List.set_cons_zero, List.set_cons_succ, setAll, wipeP, Option.some.injEq, exists_eq_left', exists_eq_left, Res.sat_ok, Res.sat_guard, finF_ret, finF_next, finT_ret, finT_next, cTest_nil, cTest_nm, cElt_nm, fBody_nm, t_bl, m_lst, m_ref, m_dct, m_dref, b_add, b_sub, b_mul, b_div, b_mod, b_cat, c_eqI, c_neI, c_ltI, c_leI, c_gtI, c_geI, c_eqS, c_neS, f_int, f_lenL, f_lenT, f_lenS, f_lenC, f_tupL, PV.tup.injEq, PV.lst.injEq, decide_eq_true_eq, decide_eq_false_iff_not, Bool.and_eq_true, Bool.not_eq_true', Bool.not_true, Bool.not_false, true_and, and_true]
  obtain ⟨s, hs, rfl⟩ := List.mem_map.mp hx
  rw [isName_eq hn (by decide) (g.nm s hs)]
  simp only [x_cons, x_nil, x_asg, x_asgT, x_asgS, x_asgA, x_aug, x_ex, x_ret, x_retN, x_if, x_for, x_pass, x_brk, x_cnt, x_try, w_var, w_cst, w_glb, w_tup, w_lst, w_dct0, w_neg, w_bin, w_cmp, w_chain, w_and_, w_or_, w_and1_, w_and2_, w_or1_, w_or2_, w_not, w_ife, w_sub, w_sl1, w_sl2, w_sl3, w_attr, w_call, w_callK, w_new, w_meth, w_cmeth, w_bf, w_bm, w_isi, w_fstr, w_comp, w_dcomp, w_nil, w_cons, w_ie, w_rng, w_enum, w_zip, w_tnil, w_tcons, Fl.go_next, Fl.go_ret, Fl.go_brk, Fl.go_cnt, List.map_cons, List.map_nil, List.cons_append, List.nil_append, List.replicate, List.length_cons, List.length_nil, Nat.sub_self, Nat.reduceSub, Nat.reduceAdd, List.getElem?_cons_zero, List.getElem?_cons_succ, List.set_cons_zero, List.set_cons_succ, setAll, wipeP, Option.some.injEq, exists_eq_left', exists_eq_left, Res.sat_ok, Res.sat_guard, finF_ret, finF_next, finT_ret, finT_next, cTest_nil, cTest_nm, cElt_nm, fBody_nm, t_bl, m_lst, m_ref, m_dct, m_dref, b_add, b_sub, b_mul, b_div, b_mod, b_cat, c_eqI, c_neI, c_ltI, c_leI, c_gtI, c_geI, c_eqS, c_neS, f_int, f_lenL, f_lenT, f_lenS, f_lenC, f_tupL, PV.tup.injEq, PV.lst.injEq, decide_eq_true_eq, decide_eq_false_iff_not, Bool.and_eq_true, Bool.not_eq_true', Bool.not_true, Bool.not_false, true_and, and_true]
  refine ⟨(fun _ => ?_), fun h => by cases h⟩
  rw [show rulerV C mh mw mr q L = .ins C [mh, mw, mr] _ from rfl, at_prop hp, Res.sat_noX]
  show ((callN G 1 fnm S.length [rulerV C mh mw mr q L] S).sat _)
  rw [names_eq hnm (by decide) rc g]
  simp only [x_cons, x_nil, x_asg, x_asgT, x_asgS, x_asgA, x_aug, x_ex, x_ret, x_retN, x_if, x_for, x_pass, x_brk, x_cnt, x_try, w_var, w_cst, w_glb, w_tup, w_lst, w_dct0, w_neg, w_bin, w_cmp, w_chain, w_and_, w_or_, w_and1_, w_and2_, w_or1_, w_or2_, w_not, w_ife, w_sub, w_sl1, w_sl2, w_sl3, w_attr, w_call, w_callK, w_new, w_meth, w_cmeth, w_bf, w_bm, w_isi, w_fstr, w_comp, w_dcomp, w_nil, w_cons, w_ie, w_rng, w_enum, w_zip, w_tnil, w_tcons, Fl.go_next, Fl.go_ret, Fl.go_brk, Fl.go_cnt, List.map_cons, List.map_nil, List.cons_append, List.nil_append, List.replicate, List.length_cons, List.length_nil, Nat.sub_self, Nat.reduceSub, Nat.reduceAdd, List.getElem?_cons_zero, List.getElem?_cons_succ, List.set_cons_zero, List.set_cons_succ, setAll, wipeP, Option.some.injEq, exists_eq_left', exists_eq_left, Res.sat_ok, Res.sat_guard, finF_ret, finF_next, finT_ret, finT_next, cTest_nil, cTest_nm, cElt_nm, fBody_nm, t_bl, m_lst, m_ref, m_dct, m_dref, b_add, b_sub, b_mul, b_div, b_mod, b_cat, c_eqI, c_neI, c_ltI, c_leI, c_gtI, c_geI, c_eqS, c_neS, f_int, f_lenL, f_lenT, f_lenS, f_lenC, f_tupL, PV.tup.injEq, PV.lst.injEq, decide_eq_true_eq, decide_eq_false_iff_not, Bool.and_eq_true, Bool.not_eq_true', Bool.not_true, Bool.not_false, true_and, and_true]
  rw [c_notInT, decide_eq_true hx]
  simp only [x_cons, x_nil, x_asg, x_asgT, x_asgS, x_asgA, x_aug, x_ex, x_ret, x_retN, x_if, x_for, x_pass, x_brk, x_cnt, x_try, w_var, w_cst, w_glb, w_tup, w_lst, w_dct0, w_neg, w_bin, w_cmp, w_chain, w_and_, w_or_, w_and1_, w_and2_, w_or1_, w_or2_, w_not, w_ife, w_sub, w_sl1, w_sl2, w_sl3, w_attr, w_call, w_callK, w_new, w_meth, w_cmeth, w_bf, w_bm, w_isi, w_fstr, w_comp, w_dcomp, w_nil, w_cons, w_ie, w_rng, w_enum, w_zip, w_tnil, w_tcons, Fl.go_next, Fl.go_ret, Fl.go_brk, Fl.go_cnt, List.map_cons, List.map_nil, List.cons_append, List.nil_append, List.replicate, List.length_cons, List.length_nil, Nat.sub_self, Nat.reduceSub, Nat.reduceAdd, List.getElem?_cons_zero, List.getElem?_cons_succ, List.set_cons_zero, List.set_cons_succ, setAll, wipeP, Option.some.injEq, exists_eq_left', exists_eq_left, Res.sat_ok, Res.sat_guard, finF_ret, finF_next, finT_ret, finT_next, cTest_nil, cTest_nm, cElt_nm, fBody_nm, t_bl, m_lst, m_ref, m_dct, m_dref, b_add, b_sub, b_mul, b_div, b_mod, b_cat, c_eqI, c_neI, c_ltI, c_leI, c_gtI, c_geI, c_eqS, c_neS, f_int, f_lenL, f_lenT, f_lenS, f_lenC, f_tupL, PV.tup.injEq, PV.lst.injEq, decide_eq_true_eq, decide_eq_false_iff_not, Bool.and_eq_true, Bool.not_eq_true', Bool.not_true, Bool.not_false, true_and, and_true]
  exact ⟨(fun h => by cases h), fun _ => take_self S⟩
theorem checkDepth_eq {f fb fi : Nat} (hf : G.fns[f]? = some ⟨1, 1, Lib.check_depth fb, 3, false⟩) (hb : G.fns[fb]? = some ⟨3, 3, Lib.is_between fi, 2, false⟩) (hi : G.fns[fi]? = some ⟨1, 1, Lib.is_integer, 1, false⟩) (hk : 3 ≤ k) {d : Int} (h0 : 0 ≤ d) (h1 : d ≤ 40) : callN G k f S.length [.int d] S = .ok .non S := by
  refine Res.sat_eq (callF hf (by decide) hk rfl (by decide) ?_)
  unfold Lib.check_depth
  simp only [x_cons, x_nil, x_asg, x_asgT, x_asgS, x_asgA, x_aug, x_ex, x_ret, x_retN, x_if, x_for, x_pass, x_brk, x_cnt, x_try, w_var, w_cst, w_glb, w_tup, w_lst, w_dct0, w_neg, w_bin, w_cmp, w_chain, w_and_, w_or_, w_and1_, w_and2_, w_or1_, w_or2_, w_not, w_ife, w_sub, w_sl1, w_sl2, w_sl3, w_attr, w_call, w_callK, w_new, w_meth, w_cmeth, w_bf, w_bm, w_isi, w_fstr, w_comp, w_dcomp, w_nil, w_cons, w_ie, w_rng, w_enum, w_zip, w_tnil, w_tcons, Fl.go_next, Fl.go_ret, Fl.go_brk, Fl.go_cnt, List.map_cons, List.map_nil, List.cons_append, List.nil_append, List.replicate, List.length_cons, List.length_nil, Nat.sub_self, Nat.reduceSub, Nat.reduceAdd, List.getElem?_cons_zero, List.getElem?_cons_succ, List.set_cons_zero, List.set_cons_succ, setAll, wipeP, Option.some.injEq, exists_eq_left', exists_eq_left, Res.sat_ok, Res.sat_guard, finF_ret, finF_next, finT_ret, finT_next, cTest_nil, cTest_nm, cElt_nm, fBody_nm, t_bl, m_lst, m_ref, m_dct, m_dref, b_add, b_sub, b_mul, b_div, b_mod, b_cat, c_eqI, c_neI, c_ltI, c_leI, c_gtI, c_geI, c_eqS, c_neS, f_int, f_lenL, f_lenT, f_lenS, f_lenC, f_tupL, PV.tup.injEq, PV.lst.injEq, decide_eq_true_eq, decide_eq_false_iff_not, Bool.and_eq_true, Bool.not_eq_true', Bool.not_true, Bool.not_false, true_and, and_true]
  rw [between_eq hb hi (by decide) h0 h1]
  simp only [x_cons, x_nil, x_asg, x_asgT, x_asgS, x_asgA, x_aug, x_ex, x_ret, x_retN, x_if, x_for, x_pass, x_brk, x_cnt, x_try, w_var, w_cst, w_glb, w_tup, w_lst, w_dct0, w_neg, w_bin, w_cmp, w_chain, w_and_, w_or_, w_and1_, w_and2_, w_or1_, w_or2_, w_not, w_ife, w_sub, w_sl1, w_sl2, w_sl3, w_attr, w_call, w_callK, w_new, w_meth, w_cmeth, w_bf, w_bm, w_isi, w_fstr, w_comp, w_dcomp, w_nil, w_cons, w_ie, w_rng, w_enum, w_zip, w_tnil, w_tcons, Fl.go_next, Fl.go_ret, Fl.go_brk, Fl.go_cnt, List.map_cons, List.map_nil, List.cons_append, List.nil_append, List.replicate, List.length_cons, List.length_nil, Nat.sub_self, Nat.reduceSub, Nat.reduceAdd, List.getElem?_cons_zero, List.getElem?_cons_succ, List.set_cons_zero, List.set_cons_succ, setAll, wipeP, Option.some.injEq, exists_eq_left', exists_eq_left, Res.sat_ok, Res.sat_guard, finF_ret, finF_next, finT_ret, finT_next, cTest_nil, cTest_nm, cElt_nm, fBody_nm, t_bl, m_lst, m_ref, m_dct, m_dref, b_add, b_sub, b_mul, b_div, b_mod, b_cat, c_eqI, c_neI, c_ltI, c_leI, c_gtI, c_geI, c_eqS, c_neS, f_int, f_lenL, f_lenT, f_lenS, f_lenC, f_tupL, PV.tup.injEq, PV.lst.injEq, decide_eq_true_eq, decide_eq_false_iff_not, Bool.and_eq_true, Bool.not_eq_true', Bool.not_true, Bool.not_false, true_and, and_true]
  exact ⟨(fun h => by cases h), fun _ => take_self S⟩
theorem width_eq {f fck fn fnm mn : Nat} (hf : G.fns[f]? = some ⟨2, 2, Lib.Ruler_width fck mw, 3, false⟩) (hck : G.fns[fck]? = some ⟨2, 2, Lib.check_kind fn mn, 2, false⟩) (hn : G.fns[fn]? = some ⟨1, 2, Lib.is_name, 1, false⟩) (hnm : G.fns[fnm]? = some ⟨1, 2, Lib.Ruler_names mh, 1, false⟩) (hp : ((G.cls[C]?).bind fun k => k.props.lookup mn) = some fnm) (hk : 3 ≤ k) (rc : RC G C mh mw mr) (g : GoodR q W L) {x : List Nat} (hx : x ∈ L.map (·.nm)) :
    callN G k f S.length [rulerV C mh mw mr q L, nmV x] S = .ok (.int (W x)) S := by
  refine Res.sat_eq (callF hf (by decide) hk rfl (by decide) ?_)
  unfold Lib.Ruler_width
  simp only [x_cons, x_nil, x_asg, x_asgT, x_asgS, x_asgA, x_aug, x_ex, x_ret, x_retN, x_if, x_for, x_pass, x_brk, x_cnt, x_try, w_var, w_cst, w_glb, w_tup, w_lst, w_dct0, w_neg, w_bin, w_cmp, w_chain, w_and_, w_or_, w_and1_, w_and2_, w_or1_, w_or2_, w_not, w_ife, w_sub, w_sl1, w_sl2, w_sl3, w_attr, w_call, w_callK, w_new, w_meth, w_cmeth, w_bf, w_bm, w_isi, w_fstr, w_comp, w_dcomp, w_nil, w_cons, w_ie, w_rng, w_enum, w_zip, w_tnil, w_tcons, Fl.go_next, Fl.go_ret, Fl.go_brk, Fl.go_cnt, List.map_cons, List.map_nil, List.cons_append, List.nil_append, List.replicate, List.length_cons, List.length_nil, Nat.sub_self, Nat.reduceSub, Nat.reduceAdd, List.getElem?_cons_zero, List.getElem?_cons_succ, List.set_cons_zero, List.set_cons_succ, setAll, wipeP, Option.some.injEq, exists_eq_left', exists_eq_left, Res.sat_ok, Res.sat_guard, finF_ret, finF_next, finT_ret, finT_next, cTest_nil, cTest_nm, cElt_nm, fBody_nm, t_bl, m_lst, m_ref, m_dct, m_dref, b_add, b_sub, b_mul, b_div, b_mod, b_cat, c_eqI, c_neI, c_ltI, c_leI, c_gtI, c_geI, c_eqS, c_neS, f_int, f_lenL, f_lenT, f_lenS, f_lenC, f_tupL, PV.tup.injEq, PV.lst.injEq, decide_eq_true_eq, decide_eq_false_iff_not, Bool.and_eq_true, Bool.not_eq_true', Bool.not_true, Bool.not_false, true_and, and_true]
  rw [checkKind_eq hck hn hnm hp (by decide) rc g hx]
  simp only [x_cons, x_nil, x_asg, x_asgT, x_asgS, x_asgA, x_aug, x_ex, x_ret, x_retN, x_if, x_for, x_pass, x_brk, x_cnt, x_try, w_var, w_cst, w_glb, w_tup, w_lst, w_dct0, w_neg, w_bin, w_cmp, w_chain, w_and_, w_or_, w_and1_, w_and2_, w_or1_, w_or2_, w_not, w_ife, w_sub, w_sl1, w_sl2, w_sl3, w_attr, w_call, w_callK, w_new, w_meth, w_cmeth, w_bf, w_bm, w_isi, w_fstr, w_comp, w_dcomp, w_nil, w_cons, w_ie, w_rng, w_enum, w_zip, w_tnil, w_tcons, Fl.go_next, Fl.go_ret, Fl.go_brk, Fl.go_cnt, List.map_cons, List.map_nil, List.cons_append, List.nil_append, List.replicate, List.length_cons, List.length_nil, Nat.sub_self, Nat.reduceSub, Nat.reduceAdd, List.getElem?_cons_zero, List.getElem?_cons_succ, List.set_cons_zero, List.set_cons_succ, setAll, wipeP, Option.some.injEq, exists_eq_left', exists_eq_left, Res.sat_ok, Res.sat_guard, finF_ret, finF_next, finT_ret, finT_next, cTest_nil, cTest_nm, cElt_nm, fBody_nm, t_bl, m_lst, m_ref, m_dct, m_dref, b_add, b_sub, b_mul, b_div, b_mod, b_cat, c_eqI, c_neI, c_ltI, c_leI, c_gtI, c_geI, c_eqS, c_neS, f_int, f_lenL, f_lenT, f_lenS, f_lenC, f_tupL, PV.tup.injEq, PV.lst.injEq, decide_eq_true_eq, decide_eq_false_iff_not, Bool.and_eq_true, Bool.not_eq_true', Bool.not_true, Bool.not_false, true_and, and_true]
  rw [ruler_w rc]
  simp only [x_cons, x_nil, x_asg, x_asgT, x_asgS, x_asgA, x_aug, x_ex, x_ret, x_retN, x_if, x_for, x_pass, x_brk, x_cnt, x_try, w_var, w_cst, w_glb, w_tup, w_lst, w_dct0, w_neg, w_bin, w_cmp, w_chain, w_and_, w_or_, w_and1_, w_and2_, w_or1_, w_or2_, w_not, w_ife, w_sub, w_sl1, w_sl2, w_sl3, w_attr, w_call, w_callK, w_new, w_meth, w_cmeth, w_bf, w_bm, w_isi, w_fstr, w_comp, w_dcomp, w_nil, w_cons, w_ie, w_rng, w_enum, w_zip, w_tnil, w_tcons, Fl.go_next, Fl.go_ret, Fl.go_brk, Fl.go_cnt, List.map_cons, List.map_nil, List.cons_append, List.nil_append, List.replicate, List.length_cons, List.length_nil, Nat.sub_self, Nat.reduceSub, Nat.reduceAdd, List.getElem?_cons_zero, List.getElem?_cons_succ, List.set_cons_zero, List.set_cons_succ, setAll, wipeP, Option.some.injEq, exists_eq_left', exists_eq_left, Res.sat_ok, Res.sat_guard, finF_ret, finF_next, finT_ret, finT_next, cTest_nil, cTest_nm, cElt_nm, fBody_nm, t_bl, m_lst, m_ref, m_dct, m_dref, b_add, b_sub, b_mul, b_div, b_mod, b_cat, c_eqI, c_neI, c_ltI, c_leI, c_gtI, c_geI, c_eqS, c_neS, f_int, f_lenL, f_lenT, f_lenS, f_lenC, f_tupL, PV.tup.injEq, PV.lst.injEq, decide_eq_true_eq, decide_eq_false_iff_not, Bool.and_eq_true, Bool.not_eq_true', Bool.not_true, Bool.not_false, true_and, and_true]
  refine ⟨.int (W x), ?_, _, fz_rf rfl, rfl, take_self S⟩
  show ((lookD (L.map keyS) (L.map wV) (.s (SX.S x))).bind id) = _
  unfold lookD
  rw [if_pos (kind_keys L _), look_w g hx]; rfl
theorem row_eq {f fck fn fnm mn : Nat} (hf : G.fns[f]? = some ⟨2, 2, Lib.Ruler_width fck mr, 3, false⟩) (hck : G.fns[fck]? = some ⟨2, 2, Lib.check_kind fn mn, 2, false⟩) (hn : G.fns[fn]? = some ⟨1, 2, Lib.is_name, 1, false⟩) (hnm : G.fns[fnm]? = some ⟨1, 2, Lib.Ruler_names mh, 1, false⟩) (hp : ((G.cls[C]?).bind fun k => k.props.lookup mn) = some fnm) (hk : 3 ≤ k) (rc : RC G C mh mw mr) (g : GoodR q W L) {x : List Nat} (hx : x ∈ L.map (·.nm)) :
    ∃ s ∈ L, s.nm = x ∧ callN G k f S.length [rulerV C mh mw mr q L, nmV x] S = .ok (rowV s) S := by
  obtain ⟨s, hs, e1, e2⟩ := look_srt rowV hx
  refine ⟨s, hs, e1, Res.sat_eq (callF hf (by decide) hk rfl (by decide) ?_)⟩
  unfold Lib.Ruler_width
  simp only [x_cons, x_nil, x_asg, x_asgT, x_asgS, x_asgA, x_aug, x_ex, x_ret, x_retN, x_if, x_for, x_pass, x_brk, x_cnt, x_try, w_var, w_cst, w_glb, w_tup, w_lst, w_dct0, w_neg, w_bin, w_cmp, w_chain, w_and_, w_or_, w_and1_, w_and2_, w_or1_, w_or2_, w_not, w_ife, w_sub, w_sl1, w_sl2, w_sl3, w_attr, w_call, w_callK, w_new, w_meth, w_cmeth, w_bf, w_bm, w_isi, w_fstr, w_comp, w_dcomp, w_nil, w_cons, w_ie, w_rng, w_enum, w_zip, w_tnil, w_tcons, Fl.go_next, Fl.go_ret, Fl.go_brk, Fl.go_cnt, List.map_cons, List.map_nil, List.cons_append, List.nil_append, List.replicate, List.length_cons, List.length_nil, Nat.sub_self, Nat.reduceSub, Nat.reduceAdd, List.getElem?_cons_zero, List.getElem?_cons_succ, List.set_cons_zero, List.set_cons_succ, setAll, wipeP, Option.some.injEq, exists_eq_left', exists_eq_left, Res.sat_ok, Res.sat_guard, finF_ret, finF_next, finT_ret, finT_next, cTest_nil, cTest_nm, cElt_nm, fBody_nm, t_bl, m_lst, m_ref, m_dct, m_dref, b_add, b_sub, b_mul, b_div, b_mod, b_cat, c_eqI, c_neI, c_ltI, c_leI, c_gtI, c_geI, c_eqS, c_neS, f_int, f_lenL, f_lenT, f_lenS, f_lenC, f_tupL, PV.tup.injEq, PV.lst.injEq, decide_eq_true_eq, decide_eq_false_iff_not, Bool.and_eq_true, Bool.not_eq_true', Bool.not_true, Bool.not_false, true_and, and_true]
  rw [checkKind_eq hck hn hnm hp (by decide) rc g hx]
  simp only [x_cons, x_nil, x_asg, x_asgT, x_asgS, x_asgA, x_aug, x_ex, x_ret, x_retN, x_if, x_for, x_pass, x_brk, x_cnt, x_try, w_var, w_cst, w_glb, w_tup, w_lst, w_dct0, w_neg, w_bin, w_cmp, w_chain, w_and_, w_or_, w_and1_, w_and2_, w_or1_, w_or2_, w_not, w_ife, w_sub, w_sl1, w_sl2, w_sl3, w_attr, w_call, w_callK, w_new, w_meth, w_cmeth, w_bf, w_bm, w_isi, w_fstr, w_comp, w_dcomp, w_nil, w_cons, w_ie, w_rng, w_enum, w_zip, w_tnil, w_tcons, Fl.go_next, Fl.go_ret, Fl.go_brk, Fl.go_cnt, List.map_cons, List.map_nil, List.cons_append, List.nil_append, List.replicate, List.length_cons, List.length_nil, Nat.sub_self, Nat.reduceSub, Nat.reduceAdd, List.getElem?_cons_zero, List.getElem?_cons_succ, List.set_cons_zero, List.set_cons_succ, setAll, wipeP, Option.some.injEq, exists_eq_left', exists_eq_left, Res.sat_ok, Res.sat_guard, finF_ret, finF_next, finT_ret, finT_next, cTest_nil, cTest_nm, cElt_nm, fBody_nm, t_bl, m_lst, m_ref, m_dct, m_dref, b_add, b_sub, b_mul, b_div, b_mod, b_cat, c_eqI, c_neI, c_ltI, c_leI, c_gtI, c_geI, c_eqS, c_neS, f_int, f_lenL, f_lenT, f_lenS, f_lenC, f_tupL, PV.tup.injEq, PV.lst.injEq, decide_eq_true_eq, decide_eq_false_iff_not, Bool.and_eq_true, Bool.not_eq_true', Bool.not_true, Bool.not_false, true_and, and_true]
  rw [ruler_r rc]
  simp only [x_cons, x_nil, x_asg, x_asgT, x_asgS, x_asgA, x_aug, x_ex, x_ret, x_retN, x_if, x_for, x_pass, x_brk, x_cnt, x_try, w_var, w_cst, w_glb, w_tup, w_lst, w_dct0, w_neg, w_bin, w_cmp, w_chain, w_and_, w_or_, w_and1_, w_and2_, w_or1_, w_or2_, w_not, w_ife, w_sub, w_sl1, w_sl2, w_sl3, w_attr, w_call, w_callK, w_new, w_meth, w_cmeth, w_bf, w_bm, w_isi, w_fstr, w_comp, w_dcomp, w_nil, w_cons, w_ie, w_rng, w_enum, w_zip, w_tnil, w_tcons, Fl.go_next, Fl.go_ret, Fl.go_brk, Fl.go_cnt, List.map_cons, List.map_nil, List.cons_append, List.nil_append, List.replicate, List.length_cons, List.length_nil, Nat.sub_self, Nat.reduceSub, Nat.reduceAdd, List.getElem?_cons_zero, List.getElem?_cons_succ, List.set_cons_zero, List.set_cons_succ, setAll, wipeP, Option.some.injEq, exists_eq_left', exists_eq_left, Res.sat_ok, Res.sat_guard, finF_ret, finF_next, finT_ret, finT_next, cTest_nil, cTest_nm, cElt_nm, fBody_nm, t_bl, m_lst, m_ref, m_dct, m_dref, b_add, b_sub, b_mul, b_div, b_mod, b_cat, c_eqI, c_neI, c_ltI, c_leI, c_gtI, c_geI, c_eqS, c_neS, f_int, f_lenL, f_lenT, f_lenS, f_lenC, f_tupL, PV.tup.injEq, PV.lst.injEq, decide_eq_true_eq, decide_eq_false_iff_not, Bool.and_eq_true, Bool.not_eq_true', Bool.not_true, Bool.not_false, true_and, and_true]
  refine ⟨rowV s, ?_, _, fz_rf (by show PV.rf (.tup (s.row.map nmV)) = true; simp only [PV.rf]; exact rfs_nm _), rfl, take_self S⟩
  show ((lookD (L.map keyS) (L.map rowV) (.s (SX.S x))).bind id) = _
  unfold lookD
  rw [if_pos (kind_keys L _), e2]; rfl
theorem factor_eq {f : Nat} (hf : G.fns[f]? = some ⟨1, 1, Lib.Ruler_factor mh, 1, false⟩) (hk : 1 ≤ k) (rc : RC G C mh mw mr) : callN G k f S.length [rulerV C mh mw mr q L] S = .ok (.int q) S := by
  refine Res.sat_eq (callF hf (by decide) hk rfl (by decide) ?_)
  unfold Lib.Ruler_factor
  simp only [x_cons, x_nil, x_asg, x_asgT, x_asgS, x_asgA, x_aug, x_ex, x_ret, x_retN, x_if, x_for, x_pass, x_brk, x_cnt, x_try, w_var, w_cst, w_glb, w_tup, w_lst, w_dct0, w_neg, w_bin, w_cmp, w_chain, w_and_, w_or_, w_and1_, w_and2_, w_or1_, w_or2_, w_not, w_ife, w_sub, w_sl1, w_sl2, w_sl3, w_attr, w_call, w_callK, w_new, w_meth, w_cmeth, w_bf, w_bm, w_isi, w_fstr, w_comp, w_dcomp, w_nil, w_cons, w_ie, w_rng, w_enum, w_zip, w_tnil, w_tcons, Fl.go_next, Fl.go_ret, Fl.go_brk, Fl.go_cnt, List.map_cons, List.map_nil, List.cons_append, List.nil_append, List.replicate, List.length_cons, List.length_nil, Nat.sub_self, Nat.reduceSub, Nat.reduceAdd, List.getElem?_cons_zero, List.getElem?_cons_succ, List.set_cons_zero, List.set_cons_succ, setAll, wipeP, Option.some.injEq, exists_eq_left', exists_eq_left, Res.sat_ok, Res.sat_guard, finF_ret, finF_next, finT_ret, finT_next, cTest_nil, cTest_nm, cElt_nm, fBody_nm, t_bl, m_lst, m_ref, m_dct, m_dref, b_add, b_sub, b_mul, b_div, b_mod, b_cat, c_eqI, c_neI, c_ltI, c_leI, c_gtI, c_geI, c_eqS, c_neS, f_int, f_lenL, f_lenT, f_lenS, f_lenC, f_tupL, PV.tup.injEq, PV.lst.injEq, decide_eq_true_eq, decide_eq_false_iff_not, Bool.and_eq_true, Bool.not_eq_true', Bool.not_true, Bool.not_false, true_and, and_true]
  rw [ruler_h rc]
  simp only [x_cons, x_nil, x_asg, x_asgT, x_asgS, x_asgA, x_aug, x_ex, x_ret, x_retN, x_if, x_for, x_pass, x_brk, x_cnt, x_try, w_var, w_cst, w_glb, w_tup, w_lst, w_dct0, w_neg, w_bin, w_cmp, w_chain, w_and_, w_or_, w_and1_, w_and2_, w_or1_, w_or2_, w_not, w_ife, w_sub, w_sl1, w_sl2, w_sl3, w_attr, w_call, w_callK, w_new, w_meth, w_cmeth, w_bf, w_bm, w_isi, w_fstr, w_comp, w_dcomp, w_nil, w_cons, w_ie, w_rng, w_enum, w_zip, w_tnil, w_tcons, Fl.go_next, Fl.go_ret, Fl.go_brk, Fl.go_cnt, List.map_cons, List.map_nil, List.cons_append, List.nil_append, List.replicate, List.length_cons, List.length_nil, Nat.sub_self, Nat.reduceSub, Nat.reduceAdd, List.getElem?_cons_zero, List.getElem?_cons_succ, List.set_cons_zero, List.set_cons_succ, setAll, wipeP, Option.some.injEq, exists_eq_left', exists_eq_left, Res.sat_ok, Res.sat_guard, finF_ret, finF_next, finT_ret, finT_next, cTest_nil, cTest_nm, cElt_nm, fBody_nm, t_bl, m_lst, m_ref, m_dct, m_dref, b_add, b_sub, b_mul, b_div, b_mod, b_cat, c_eqI, c_neI, c_ltI, c_leI, c_gtI, c_geI, c_eqS, c_neS, f_int, f_lenL, f_lenT, f_lenS, f_lenC, f_tupL, PV.tup.injEq, PV.lst.injEq, decide_eq_true_eq, decide_eq_false_iff_not, Bool.and_eq_true, Bool.not_eq_true', Bool.not_true, Bool.not_false, true_and, and_true]
  exact ⟨.int q, by rw [g_tup]; exact at0, _, fz_rf rfl, rfl, take_self S⟩
theorem power_eq {f : Nat} (hf : G.fns[f]? = some ⟨2, 4, Lib.power, 1, false⟩) (hk : 1 ≤ k) {b : Int} (hb : b.natAbs < 2 ^ 64) {d : Nat} (hd : d ≤ 1000) : callN G k f S.length [.int b, .int (d : Int)] S = .ok (.int (b ^ d)) S := by
  refine Res.sat_eq (callF hf (by decide) hk rfl (by decide) ?_)
  unfold Lib.power
  simp only [x_cons, x_nil, x_asg, x_asgT, x_asgS, x_asgA, x_aug, x_ex, x_ret, x_retN, x_if, x_for, x_pass, x_brk, x_cnt, x_try, w_var, w_cst, w_glb, w_tup, w_lst, w_dct0, w_neg, w_bin, w_cmp, w_chain, w_and_, w_or_, w_and1_, w_and2_, w_or1_, w_or2_, w_not, w_ife, w_sub, w_sl1, w_sl2, w_sl3, w_attr, w_call, w_callK, w_new, w_meth, w_cmeth, w_bf, w_bm, w_isi, w_fstr, w_comp, w_dcomp, w_nil, w_cons, w_ie, w_rng, w_enum, w_zip, w_tnil, w_tcons, Fl.go_next, Fl.go_ret, Fl.go_brk, Fl.go_cnt, List.map_cons, List.map_nil, List.cons_append, List.nil_append, List.replicate, List.length_cons, List.length_nil, Nat.sub_self, Nat.reduceSub, Nat.reduceAdd, List.getElem?_cons_zero, List.getElem?_cons_succ, List.set_cons_zero, List.set_cons_succ, setAll, wipeP, Option.some.injEq, exists_eq_left', exists_eq_left, Res.sat_ok, Res.sat_guard, finF_ret, finF_next, finT_ret, finT_next, cTest_nil, cTest_nm, cElt_nm, fBody_nm, t_bl, m_lst, m_ref, m_dct, m_dref, b_add, b_sub, b_mul, b_div, b_mod, b_cat, c_eqI, c_neI, c_ltI, c_leI, c_gtI, c_geI, c_eqS, c_neS, f_int, f_lenL, f_lenT, f_lenS, f_lenC, f_tupL, PV.tup.injEq, PV.lst.injEq, decide_eq_true_eq, decide_eq_false_iff_not, Bool.and_eq_true, Bool.not_eq_true', Bool.not_true, Bool.not_false, true_and, and_true]
  refine ⟨_, r_rng (by omega) (by omega), ?_⟩
  have hlen : (rangeL 0 (d : Int)).length = d := by rw [rangeL_nat]; simp
  refine for_inv (k := 0) (fun j ps S' => S' = S ∧ ∃ v3 : Option PV, ps = [some (.int b), some (.int (d : Int)), some (.int (b ^ j)), v3]) ⟨rfl, _, by rw [Int.pow_zero]⟩ (fun _ _ _ _ => stay_nil _) (fun j x ps S' ex h => ?_) fun ps S' h => ?_
  · obtain ⟨rfl, v3, rfl⟩ := h
    simp only [x_cons, x_nil, x_asg, x_asgT, x_asgS, x_asgA, x_aug, x_ex, x_ret, x_retN, x_if, x_for, x_pass, x_brk, x_cnt, x_try, w_var, w_cst, w_glb, w_tup, w_lst, w_dct0, w_neg, w_bin, w_cmp, w_chain, w_and_, w_or_, w_and1_, w_and2_, w_or1_, w_or2_, w_not, w_ife, w_sub, w_sl1, w_sl2, w_sl3, w_attr, w_call, w_callK, w_new, w_meth, w_cmeth, w_bf, w_bm, w_isi, w_fstr, w_comp, w_dcomp, w_nil, w_cons, w_ie, w_rng, w_enum, w_zip, w_tnil, w_tcons, Fl.go_next, Fl.go_ret, Fl.go_brk, Fl.go_cnt, List.map_cons, List.map_nil, List.cons_append, List.nil_append, List.replicate, List.length_cons, List.length_nil, Nat.sub_self, Nat.reduceSub, Nat.reduceAdd, List.getElem?_cons_zero, List.getElem?_cons_succ, List.set_cons_zero, List.set_cons_succ, setAll, wipeP, Option.some.injEq, exists_eq_left', exists_eq_left, Res.sat_ok, Res.sat_guard, finF_ret, finF_next, finT_ret, finT_next, cTest_nil, cTest_nm, cElt_nm, fBody_nm, t_bl, m_lst, m_ref, m_dct, m_dref, b_add, b_sub, b_mul, b_div, b_mod, b_cat, c_eqI, c_neI, c_ltI, c_leI, c_gtI, c_geI, c_eqS, c_neS, f_int, f_lenL, f_lenT, f_lenS, f_lenC, f_tupL, PV.tup.injEq, PV.lst.injEq, decide_eq_true_eq, decide_eq_false_iff_not, Bool.and_eq_true, Bool.not_eq_true', Bool.not_true, Bool.not_false, true_and, and_true]
    exact ⟨mulOk_r hb, _, by rw [Nat.zero_add, Int.pow_succ]⟩
  · obtain ⟨rfl, v3, rfl⟩ := h
    rw [hlen, Nat.zero_add]
    simp only [x_cons, x_nil, x_asg, x_asgT, x_asgS, x_asgA, x_aug, x_ex, x_ret, x_retN, x_if, x_for, x_pass, x_brk, x_cnt, x_try, w_var, w_cst, w_glb, w_tup, w_lst, w_dct0, w_neg, w_bin, w_cmp, w_chain, w_and_, w_or_, w_and1_, w_and2_, w_or1_, w_or2_, w_not, w_ife, w_sub, w_sl1, w_sl2, w_sl3, w_attr, w_call, w_callK, w_new, w_meth, w_cmeth, w_bf, w_bm, w_isi, w_fstr, w_comp, w_dcomp, w_nil, w_cons, w_ie, w_rng, w_enum, w_zip, w_tnil, w_tcons, Fl.go_next, Fl.go_ret, Fl.go_brk, Fl.go_cnt, List.map_cons, List.map_nil, List.cons_append, List.nil_append, List.replicate, List.length_cons, List.length_nil, Nat.sub_self, Nat.reduceSub, Nat.reduceAdd, List.getElem?_cons_zero, List.getElem?_cons_succ, List.set_cons_zero, List.set_cons_succ, setAll, wipeP, Option.some.injEq, exists_eq_left', exists_eq_left, Res.sat_ok, Res.sat_guard, finF_ret, finF_next, finT_ret, finT_next, cTest_nil, cTest_nm, cElt_nm, fBody_nm, t_bl, m_lst, m_ref, m_dct, m_dref, b_add, b_sub, b_mul, b_div, b_mod, b_cat, c_eqI, c_neI, c_ltI, c_leI, c_gtI, c_geI, c_eqS, c_neS, f_int, f_lenL, f_lenT, f_lenS, f_lenC, f_tupL, PV.tup.injEq, PV.lst.injEq, decide_eq_true_eq, decide_eq_false_iff_not, Bool.and_eq_true, Bool.not_eq_true', Bool.not_true, Bool.not_false, true_and, and_true]
    exact ⟨_, fz_rf rfl, rfl, take_self _⟩
end
end PyI
set_option Elab.async false
set_option linter.all false
set_option maxRecDepth 100000
set_option maxHeartbeats 4000000
/-! LawK: lengths -/
namespace PyI
open PySem PySem.Spec PyProof.Rows
section
variable {G : Tab} {S : Store} {c : Nat → Nat → List PV → Store → Res PV} {n k : Nat} {L : List Srt} {W : List Nat → Int} {q : Int} {C mh mw mr : Nat}
theorem meth_at {fs : List Nat} {vs : List PV} {m f : Nat} (hm : fs.contains m = false) (h : ((G.cls[C]?).bind fun k => k.meths.lookup m) = some f) : methOf G (.ins C fs vs) m S = some f := by
  unfold methOf insOf
  dsimp only
  rw [if_neg (by rw [hm]; exact Bool.false_ne_true), h]
/-- the program's defs for lengths -/
structure LenT (G : Tab) (C mh mw mr : Nat) (f fs fl fd fk fr fw fp ff fnm fn fb fi mn mf mwd : Nat) : Prop where
  len : G.fns[f]? = some ⟨3, 3, Lib.length fs fl, 8, false⟩
  scale : G.fns[fs]? = some ⟨3, 3, Lib.check_scale fd fk fr, 7, false⟩
  lenOf : G.fns[fl]? = some ⟨3, 3, Lib.length_of fp mf mwd, 4, false⟩
  depth : G.fns[fd]? = some ⟨1, 1, Lib.check_depth fb, 3, false⟩
  kind : G.fns[fk]? = some ⟨2, 2, Lib.check_kind fn mn, 2, false⟩
  ruler : G.fns[fr]? = some ⟨1, 1, Lib.check_ruler C, 6, false⟩
  width : G.fns[fw]? = some ⟨2, 2, Lib.Ruler_width fk mw, 3, false⟩
  power : G.fns[fp]? = some ⟨2, 4, Lib.power, 1, false⟩
  factor : G.fns[ff]? = some ⟨1, 1, Lib.Ruler_factor mh, 1, false⟩
  names : G.fns[fnm]? = some ⟨1, 2, Lib.Ruler_names mh, 1, false⟩
  name : G.fns[fn]? = some ⟨1, 2, Lib.is_name, 1, false⟩
  between : G.fns[fb]? = some ⟨3, 3, Lib.is_between fi, 2, false⟩
  int : G.fns[fi]? = some ⟨1, 1, Lib.is_integer, 1, false⟩
  pn : ((G.cls[C]?).bind fun k => k.props.lookup mn) = some fnm
  pf : ((G.cls[C]?).bind fun k => k.props.lookup mf) = some ff
  mwid : ((G.cls[C]?).bind fun k => k.meths.lookup mwd) = some fw
  rc : RC G C mh mw mr
  no : [mh, mw, mr].contains mwd = false
variable {f fs fl fd fk fr fw fp ff fnm fn fb fi mn mf mwd : Nat}
theorem scale_eq (T : LenT G C mh mw mr f fs fl fd fk fr fw fp ff fnm fn fb fi mn mf mwd) (hk : 7 ≤ k) (g : GoodR q W L) {x : List Nat} (hx : x ∈ L.map (·.nm)) {d : Int} (h0 : 0 ≤ d) (h1 : d ≤ 40) : callN G k fs S.length [rulerV C mh mw mr q L, nmV x, .int d] S = .ok .non S := by
  refine Res.sat_eq (callF T.scale (by decide) hk rfl (by decide) ?_)
  unfold Lib.check_scale
  simp only [x_cons, x_nil, x_asg, x_asgT, x_asgS, x_asgA, x_aug, x_ex, x_ret, x_retN, x_if, x_for, x_pass, x_brk, x_cnt, x_try, w_var, w_cst, w_glb, w_tup, w_lst, w_dct0, w_neg, w_bin, w_cmp, w_chain, w_and_, w_or_, w_and1_, w_and2_, w_or1_, w_or2_, w_not, w_ife, w_sub, w_sl1, w_sl2, w_sl3, w_attr, w_call, w_callK, w_new, w_meth, w_cmeth, w_bf, w_bm, w_isi, w_fstr, w_comp, w_dcomp, w_nil, w_cons, w_ie, w_rng, w_enum, w_zip, w_tnil, w_tcons, Fl.go_next, Fl.go_ret, Fl.go_brk, Fl.go_cnt, List.map_cons, List.map_nil, List.cons_append, List.nil_append, List.replicate, List.length_cons, List.length_nil, Nat.sub_self, Nat.reduceSub, Nat.reduceAdd, List.getElem?_cons_zero, List.getElem?_cons_succ, List.set_cons_zero, List.set_cons_succ, setAll, wipeP, Option.some.injEq, exists_eq_left', exists_eq_left, Res.sat_ok, Res.sat_guard, finF_ret, finF_next, finT_ret, finT_next, cTest_nil, cTest_nm, cElt_nm, fBody_nm, t_bl, m_lst, m_ref, m_dct, m_dref, b_add, b_sub, b_mul, b_div, b_mod, b_cat, c_eqI, c_neI, c_ltI, c_leI, c_gtI, c_geI, c_eqS, c_neS, f_int, f_lenL, f_lenT, f_lenS, f_lenC, f_tupL, PV.tup.injEq, PV.lst.injEq, decide_eq_true_eq, decide_eq_false_iff_not, Bool.and_eq_true, Bool.not_eq_true', Bool.not_true, Bool.not_false, true_and, and_true]
  rw [checkRuler_eq T.ruler (by decide) (by decide) T.rc]
  simp only [x_cons, x_nil, x_asg, x_asgT, x_asgS, x_asgA, x_aug, x_ex, x_ret, x_retN, x_if, x_for, x_pass, x_brk, x_cnt, x_try, w_var, w_cst, w_glb, w_tup, w_lst, w_dct0, w_neg, w_bin, w_cmp, w_chain, w_and_, w_or_, w_and1_, w_and2_, w_or1_, w_or2_, w_not, w_ife, w_sub, w_sl1, w_sl2, w_sl3, w_attr, w_call, w_callK, w_new, w_meth, w_cmeth, w_bf, w_bm, w_isi, w_fstr, w_comp, w_dcomp, w_nil, w_cons, w_ie, w_rng, w_enum, w_zip, w_tnil, w_tcons, Fl.go_next, Fl.go_ret, Fl.go_brk, Fl.go_cnt, List.map_cons, List.map_nil, List.cons_append, List.nil_append, List.replicate, List.length_cons, List.length_nil, Nat.sub_self, Nat.reduceSub, Nat.reduceAdd, List.getElem?_cons_zero, List.getElem?_cons_succ, List.set_cons_zero, List.set_cons_succ, setAll, wipeP, Option.some.injEq, exists_eq_left', exists_eq_left, Res.sat_ok, Res.sat_guard, finF_ret, finF_next, finT_ret, finT_next, cTest_nil, cTest_nm, cElt_nm, fBody_nm, t_bl, m_lst, m_ref, m_dct, m_dref, b_add, b_sub, b_mul, b_div, b_mod, b_cat, c_eqI, c_neI, c_ltI, c_leI, c_gtI, c_geI, c_eqS, c_neS, f_int, f_lenL, f_lenT, f_lenS, f_lenC, f_tupL, PV.tup.injEq, PV.lst.injEq, decide_eq_true_eq, decide_eq_false_iff_not, Bool.and_eq_true, Bool.not_eq_true', Bool.not_true, Bool.not_false, true_and, and_true]
  rw [checkKind_eq T.kind T.name T.names T.pn (by decide) T.rc g hx]
  simp only [x_cons, x_nil, x_asg, x_asgT, x_asgS, x_asgA, x_aug, x_ex, x_ret, x_retN, x_if, x_for, x_pass, x_brk, x_cnt, x_try, w_var, w_cst, w_glb, w_tup, w_lst, w_dct0, w_neg, w_bin, w_cmp, w_chain, w_and_, w_or_, w_and1_, w_and2_, w_or1_, w_or2_, w_not, w_ife, w_sub, w_sl1, w_sl2, w_sl3, w_attr, w_call, w_callK, w_new, w_meth, w_cmeth, w_bf, w_bm, w_isi, w_fstr, w_comp, w_dcomp, w_nil, w_cons, w_ie, w_rng, w_enum, w_zip, w_tnil, w_tcons, Fl.go_next, Fl.go_ret, Fl.go_brk, Fl.go_cnt, List.map_cons, List.map_nil, List.cons_append, List.nil_append, List.replicate, List.length_cons, List.length_nil, Nat.sub_self, Nat.reduceSub, Nat.reduceAdd, List.getElem?_cons_zero, List.getElem?_cons_succ, List.set_cons_zero, List.set_cons_succ, setAll, wipeP, Option.some.injEq, exists_eq_left', exists_eq_left, Res.sat_ok, Res.sat_guard, finF_ret, finF_next, finT_ret, finT_next, cTest_nil, cTest_nm, cElt_nm, fBody_nm, t_bl, m_lst, m_ref, m_dct, m_dref, b_add, b_sub, b_mul, b_div, b_mod, b_cat, c_eqI, c_neI, c_ltI, c_leI, c_gtI, c_geI, c_eqS, c_neS, f_int, f_lenL, f_lenT, f_lenS, f_lenC, f_tupL, PV.tup.injEq, PV.lst.injEq, decide_eq_true_eq, decide_eq_false_iff_not, Bool.and_eq_true, Bool.not_eq_true', Bool.not_true, Bool.not_false, true_and, and_true]
  rw [checkDepth_eq T.depth T.between T.int (by decide) h0 h1]
  simp only [x_cons, x_nil, x_asg, x_asgT, x_asgS, x_asgA, x_aug, x_ex, x_ret, x_retN, x_if, x_for, x_pass, x_brk, x_cnt, x_try, w_var, w_cst, w_glb, w_tup, w_lst, w_dct0, w_neg, w_bin, w_cmp, w_chain, w_and_, w_or_, w_and1_, w_and2_, w_or1_, w_or2_, w_not, w_ife, w_sub, w_sl1, w_sl2, w_sl3, w_attr, w_call, w_callK, w_new, w_meth, w_cmeth, w_bf, w_bm, w_isi, w_fstr, w_comp, w_dcomp, w_nil, w_cons, w_ie, w_rng, w_enum, w_zip, w_tnil, w_tcons, Fl.go_next, Fl.go_ret, Fl.go_brk, Fl.go_cnt, List.map_cons, List.map_nil, List.cons_append, List.nil_append, List.replicate, List.length_cons, List.length_nil, Nat.sub_self, Nat.reduceSub, Nat.reduceAdd, List.getElem?_cons_zero, List.getElem?_cons_succ, List.set_cons_zero, List.set_cons_succ, setAll, wipeP, Option.some.injEq, exists_eq_left', exists_eq_left, Res.sat_ok, Res.sat_guard, finF_ret, finF_next, finT_ret, finT_next, cTest_nil, cTest_nm, cElt_nm, fBody_nm, t_bl, m_lst, m_ref, m_dct, m_dref, b_add, b_sub, b_mul, b_div, b_mod, b_cat, c_eqI, c_neI, c_ltI, c_leI, c_gtI, c_geI, c_eqS, c_neS, f_int, f_lenL, f_lenT, f_lenS, f_lenC, f_tupL, PV.tup.injEq, PV.lst.injEq, decide_eq_true_eq, decide_eq_false_iff_not, Bool.and_eq_true, Bool.not_eq_true', Bool.not_true, Bool.not_false, true_and, and_true]
  exact take_self S
theorem lenOf_eq (T : LenT G C mh mw mr f fs fl fd fk fr fw fp ff fnm fn fb fi mn mf mwd) (hk : 4 ≤ k) (g : GoodR q W L) {x : List Nat} (hx : x ∈ L.map (·.nm)) {d : Nat} (h1 : d ≤ 40) : callN G k fl S.length [rulerV C mh mw mr q L, nmV x, .int (d : Int)] S = .ok (.int (W x * q ^ d)) S := by
  refine Res.sat_eq (callF T.lenOf (by decide) hk rfl (by decide) ?_)
  unfold Lib.length_of
  simp only [x_cons, x_nil, x_asg, x_asgT, x_asgS, x_asgA, x_aug, x_ex, x_ret, x_retN, x_if, x_for, x_pass, x_brk, x_cnt, x_try, w_var, w_cst, w_glb, w_tup, w_lst, w_dct0, w_neg, w_bin, w_cmp, w_chain, w_and_, w_or_, w_and1_, w_and2_, w_or1_, w_or2_, w_not, w_ife, w_sub, w_sl1, w_sl2, w_sl3, w_attr, w_call, w_callK, w_new, w_meth, w_cmeth, w_bf, w_bm, w_isi, w_fstr, w_comp, w_dcomp, w_nil, w_cons, w_ie, w_rng, w_enum, w_zip, w_tnil, w_tcons, Fl.go_next, Fl.go_ret, Fl.go_brk, Fl.go_cnt, List.map_cons, List.map_nil, List.cons_append, List.nil_append, List.replicate, List.length_cons, List.length_nil, Nat.sub_self, Nat.reduceSub, Nat.reduceAdd, List.getElem?_cons_zero, List.getElem?_cons_succ, List.set_cons_zero, List.set_cons_succ, setAll, wipeP, Option.some.injEq, exists_eq_left', exists_eq_left, Res.sat_ok, Res.sat_guard, finF_ret, finF_next, finT_ret, finT_next, cTest_nil, cTest_nm, cElt_nm, fBody_nm, t_bl, m_lst, m_ref, m_dct, m_dref, b_add, b_sub, b_mul, b_div, b_mod, b_cat, c_eqI, c_neI, c_ltI, c_leI, c_gtI, c_geI, c_eqS, c_neS, f_int, f_lenL, f_lenT, f_lenS, f_lenC, f_tupL, PV.tup.injEq, PV.lst.injEq, decide_eq_true_eq, decide_eq_false_iff_not, Bool.and_eq_true, Bool.not_eq_true', Bool.not_true, Bool.not_false, true_and, and_true]
  have q2 := g.q2
  have q9 := g.q9
  obtain ⟨s, hs, e⟩ := List.mem_map.mp hx
  have hw := g.w s hs
  have hW : (W x).natAbs < 2 ^ 64 := by rw [← e]; omega
  refine ⟨fw, meth_at T.no T.mwid, ?_⟩
  rw [width_eq T.width T.kind T.name T.names T.pn (by decide) T.rc g hx]
  simp only [x_cons, x_nil, x_asg, x_asgT, x_asgS, x_asgA, x_aug, x_ex, x_ret, x_retN, x_if, x_for, x_pass, x_brk, x_cnt, x_try, w_var, w_cst, w_glb, w_tup, w_lst, w_dct0, w_neg, w_bin, w_cmp, w_chain, w_and_, w_or_, w_and1_, w_and2_, w_or1_, w_or2_, w_not, w_ife, w_sub, w_sl1, w_sl2, w_sl3, w_attr, w_call, w_callK, w_new, w_meth, w_cmeth, w_bf, w_bm, w_isi, w_fstr, w_comp, w_dcomp, w_nil, w_cons, w_ie, w_rng, w_enum, w_zip, w_tnil, w_tcons, Fl.go_next, Fl.go_ret, Fl.go_brk, Fl.go_cnt, List.map_cons, List.map_nil, List.cons_append, List.nil_append, List.replicate, List.length_cons, List.length_nil, Nat.sub_self, Nat.reduceSub, Nat.reduceAdd, List.getElem?_cons_zero, List.getElem?_cons_succ, List.set_cons_zero, List.set_cons_succ, setAll, wipeP, Option.some.injEq, exists_eq_left', exists_eq_left, Res.sat_ok, Res.sat_guard, finF_ret, finF_next, finT_ret, finT_next, cTest_nil, cTest_nm, cElt_nm, fBody_nm, t_bl, m_lst, m_ref, m_dct, m_dref, b_add, b_sub, b_mul, b_div, b_mod, b_cat, c_eqI, c_neI, c_ltI, c_leI, c_gtI, c_geI, c_eqS, c_neS, f_int, f_lenL, f_lenT, f_lenS, f_lenC, f_tupL, PV.tup.injEq, PV.lst.injEq, decide_eq_true_eq, decide_eq_false_iff_not, Bool.and_eq_true, Bool.not_eq_true', Bool.not_true, Bool.not_false, true_and, and_true]
  rw [show rulerV C mh mw mr q L = .ins C [mh, mw, mr] _ from rfl, at_prop T.pf, Res.sat_noX]
  show ((callN G 3 ff S.length [rulerV C mh mw mr q L] S).sat _)
  rw [factor_eq T.factor (by decide) T.rc]
  simp only [x_cons, x_nil, x_asg, x_asgT, x_asgS, x_asgA, x_aug, x_ex, x_ret, x_retN, x_if, x_for, x_pass, x_brk, x_cnt, x_try, w_var, w_cst, w_glb, w_tup, w_lst, w_dct0, w_neg, w_bin, w_cmp, w_chain, w_and_, w_or_, w_and1_, w_and2_, w_or1_, w_or2_, w_not, w_ife, w_sub, w_sl1, w_sl2, w_sl3, w_attr, w_call, w_callK, w_new, w_meth, w_cmeth, w_bf, w_bm, w_isi, w_fstr, w_comp, w_dcomp, w_nil, w_cons, w_ie, w_rng, w_enum, w_zip, w_tnil, w_tcons, Fl.go_next, Fl.go_ret, Fl.go_brk, Fl.go_cnt, List.map_cons, List.map_nil, List.cons_append, List.nil_append, List.replicate, List.length_cons, List.length_nil, Nat.sub_self, Nat.reduceSub, Nat.reduceAdd, List.getElem?_cons_zero, List.getElem?_cons_succ, List.set_cons_zero, List.set_cons_succ, setAll, wipeP, Option.some.injEq, exists_eq_left', exists_eq_left, Res.sat_ok, Res.sat_guard, finF_ret, finF_next, finT_ret, finT_next, cTest_nil, cTest_nm, cElt_nm, fBody_nm, t_bl, m_lst, m_ref, m_dct, m_dref, b_add, b_sub, b_mul, b_div, b_mod, b_cat, c_eqI, c_neI, c_ltI, c_leI, c_gtI, c_geI, c_eqS, c_neS, f_int, f_lenL, f_lenT, f_lenS, f_lenC, f_tupL, PV.tup.injEq, PV.lst.injEq, decide_eq_true_eq, decide_eq_false_iff_not, Bool.and_eq_true, Bool.not_eq_true', Bool.not_true, Bool.not_false, true_and, and_true]
  rw [power_eq T.power (by decide) (by omega) (by omega)]
  simp only [x_cons, x_nil, x_asg, x_asgT, x_asgS, x_asgA, x_aug, x_ex, x_ret, x_retN, x_if, x_for, x_pass, x_brk, x_cnt, x_try, w_var, w_cst, w_glb, w_tup, w_lst, w_dct0, w_neg, w_bin, w_cmp, w_chain, w_and_, w_or_, w_and1_, w_and2_, w_or1_, w_or2_, w_not, w_ife, w_sub, w_sl1, w_sl2, w_sl3, w_attr, w_call, w_callK, w_new, w_meth, w_cmeth, w_bf, w_bm, w_isi, w_fstr, w_comp, w_dcomp, w_nil, w_cons, w_ie, w_rng, w_enum, w_zip, w_tnil, w_tcons, Fl.go_next, Fl.go_ret, Fl.go_brk, Fl.go_cnt, List.map_cons, List.map_nil, List.cons_append, List.nil_append, List.replicate, List.length_cons, List.length_nil, Nat.sub_self, Nat.reduceSub, Nat.reduceAdd, List.getElem?_cons_zero, List.getElem?_cons_succ, List.set_cons_zero, List.set_cons_succ, setAll, wipeP, Option.some.injEq, exists_eq_left', exists_eq_left, Res.sat_ok, Res.sat_guard, finF_ret, finF_next, finT_ret, finT_next, cTest_nil, cTest_nm, cElt_nm, fBody_nm, t_bl, m_lst, m_ref, m_dct, m_dref, b_add, b_sub, b_mul, b_div, b_mod, b_cat, c_eqI, c_neI, c_ltI, c_leI, c_gtI, c_geI, c_eqS, c_neS, f_int, f_lenL, f_lenT, f_lenS, f_lenC, f_tupL, PV.tup.injEq, PV.lst.injEq, decide_eq_true_eq, decide_eq_false_iff_not, Bool.and_eq_true, Bool.not_eq_true', Bool.not_true, Bool.not_false, true_and, and_true]
  exact ⟨mulOk_l hW, _, fz_rf rfl, rfl, take_self S⟩
theorem len_eq (T : LenT G C mh mw mr f fs fl fd fk fr fw fp ff fnm fn fb fi mn mf mwd) (hk : 8 ≤ k) (g : GoodR q W L) {x : List Nat} (hx : x ∈ L.map (·.nm)) {d : Nat} (h1 : d ≤ 40) : callN G k f S.length [rulerV C mh mw mr q L, nmV x, .int (d : Int)] S = .ok (.int (W x * q ^ d)) S := by
  refine Res.sat_eq (callF T.len (by decide) hk rfl (by decide) ?_)
  unfold Lib.length
  simp only [x_cons, x_nil, x_asg, x_asgT, x_asgS, x_asgA, x_aug, x_ex, x_ret, x_retN, x_if, x_for, x_pass, x_brk, x_cnt, x_try, w_var, w_cst, w_glb, w_tup, w_lst, w_dct0, w_neg, w_bin, w_cmp, w_chain, w_and_, w_or_, w_and1_, w_and2_, w_or1_, w_or2_, w_not, w_ife, w_sub, w_sl1, w_sl2, w_sl3, w_attr, w_call, w_callK, w_new, w_meth, w_cmeth, w_bf, w_bm, w_isi, w_fstr, w_comp, w_dcomp, w_nil, w_cons, w_ie, w_rng, w_enum, w_zip, w_tnil, w_tcons, Fl.go_next, Fl.go_ret, Fl.go_brk, Fl.go_cnt, List.map_cons, List.map_nil, List.cons_append, List.nil_append, List.replicate, List.length_cons, List.length_nil, Nat.sub_self, Nat.reduceSub, Nat.reduceAdd, List.getElem?_cons_zero, List.getElem?_cons_succ, List.set_cons_zero, List.set_cons_succ, setAll, wipeP, Option.some.injEq, exists_eq_left', exists_eq_left, Res.sat_ok, Res.sat_guard, finF_ret, finF_next, finT_ret, finT_next, cTest_nil, cTest_nm, cElt_nm, fBody_nm, t_bl, m_lst, m_ref, m_dct, m_dref, b_add, b_sub, b_mul, b_div, b_mod, b_cat, c_eqI, c_neI, c_ltI, c_leI, c_gtI, c_geI, c_eqS, c_neS, f_int, f_lenL, f_lenT, f_lenS, f_lenC, f_tupL, PV.tup.injEq, PV.lst.injEq, decide_eq_true_eq, decide_eq_false_iff_not, Bool.and_eq_true, Bool.not_eq_true', Bool.not_true, Bool.not_false, true_and, and_true]
  rw [scale_eq T (by decide) g hx (by omega) (by omega)]
  simp only [x_cons, x_nil, x_asg, x_asgT, x_asgS, x_asgA, x_aug, x_ex, x_ret, x_retN, x_if, x_for, x_pass, x_brk, x_cnt, x_try, w_var, w_cst, w_glb, w_tup, w_lst, w_dct0, w_neg, w_bin, w_cmp, w_chain, w_and_, w_or_, w_and1_, w_and2_, w_or1_, w_or2_, w_not, w_ife, w_sub, w_sl1, w_sl2, w_sl3, w_attr, w_call, w_callK, w_new, w_meth, w_cmeth, w_bf, w_bm, w_isi, w_fstr, w_comp, w_dcomp, w_nil, w_cons, w_ie, w_rng, w_enum, w_zip, w_tnil, w_tcons, Fl.go_next, Fl.go_ret, Fl.go_brk, Fl.go_cnt, List.map_cons, List.map_nil, List.cons_append, List.nil_append, List.replicate, List.length_cons, List.length_nil, Nat.sub_self, Nat.reduceSub, Nat.reduceAdd, List.getElem?_cons_zero, List.getElem?_cons_succ, List.set_cons_zero, List.set_cons_succ, setAll, wipeP, Option.some.injEq, exists_eq_left', exists_eq_left, Res.sat_ok, Res.sat_guard, finF_ret, finF_next, finT_ret, finT_next, cTest_nil, cTest_nm, cElt_nm, fBody_nm, t_bl, m_lst, m_ref, m_dct, m_dref, b_add, b_sub, b_mul, b_div, b_mod, b_cat, c_eqI, c_neI, c_ltI, c_leI, c_gtI, c_geI, c_eqS, c_neS, f_int, f_lenL, f_lenT, f_lenS, f_lenC, f_tupL, PV.tup.injEq, PV.lst.injEq, decide_eq_true_eq, decide_eq_false_iff_not, Bool.and_eq_true, Bool.not_eq_true', Bool.not_true, Bool.not_false, true_and, and_true]
  rw [lenOf_eq T (by decide) g hx h1]
  simp only [x_cons, x_nil, x_asg, x_asgT, x_asgS, x_asgA, x_aug, x_ex, x_ret, x_retN, x_if, x_for, x_pass, x_brk, x_cnt, x_try, w_var, w_cst, w_glb, w_tup, w_lst, w_dct0, w_neg, w_bin, w_cmp, w_chain, w_and_, w_or_, w_and1_, w_and2_, w_or1_, w_or2_, w_not, w_ife, w_sub, w_sl1, w_sl2, w_sl3, w_attr, w_call, w_callK, w_new, w_meth, w_cmeth, w_bf, w_bm, w_isi, w_fstr, w_comp, w_dcomp, w_nil, w_cons, w_ie, w_rng, w_enum, w_zip, w_tnil, w_tcons, Fl.go_next, Fl.go_ret, Fl.go_brk, Fl.go_cnt, List.map_cons, List.map_nil, List.cons_append, List.nil_append, List.replicate, List.length_cons, List.length_nil, Nat.sub_self, Nat.reduceSub, Nat.reduceAdd, List.getElem?_cons_zero, List.getElem?_cons_succ, List.set_cons_zero, List.set_cons_succ, setAll, wipeP, Option.some.injEq, exists_eq_left', exists_eq_left, Res.sat_ok, Res.sat_guard, finF_ret, finF_next, finT_ret, finT_next, cTest_nil, cTest_nm, cElt_nm, fBody_nm, t_bl, m_lst, m_ref, m_dct, m_dref, b_add, b_sub, b_mul, b_div, b_mod, b_cat, c_eqI, c_neI, c_ltI, c_leI, c_gtI, c_geI, c_eqS, c_neS, f_int, f_lenL, f_lenT, f_lenS, f_lenC, f_tupL, PV.tup.injEq, PV.lst.injEq, decide_eq_true_eq, decide_eq_false_iff_not, Bool.and_eq_true, Bool.not_eq_true', Bool.not_true, Bool.not_false, true_and, and_true]
  exact ⟨_, fz_rf rfl, rfl, take_self S⟩
/-! ### texts of numbers -/
theorem f_reprI {fr : Bool} {i : Int} (h : i.natAbs.log2 < 1920) : bfunR G c .repr fr [.int i] S = .ok (.str (Str.ofString (toString i))) S := by
  have e : bfun .repr [.int i] S = some (.str (Str.ofString (toString i))) := by
    unfold bfun
    show (toDS (.int i) S).bind _ = _
    rw [show toDS (.int i) S = some (PyData.int i) from rfl]
    dsimp only [Option.bind]
    rw [if_pos]
    · rfl
    · rw [Bool.and_eq_true, Bool.and_eq_true]
      exact ⟨⟨by simp only [PyData.showable]; exact decide_eq_true h, decide_eq_true (int_text_fits h)⟩, by simp [PyData.depth]⟩
  show ofO (bfun .repr [.int i] S) S = _
  rw [e]; rfl
theorem small_wq {w : Int} {d : Nat} (hw : 1 ≤ w ∧ w ≤ 6) (h2 : 2 ≤ q) (h9 : q ≤ 9) (hd : d ≤ 41) : (w * q ^ d).natAbs.log2 < 1920 := by
  have e : (w * q ^ d).natAbs = w.natAbs * q.natAbs ^ d := by rw [Int.natAbs_mul, Int.natAbs_pow]
  have h1 : q.natAbs ^ d ≤ 9 ^ d := Nat.pow_le_pow_left (by omega) d
  have h3 : (9 : Nat) ^ d ≤ 9 ^ 41 := Nat.pow_le_pow_right (by decide) hd
  have h4 : w.natAbs * q.natAbs ^ d ≤ 6 * 9 ^ 41 := Nat.mul_le_mul (by omega) (Nat.le_trans h1 h3)
  rw [e]
  by_cases z : w.natAbs * q.natAbs ^ d = 0
  · rw [z]; decide
  · exact Nat.lt_trans ((Nat.log2_lt z (k := 200)).mpr (Nat.lt_of_le_of_lt h4 (by decide))) (by decide)
/-- one kind -/
theorem good_one {q w : Int} {x : List Nat} (h2 : 2 ≤ q) (h9 : q ≤ 9) (hw : 1 ≤ w ∧ w ≤ 6) (hx : nmOk x) : GoodR q (fun _ => w) [⟨x, w, List.replicate q.toNat x⟩] := by
  refine ⟨h2, h9, by simp, by simp, by simp, ?_, ?_, ?_⟩
  · intro s hs
    rw [List.mem_singleton] at hs
    subst hs; exact hx
  · intro s hs
    rw [List.mem_singleton] at hs
    subst hs; exact ⟨rfl, hw⟩
  · intro s hs
    rw [List.mem_singleton] at hs
    subst hs
    refine ⟨fun y hy => ?_, ?_, by simp; omega⟩
    · rw [(List.mem_replicate.mp hy).2]; simp
    · show ((List.replicate q.toNat x).map fun _ => w).sum = q * w
      rw [List.map_replicate, sum_rep, Int.toNat_of_nonneg (by omega)]
end
end PyI
set_option Elab.async false
set_option linter.all false
set_option maxRecDepth 100000
set_option maxHeartbeats 4000000
/-! LawM: how many parts, as plain sums -/
namespace PyI
open PySem PySem.Spec PyProof.Rows
theorem nm_inj {α β : Type} {f : α → β} : ∀ {l : List α}, (l.map f).Nodup → ∀ {a b : α}, a ∈ l → b ∈ l → f a = f b → a = b
  | [], _, _, _, h, _, _ => by cases h
  | x :: t, nd, a, b, ha, hb, e => by
    rw [List.map_cons, List.nodup_cons] at nd
    rcases List.mem_cons.mp ha with rfl | ha'
    · rcases List.mem_cons.mp hb with rfl | hb'
      · rfl
      · exact absurd (List.mem_map.mpr ⟨b, hb', e.symm⟩) nd.1
    · rcases List.mem_cons.mp hb with rfl | hb'
      · exact absurd (List.mem_map.mpr ⟨a, ha', e⟩) nd.1
      · exact nm_inj nd.2 ha' hb' e
theorem exR {q : Int} {W : List Nat → Int} {L : List Srt} (g : GoodR q W L) : ∃ R : List Nat → List (List Nat), ∀ s ∈ L, R s.nm = s.row := by
  refine ⟨fun x => (look (L.map keyS) (L.map (·.row)) (.s (SX.S x))).getD [], fun s hs => ?_⟩
  obtain ⟨s', h1, h2, h3⟩ := look_srt (fun s : Srt => s.row) (List.mem_map.mpr ⟨s, hs, rfl⟩ : s.nm ∈ L.map (·.nm))
  have := nm_inj g.nd h1 hs h2
  subst this
  show (look _ _ _).getD [] = _
  rw [h3]; rfl
def cnt (R : List Nat → List (List Nat)) : Nat → List Nat → List Nat → Int
  | 0, x, y => if x = y then 1 else 0
  | d + 1, x, y => ((R x).map fun p => cnt R d p y).sum
def occ (y : List Nat) (row : List (List Nat)) : Int := (row.map fun p => if p = y then (1 : Int) else 0).sum
def lat (L : List Srt) (v : List Nat → Int) (y : List Nat) : Int := (L.map fun s => v s.nm * occ y s.row).sum
theorem sum_add {α : Type} (f g : α → Int) : ∀ l : List α, (l.map fun a => f a + g a).sum = (l.map f).sum + (l.map g).sum
  | [] => rfl
  | x :: t => by
    simp only [List.map_cons, List.sum_cons, sum_add f g t]
    omega
theorem sum_zero {α : Type} : ∀ l : List α, (l.map fun _ => (0 : Int)).sum = 0
  | [] => rfl
  | x :: t => by simp only [List.map_cons, List.sum_cons, sum_zero t]; rfl
theorem sum_swap {α β : Type} (f : α → β → Int) : ∀ (A : List α) (B : List β), (A.map fun a => (B.map fun b => f a b).sum).sum = (B.map fun b => (A.map fun a => f a b).sum).sum
  | [], B => by simp only [List.map_nil, List.sum_nil]; exact (sum_zero B).symm
  | a :: t, B => by
    simp only [List.map_cons, List.sum_cons, sum_swap f t B]
    rw [sum_add]
theorem sum_mulr {α : Type} (f : α → Int) (c : Int) : ∀ l : List α, (l.map fun a => f a * c).sum = (l.map f).sum * c
  | [] => by simp
  | x :: t => by simp only [List.map_cons, List.sum_cons, sum_mulr f c t, Int.add_mul]
theorem sum_mull {α : Type} (f : α → Int) (c : Int) : ∀ l : List α, (l.map fun a => c * f a).sum = c * (l.map f).sum
  | [] => by simp
  | x :: t => by simp only [List.map_cons, List.sum_cons, sum_mull f c t, Int.mul_add]
theorem sum_congr {α : Type} {f g : α → Int} {l : List α} (h : ∀ a ∈ l, f a = g a) : (l.map f).sum = (l.map g).sum := by
  rw [List.map_congr_left h]
theorem sum_pos {α : Type} {f : α → Int} : ∀ {l : List α}, (∀ a ∈ l, 0 ≤ f a) → 0 ≤ (l.map f).sum
  | [], _ => by simp
  | x :: t, h => by
    have h1 := h x List.mem_cons_self
    have h2 := sum_pos (l := t) fun a ha => h a (List.mem_cons_of_mem _ ha)
    simp only [List.map_cons, List.sum_cons]; omega
theorem sum_mem {α : Type} {f : α → Int} : ∀ {l : List α}, (∀ a ∈ l, 0 ≤ f a) → ∀ a ∈ l, f a ≤ (l.map f).sum
  | [], _, a, h => by cases h
  | x :: t, h, a, ha => by
    have h2 := sum_pos (f := f) (l := t) fun a ha => h a (List.mem_cons_of_mem _ ha)
    simp only [List.map_cons, List.sum_cons]
    rcases List.mem_cons.mp ha with rfl | ha
    · omega
    · have := sum_mem (l := t) (fun a ha => h a (List.mem_cons_of_mem _ ha)) a ha
      have := h x List.mem_cons_self
      omega
/-- one of them alone -/
theorem sum_one {F : Srt → Int} : ∀ {L : List Srt}, (L.map (·.nm)).Nodup → ∀ {s0 : Srt}, s0 ∈ L → (L.map fun s => (if s0.nm = s.nm then (1 : Int) else 0) * F s).sum = F s0
  | [], _, _, h => by cases h
  | x :: t, nd, s0, h => by
    rw [List.map_cons, List.nodup_cons] at nd
    simp only [List.map_cons, List.sum_cons]
    rcases List.mem_cons.mp h with rfl | h
    · have : (t.map fun s => (if s0.nm = s.nm then (1 : Int) else 0) * F s).sum = (t.map fun _ => (0 : Int)).sum := by
        refine sum_congr fun a ha => ?_
        rw [if_neg (fun e => nd.1 (List.mem_map.mpr ⟨a, ha, e.symm⟩)), Int.zero_mul]
      rw [this, sum_zero, if_pos rfl, Int.one_mul, Int.add_zero]
    · rw [sum_one nd.2 h, if_neg (fun e => nd.1 (List.mem_map.mpr ⟨s0, h, e⟩)), Int.zero_mul, Int.zero_add]
section
variable {q : Int} {W : List Nat → Int} {L : List Srt} {R : List Nat → List (List Nat)}
theorem r_mem (g : GoodR q W L) (hR : ∀ s ∈ L, R s.nm = s.row) {x : List Nat} (hx : x ∈ L.map (·.nm)) : ∀ p ∈ R x, p ∈ L.map (·.nm) := by
  obtain ⟨s, hs, rfl⟩ := List.mem_map.mp hx
  rw [hR s hs]
  exact (g.row s hs).1
theorem lat_cnt (g : GoodR q W L) (hR : ∀ s ∈ L, R s.nm = s.row) : ∀ (d : Nat) {x : List Nat} (y : List Nat), x ∈ L.map (·.nm) → lat L (cnt R d x) y = cnt R (d + 1) x y
  | 0, x, y, hx => by
    obtain ⟨s0, hs, rfl⟩ := List.mem_map.mp hx
    show (L.map fun s => (if s0.nm = s.nm then (1 : Int) else 0) * occ y s.row).sum = ((R s0.nm).map fun p => if p = y then (1 : Int) else 0).sum
    rw [sum_one (F := fun s => occ y s.row) g.nd hs, hR s0 hs]
    rfl
  | d + 1, x, y, hx => by
    show (L.map fun s => ((R x).map fun p => cnt R d p s.nm).sum * occ y s.row).sum = ((R x).map fun p => cnt R (d + 1) p y).sum
    have e1 : (L.map fun s => ((R x).map fun p => cnt R d p s.nm).sum * occ y s.row).sum = (L.map fun s => ((R x).map fun p => cnt R d p s.nm * occ y s.row).sum).sum :=
      sum_congr fun s _ => (sum_mulr _ _ _).symm
    rw [e1, sum_swap]
    exact sum_congr fun p hp => lat_cnt g hR d y (r_mem g hR hx p hp)
theorem width_cnt (g : GoodR q W L) (hR : ∀ s ∈ L, R s.nm = s.row) : ∀ (d : Nat) {x : List Nat}, x ∈ L.map (·.nm) → (L.map fun s => s.w * cnt R d x s.nm).sum = W x * q ^ d
  | 0, x, hx => by
    obtain ⟨s0, hs, rfl⟩ := List.mem_map.mp hx
    have : (L.map fun s => s.w * cnt R 0 s0.nm s.nm).sum = (L.map fun s => (if s0.nm = s.nm then (1 : Int) else 0) * s.w).sum := sum_congr fun s _ => Int.mul_comm _ _
    rw [this, sum_one (F := fun s => s.w) g.nd hs, (g.w s0 hs).1, Int.pow_zero, Int.mul_one]
  | d + 1, x, hx => by
    have e1 : (L.map fun s => s.w * cnt R (d + 1) x s.nm).sum = (L.map fun s => ((R x).map fun p => s.w * cnt R d p s.nm).sum).sum :=
      sum_congr fun s _ => (sum_mull _ _ _).symm
    rw [e1, sum_swap]
    have e2 : ((R x).map fun p => (L.map fun s => s.w * cnt R d p s.nm).sum).sum = ((R x).map fun p => W p * q ^ d).sum := sum_congr fun p hp => width_cnt g hR d (r_mem g hR hx p hp)
    rw [e2, sum_mulr]
    obtain ⟨s0, hs, rfl⟩ := List.mem_map.mp hx
    rw [hR s0 hs]
    have := (g.row s0 hs).2.1
    rw [show (s0.row.map fun p => W p) = s0.row.map W from rfl, this, (g.w s0 hs).1, Int.pow_succ]
    rw [Int.mul_comm q s0.w, Int.mul_assoc, Int.mul_comm q]
theorem cnt_nn : ∀ (d : Nat) (x y : List Nat), 0 ≤ cnt R d x y
  | 0, x, y => by
    unfold cnt
    split <;> omega
  | d + 1, x, y => sum_pos fun p _ => cnt_nn d p y
theorem cnt_le (g : GoodR q W L) (hR : ∀ s ∈ L, R s.nm = s.row) (d : Nat) {x : List Nat} (hx : x ∈ L.map (·.nm)) {s : Srt} (hs : s ∈ L) : cnt R d x s.nm ≤ W x * q ^ d := by
  rw [← width_cnt g hR d hx]
  have h := sum_mem (f := fun s : Srt => s.w * cnt R d x s.nm) (l := L) (fun a ha => Int.mul_nonneg (by have := (g.w a ha).2.1; omega) (cnt_nn d x a.nm)) s hs
  have w1 := (g.w s hs).2.1
  have c0 := cnt_nn (R := R) d x s.nm
  have : 1 * cnt R d x s.nm ≤ s.w * cnt R d x s.nm := Int.mul_le_mul_of_nonneg_right w1 c0
  have h' : s.w * cnt R d x s.nm ≤ (L.map fun s => s.w * cnt R d x s.nm).sum := h
  omega
theorem cnt_small (g : GoodR q W L) (hR : ∀ s ∈ L, R s.nm = s.row) {d : Nat} (hd : d ≤ 41) {x : List Nat} (hx : x ∈ L.map (·.nm)) {s : Srt} (hs : s ∈ L) : (cnt R d x s.nm).natAbs.log2 < 1920 := by
  have h1 := cnt_le g hR d hx hs
  have h0 := cnt_nn (R := R) d x s.nm
  obtain ⟨s0, hs0, rfl⟩ := List.mem_map.mp hx
  have hw := g.w s0 hs0
  rw [hw.1] at h1
  have e : (s0.w * q ^ d).natAbs = s0.w.natAbs * q.natAbs ^ d := by rw [Int.natAbs_mul, Int.natAbs_pow]
  have q2 := g.q2
  have q9 := g.q9
  have a1 : q.natAbs ^ d ≤ 9 ^ d := Nat.pow_le_pow_left (by omega) d
  have a3 : (9 : Nat) ^ d ≤ 9 ^ 41 := Nat.pow_le_pow_right (by decide) hd
  have a4 : s0.w.natAbs * q.natAbs ^ d ≤ 6 * 9 ^ 41 := Nat.mul_le_mul (by omega) (Nat.le_trans a1 a3)
  have a5 : (cnt R d s0.nm s.nm).natAbs ≤ 6 * 9 ^ 41 := by omega
  by_cases z : (cnt R d s0.nm s.nm).natAbs = 0
  · rw [z]; decide
  · exact Nat.lt_trans ((Nat.log2_lt z (k := 200)).mpr (Nat.lt_of_le_of_lt a5 (by decide))) (by decide)
theorem range_map {α β : Type} (f : α → β) : ∀ (l : List α) (d : α), (List.range l.length).map (fun j => f (l.getD j d)) = l.map f := by
  intro l d
  refine List.ext_getElem (by simp) fun i h1 h2 => ?_
  have hi : i < l.length := by simpa using h2
  simp [List.getD_eq_getElem?_getD, List.getElem?_eq_getElem hi]
end
end PyI
set_option Elab.async false
set_option linter.all false
set_option maxRecDepth 100000
set_option maxHeartbeats 8000000
/-! LawN: the counting tables -/
namespace PyI
open PySem PySem.Spec PyProof.Rows
instance : Inhabited Srt := ⟨⟨[], 0, []⟩⟩
def vecV (L : List Srt) (v : List Nat → Int) : PV := .tup (L.map fun s => .int (v s.nm))
def HasD (L : List Srt) (S : Store) (v : PV) (F : List Nat → PV) : Prop := v = .dct (L.map keyS) (L.map fun s => F s.nm) ∨ ∃ m, v = .ref m ∧ S[m]? = some (.dct (L.map keyS) (L.map fun s => F s.nm))
section
variable {G : Tab} {S : Store} {c : Nat → Nat → List PV → Store → Res PV} {n k : Nat} {L : List Srt} {W : List Nat → Int} {R : List Nat → List (List Nat)} {q : Int} {C mh mw mr : Nat}
theorem HasD.get {v : PV} {F : List Nat → PV} (h : HasD L S v F) {x : List Nat} (hx : x ∈ L.map (·.nm)) : getIx v (nmV x) S = some (F x) := by
  obtain ⟨s, hs, e1, e2⟩ := look_srt (fun s => F s.nm) hx
  have key : ((lookD (L.map keyS) (L.map fun s => F s.nm) (.s (SX.S x))).bind id) = some (F x) := by
    unfold lookD
    rw [if_pos (kind_keys L _), e2, e1]; rfl
  rcases h with rfl | ⟨m, rfl, h⟩
  · exact key
  · unfold getIx dictOf
    simp only [h]
    exact key
theorem HasD.app {v : PV} {F : List Nat → PV} (h : HasD L S v F) (T : Store) : HasD L (S ++ T) v F := by
  rcases h with h | ⟨m, e, h⟩
  · exact .inl h
  · refine .inr ⟨m, e, ?_⟩
    rw [List.getElem?_append_left (List.getElem?_eq_some_iff.mp h).1]
    exact h
theorem vec_get {v : List Nat → Int} {i : Nat} (hi : i < L.length) : getIx (vecV L v) (.int (i : Int)) S = some (.int (v (L.getD i default).nm)) := by
  unfold vecV
  rw [g_tup]
  refine atI_nat ?_
  rw [List.getElem?_map, List.getElem?_eq_getElem hi, List.getD_eq_getElem?_getD, List.getElem?_eq_getElem hi]
  rfl
theorem vec_getD {v : List Nat → Int} {i : Nat} (hi : i < L.length) : (L.map fun s => PV.int (v s.nm)).getD i .non = .int (v (L.getD i default).nm) := by
  rw [List.getD_eq_getElem?_getD, List.getD_eq_getElem?_getD, List.getElem?_map, List.getElem?_eq_getElem hi]
  rfl
theorem atI_last {α : Type} {xs : List α} {x : α} : L2.atI (xs ++ [x]) (-1) = some x := by
  unfold L2.atI L2.ixN
  rw [if_neg (by decide), if_pos (by rw [List.length_append, List.length_singleton]; omega)]
  show (xs ++ [x])[((-1 : Int) + ((xs ++ [x]).length : Int)).toNat]? = _
  have : ((-1 : Int) + ((xs ++ [x]).length : Int)).toNat = xs.length := by rw [List.length_append, List.length_singleton]; omega
  rw [this]
  simp
theorem bm_appendR {n l : Nat} {fr : Bool} {xs : List PV} {v : PV} {P : PV → Store → Prop} (h : S[l]? = some (.lst xs)) (hn : n ≤ l) (hk : xs.length < sizeLine) (hP : P .non (S.set l (.lst (xs ++ [v])))) : (bmR n .append fr (.ref l) [v] S).sat P := by
  unfold bmR bmethW
  have : apnd n (.ref l) v S = some (S.set l (.lst (xs ++ [v]))) := by
    unfold apnd
    simp [h, hn, hk]
  simp only [this]
  exact hP
theorem rowAt_eq {f fck fn fnm mn : Nat} (hf : G.fns[f]? = some ⟨2, 2, Lib.Ruler_width fck mr, 3, false⟩) (hck : G.fns[fck]? = some ⟨2, 2, Lib.check_kind fn mn, 2, false⟩) (hn : G.fns[fn]? = some ⟨1, 2, Lib.is_name, 1, false⟩) (hnm : G.fns[fnm]? = some ⟨1, 2, Lib.Ruler_names mh, 1, false⟩) (hp : ((G.cls[C]?).bind fun k => k.props.lookup mn) = some fnm) (hk : 3 ≤ k) (rc : RC G C mh mw mr) (g : GoodR q W L) {s : Srt} (hs : s ∈ L) :
    callN G k f S.length [rulerV C mh mw mr q L, nmV s.nm] S = .ok (rowV s) S := by
  obtain ⟨s', h1, h2, h3⟩ := row_eq (S := S) hf hck hn hnm hp hk rc g (List.mem_map.mpr ⟨s, hs, rfl⟩)
  have := nm_inj g.nd h1 hs h2
  subst this
  exact h3
theorem f_intB {fr : Bool} {b : Bool} : bfunR G c .int fr [.bl b] S = .ok (.int (if b then 1 else 0)) S := by cases fr <;> rfl
theorem dcomp_gen {ok : Store → Bool} {test : PV → Store → Res Bool} {elt : PV → Store → Res (DKey × PV)} {P : List DKey × List PV → Store → Prop} (V : Srt → PV) (f : Srt → PV) (hok : ok S = true) : ∀ (L A : List Srt), (∀ s ∈ L, (test (V s) S).sat fun b S1 => b = true ∧ S1 = S) →
    (∀ s ∈ L, (elt (V s) S).sat fun kv S1 => kv = (keyS s, f s) ∧ S1 = S) → ((A ++ L).map (·.nm)).Nodup → (A ++ L).length ≤ 1000 → P ((A ++ L).map keyS, (A ++ L).map f) S → (dcompLoop ok test elt (L.map V) (A.map keyS) (A.map f) S).sat P
  | [], A, _, _, _, _, hP => by
    rw [List.map_nil]
    unfold dcompLoop
    rw [if_pos hok]
    rw [List.append_nil] at hP
    exact hP
  | s :: t, A, ht, he, nd, hl, hP => by
    rw [List.map_cons]
    unfold dcompLoop
    rw [if_pos hok, Res.sat_bind]
    refine Res.sat_mono (ht s List.mem_cons_self) fun b S1 z => ?_
    obtain ⟨z1, z2⟩ := z
    rw [z1, z2, if_pos rfl, Res.sat_bind]
    refine Res.sat_mono (he s List.mem_cons_self) fun kv S2 z => ?_
    obtain ⟨z1, z2⟩ := z
    rw [z1, z2]
    have nin : s.nm ∉ A.map (·.nm) := by
      intro z
      rw [List.map_append, List.nodup_append] at nd
      exact nd.2.2 _ z s.nm List.mem_cons_self rfl
    have hA : A.length < sizeLine := by
      rw [List.length_append, List.length_cons] at hl
      rw [sizeLine_eq]; omega
    rw [if_pos (by rw [Bool.and_eq_true, decide_eq_true_eq]; exact ⟨by rw [List.length_map]; exact hA, rfl⟩), put_ks nin, put_vs f nin]
    have e : A ++ s :: t = (A ++ [s]) ++ t := by simp
    rw [e] at nd hl hP
    exact dcomp_gen V f hok t (A ++ [s]) (fun s' h => ht s' (List.mem_cons_of_mem _ h)) (fun s' h => he s' (List.mem_cons_of_mem _ h)) nd hl hP
def tabV (L : List Srt) (R : List Nat → List (List Nat)) (e : Nat) : PV := .dct (L.map keyS) (L.map fun s => vecV L (cnt R e s.nm))
def tabO (L : List Srt) (R : List Nat → List (List Nat)) (e : Nat) : PO := .dct (L.map keyS) (L.map fun s => vecV L (cnt R e s.nm))
def tabs (L : List Srt) (R : List Nat → List (List Nat)) (b j : Nat) : List PV := tabV L R 0 :: (List.range j).map fun i => PV.ref (b + 1 + i)
def tabS (S : Store) (L : List Srt) (R : List Nat → List (List Nat)) (j : Nat) : Store := S ++ (PO.lst (tabs L R S.length j) :: (List.range j).map fun i => tabO L R (i + 1))
theorem tabS_len (j : Nat) : (tabS S L R j).length = S.length + 1 + j := by
  unfold tabS
  simp
  omega
theorem tabS_lst (j : Nat) : (tabS S L R j)[S.length]? = some (.lst (tabs L R S.length j)) := by
  unfold tabS
  simp
theorem tabS_obj {j i : Nat} (h : i < j) : (tabS S L R j)[S.length + 1 + i]? = some (tabO L R (i + 1)) := by
  unfold tabS
  rw [List.getElem?_append_right (by omega), show S.length + 1 + i - S.length = i + 1 by omega, List.getElem?_cons_succ, List.getElem?_map, List.getElem?_range h]
  rfl
theorem tabS_succ (j : Nat) : (tabS S L R j ++ [tabO L R (j + 1)]).set S.length (.lst (tabs L R S.length j ++ [.ref (S.length + 1 + j)])) = tabS S L R (j + 1) := by
  unfold tabS tabs
  rw [List.append_assoc, List.set_append_right _ _ (Nat.le_refl _), Nat.sub_self, List.cons_append, List.set_cons_zero, List.range_succ, List.map_append, List.map_append]
  rfl
/-- the last table -/
theorem tabs_last (j : Nat) : ∃ v, L2.atI (tabs L R S.length j) (-1) = some v ∧ HasD L (tabS S L R j) v (fun x => vecV L (cnt R j x)) := by
  cases j with
  | zero => exact ⟨tabV L R 0, atI_last (xs := []), .inl rfl⟩
  | succ j =>
    refine ⟨.ref (S.length + 1 + j), ?_, .inr ⟨_, rfl, tabS_obj (Nat.lt_succ_self j)⟩⟩
    have : tabs L R S.length (j + 1) = tabs L R S.length j ++ [.ref (S.length + 1 + j)] := by
      unfold tabs
      rw [List.range_succ, List.map_append]; rfl
    rw [this]; exact atI_last
theorem rfs_vec {f : Srt → List Nat → Int} (A : List Srt) : PV.rfs (A.map fun s => vecV L (f s)) = true := by
  rw [PV.rfs_eq, List.all_map, List.all_eq_true]
  intro s _
  show PV.rf (vecV L (f s)) = true
  unfold vecV
  simp only [PV.rf]
  rw [PV.rfs_eq, List.all_map, List.all_eq_true]
  intro _ _; rfl
theorem fz_tabs {j d : Nat} (h : d = j) : fz (tabS S L R j) S.length 6 (.ref S.length) = some (.lst ((List.range (j + 1)).map (tabV L R))) := by
  have key : ∀ xs : List Nat, (∀ e ∈ xs, e < j) → mapO (fz (tabS S L R j) S.length 5) (xs.map fun i => PV.ref (S.length + 1 + i)) = some (xs.map fun i => tabV L R (i + 1)) := by
    intro xs hx
    induction xs with
    | nil => rfl
    | cons e t ih =>
      rw [List.map_cons]
      unfold mapO
      have e1 : fz (tabS S L R j) S.length 5 (.ref (S.length + 1 + e)) = some (tabV L R (e + 1)) := by
        unfold fz
        rw [if_neg (by simp [PV.rf])]
        simp only [tabS_obj (hx e List.mem_cons_self), tabO]
        rw [if_neg (by omega), mapO_some (f := fz _ S.length 4) fun x hx => by
          unfold fz
          rw [if_pos (List.all_eq_true.mp (by rw [← PV.rfs_eq]; exact rfs_vec (f := fun s => cnt R (e + 1) s.nm) L) x hx)]]
        rfl
      rw [e1, ih fun a ha => hx a (List.mem_cons_of_mem _ ha)]
      rfl
  unfold fz
  rw [if_neg (by simp [PV.rf])]
  simp only [tabS_lst]
  rw [if_neg (by omega)]
  unfold tabs mapO
  have e0 : fz (tabS S L R j) S.length 5 (tabV L R 0) = some (tabV L R 0) := by
    unfold fz
    rw [if_pos (by unfold tabV; simp only [PV.rf]; exact rfs_vec (f := fun s => cnt R 0 s.nm) L)]
  rw [e0, key _ fun e he => List.mem_range.mp he, List.range_succ_eq_map, List.map_cons, List.map_map]
  rfl
theorem tables_eq {f frow fck fn fnm mn mrow : Nat} (hf : G.fns[f]? = some ⟨2, 13, Lib.count_tables mn mrow, 4, false⟩) (hrow : G.fns[frow]? = some ⟨2, 2, Lib.Ruler_width fck mr, 3, false⟩) (hck : G.fns[fck]? = some ⟨2, 2, Lib.check_kind fn mn, 2, false⟩) (hn : G.fns[fn]? = some ⟨1, 2, Lib.is_name, 1, false⟩) (hnm : G.fns[fnm]? = some ⟨1, 2, Lib.Ruler_names mh, 1, false⟩)
    (hp : ((G.cls[C]?).bind fun k => k.props.lookup mn) = some fnm) (hm : ((G.cls[C]?).bind fun k => k.meths.lookup mrow) = some frow) (hno : [mh, mw, mr].contains mrow = false) (hk : 4 ≤ k) (rc : RC G C mh mw mr) (g : GoodR q W L) (hR : ∀ s ∈ L, R s.nm = s.row) {d : Nat} (hd : d ≤ 100) :
    callN G k f S.length [rulerV C mh mw mr q L, .int (d : Int)] S = .ok (.lst ((List.range (d + 1)).map (tabV L R))) S := by
  refine Res.sat_eq (callF hf (by decide) hk rfl (by decide) ?_)
  unfold Lib.count_tables
  simp only [x_cons, x_nil, x_asg, x_asgT, x_asgS, x_asgA, x_aug, x_ex, x_ret, x_retN, x_if, x_for, x_pass, x_brk, x_cnt, x_try, w_var, w_cst, w_glb, w_tup, w_lst, w_dct0, w_neg, w_bin, w_cmp, w_chain, w_and_, w_or_, w_and1_, w_and2_, w_or1_, w_or2_, w_not, w_ife, w_sub, w_sl1, w_sl2, w_sl3, w_attr, w_call, w_callK, w_new, w_meth, w_cmeth, w_bf, w_bm, w_isi, w_fstr, w_comp, w_dcomp, w_nil, w_cons, w_ie, w_rng, w_enum, w_zip, w_tnil, w_tcons, Fl.go_next, Fl.go_ret, Fl.go_brk, Fl.go_cnt, List.map_cons, List.map_nil, List.cons_append, List.nil_append, List.replicate, List.length_cons, List.length_nil, Nat.sub_self, Nat.reduceSub, Nat.reduceAdd, List.getElem?_cons_zero, List.getElem?_cons_succ, List.set_cons_zero, List.set_cons_succ, setAll, wipeP, Option.some.injEq, exists_eq_left', exists_eq_left, Res.sat_ok, Res.sat_guard, finF_ret, finF_next, finT_ret, finT_next, cTest_nil, cTest_nm, cElt_nm, fBody_nm, t_bl, m_lst, m_ref, m_dct, m_dref, b_add, b_sub, b_mul, b_div, b_mod, b_cat, c_eqI, c_neI, c_ltI, c_leI, c_gtI, c_geI, c_eqS, c_neS, f_int, f_lenL, f_lenT, f_lenS, f_lenC, f_tupL, PV.tup.injEq, PV.lst.injEq, decide_eq_true_eq, decide_eq_false_iff_not, Bool.and_eq_true, Bool.not_eq_true', Bool.not_true, Bool.not_false, true_and, and_true]
  have few := g.few
  rw [show rulerV C mh mw mr q L = .ins C [mh, mw, mr] _ from rfl, at_prop hp, Res.sat_noX]
  show ((callN G 3 fnm S.length [rulerV C mh mw mr q L] S).sat _)
  rw [names_eq hnm (by decide) rc g]
  simp only [x_cons, x_nil, x_asg, x_asgT, x_asgS, x_asgA, x_aug, x_ex, x_ret, x_retN, x_if, x_for, x_pass, x_brk, x_cnt, x_try, w_var, w_cst, w_glb, w_tup, w_lst, w_dct0, w_neg, w_bin, w_cmp, w_chain, w_and_, w_or_, w_and1_, w_and2_, w_or1_, w_or2_, w_not, w_ife, w_sub, w_sl1, w_sl2, w_sl3, w_attr, w_call, w_callK, w_new, w_meth, w_cmeth, w_bf, w_bm, w_isi, w_fstr, w_comp, w_dcomp, w_nil, w_cons, w_ie, w_rng, w_enum, w_zip, w_tnil, w_tcons, Fl.go_next, Fl.go_ret, Fl.go_brk, Fl.go_cnt, List.map_cons, List.map_nil, List.cons_append, List.nil_append, List.replicate, List.length_cons, List.length_nil, Nat.sub_self, Nat.reduceSub, Nat.reduceAdd, List.getElem?_cons_zero, List.getElem?_cons_succ, List.set_cons_zero, List.set_cons_succ, setAll, wipeP, Option.some.injEq, exists_eq_left', exists_eq_left, Res.sat_ok, Res.sat_guard, finF_ret, finF_next, finT_ret, finT_next, cTest_nil, cTest_nm, cElt_nm, fBody_nm, t_bl, m_lst, m_ref, m_dct, m_dref, b_add, b_sub, b_mul, b_div, b_mod, b_cat, c_eqI, c_neI, c_ltI, c_leI, c_gtI, c_geI, c_eqS, c_neS, f_int, f_lenL, f_lenT, f_lenS, f_lenC, f_tupL, PV.tup.injEq, PV.lst.injEq, decide_eq_true_eq, decide_eq_false_iff_not, Bool.and_eq_true, Bool.not_eq_true', Bool.not_true, Bool.not_false, true_and, and_true]
  refine ⟨_, rfl, ?_⟩
  rw [List.map_map]
  have ind : ∀ s ∈ L, ∀ {ps : Ev} {P : PV → Store → Prop}, ps[4]? = some (some (nmV s.nm)) → True := fun _ _ _ _ _ => trivial
  refine dcomp_gen (nmV ∘ fun s : Srt => s.nm) (fun s => vecV L (cnt R 0 s.nm)) (stay_nil _) L [] (fun s _ => ?_) (fun s _ => ?_) (by simpa using g.nd) (by simp; omega) ?_
  · rw [cTest_nil]; exact ⟨rfl, rfl⟩
  · rw [cKv_nm]
    simp only [x_cons, x_nil, x_asg, x_asgT, x_asgS, x_asgA, x_aug, x_ex, x_ret, x_retN, x_if, x_for, x_pass, x_brk, x_cnt, x_try, w_var, w_cst, w_glb, w_tup, w_lst, w_dct0, w_neg, w_bin, w_cmp, w_chain, w_and_, w_or_, w_and1_, w_and2_, w_or1_, w_or2_, w_not, w_ife, w_sub, w_sl1, w_sl2, w_sl3, w_attr, w_call, w_callK, w_new, w_meth, w_cmeth, w_bf, w_bm, w_isi, w_fstr, w_comp, w_dcomp, w_nil, w_cons, w_ie, w_rng, w_enum, w_zip, w_tnil, w_tcons, Fl.go_next, Fl.go_ret, Fl.go_brk, Fl.go_cnt, List.map_cons, List.map_nil, List.cons_append, List.nil_append, List.replicate, List.length_cons, List.length_nil, Nat.sub_self, Nat.reduceSub, Nat.reduceAdd, List.getElem?_cons_zero, List.getElem?_cons_succ, List.set_cons_zero, List.set_cons_succ, setAll, wipeP, Option.some.injEq, exists_eq_left', exists_eq_left, Res.sat_ok, Res.sat_guard, finF_ret, finF_next, finT_ret, finT_next, cTest_nil, cTest_nm, cElt_nm, fBody_nm, t_bl, m_lst, m_ref, m_dct, m_dref, b_add, b_sub, b_mul, b_div, b_mod, b_cat, c_eqI, c_neI, c_ltI, c_leI, c_gtI, c_geI, c_eqS, c_neS, f_int, f_lenL, f_lenT, f_lenS, f_lenC, f_tupL, PV.tup.injEq, PV.lst.injEq, decide_eq_true_eq, decide_eq_false_iff_not, Bool.and_eq_true, Bool.not_eq_true', Bool.not_true, Bool.not_false, true_and, and_true, Function.comp]
    refine ⟨_, rfl, ?_⟩
    refine comp_map (fun v => match v with
      | .str y => .int (if s.nm = y.cps.toList then 1 else 0)
      | _ => .non) (stay_nil _) (by rw [List.length_map, sizeLine_eq]; omega) (fun y hy => ?_) (fun y hy => ?_) ?_
    · rw [cTest_nil]; exact ⟨rfl, rfl⟩
    · obtain ⟨t, ht, rfl⟩ := List.mem_map.mp hy
      simp only [x_cons, x_nil, x_asg, x_asgT, x_asgS, x_asgA, x_aug, x_ex, x_ret, x_retN, x_if, x_for, x_pass, x_brk, x_cnt, x_try, w_var, w_cst, w_glb, w_tup, w_lst, w_dct0, w_neg, w_bin, w_cmp, w_chain, w_and_, w_or_, w_and1_, w_and2_, w_or1_, w_or2_, w_not, w_ife, w_sub, w_sl1, w_sl2, w_sl3, w_attr, w_call, w_callK, w_new, w_meth, w_cmeth, w_bf, w_bm, w_isi, w_fstr, w_comp, w_dcomp, w_nil, w_cons, w_ie, w_rng, w_enum, w_zip, w_tnil, w_tcons, Fl.go_next, Fl.go_ret, Fl.go_brk, Fl.go_cnt, List.map_cons, List.map_nil, List.cons_append, List.nil_append, List.replicate, List.length_cons, List.length_nil, Nat.sub_self, Nat.reduceSub, Nat.reduceAdd, List.getElem?_cons_zero, List.getElem?_cons_succ, List.set_cons_zero, List.set_cons_succ, setAll, wipeP, Option.some.injEq, exists_eq_left', exists_eq_left, Res.sat_ok, Res.sat_guard, finF_ret, finF_next, finT_ret, finT_next, cTest_nil, cTest_nm, cElt_nm, fBody_nm, t_bl, m_lst, m_ref, m_dct, m_dref, b_add, b_sub, b_mul, b_div, b_mod, b_cat, c_eqI, c_neI, c_ltI, c_leI, c_gtI, c_geI, c_eqS, c_neS, f_int, f_lenL, f_lenT, f_lenS, f_lenC, f_tupL, PV.tup.injEq, PV.lst.injEq, decide_eq_true_eq, decide_eq_false_iff_not, Bool.and_eq_true, Bool.not_eq_true', Bool.not_true, Bool.not_false, true_and, and_true, Function.comp]
      rw [show cmpR G (callN G 3) .Eq (nmV s.nm) (nmV t.nm) S = .ok (decide (SX.S s.nm = SX.S t.nm)) S from rfl]
      simp only [x_cons, x_nil, x_asg, x_asgT, x_asgS, x_asgA, x_aug, x_ex, x_ret, x_retN, x_if, x_for, x_pass, x_brk, x_cnt, x_try, w_var, w_cst, w_glb, w_tup, w_lst, w_dct0, w_neg, w_bin, w_cmp, w_chain, w_and_, w_or_, w_and1_, w_and2_, w_or1_, w_or2_, w_not, w_ife, w_sub, w_sl1, w_sl2, w_sl3, w_attr, w_call, w_callK, w_new, w_meth, w_cmeth, w_bf, w_bm, w_isi, w_fstr, w_comp, w_dcomp, w_nil, w_cons, w_ie, w_rng, w_enum, w_zip, w_tnil, w_tcons, Fl.go_next, Fl.go_ret, Fl.go_brk, Fl.go_cnt, List.map_cons, List.map_nil, List.cons_append, List.nil_append, List.replicate, List.length_cons, List.length_nil, Nat.sub_self, Nat.reduceSub, Nat.reduceAdd, List.getElem?_cons_zero, List.getElem?_cons_succ, List.set_cons_zero, List.set_cons_succ, setAll, wipeP, Option.some.injEq, exists_eq_left', exists_eq_left, Res.sat_ok, Res.sat_guard, finF_ret, finF_next, finT_ret, finT_next, cTest_nil, cTest_nm, cElt_nm, fBody_nm, t_bl, m_lst, m_ref, m_dct, m_dref, b_add, b_sub, b_mul, b_div, b_mod, b_cat, c_eqI, c_neI, c_ltI, c_leI, c_gtI, c_geI, c_eqS, c_neS, f_int, f_lenL, f_lenT, f_lenS, f_lenC, f_tupL, PV.tup.injEq, PV.lst.injEq, decide_eq_true_eq, decide_eq_false_iff_not, Bool.and_eq_true, Bool.not_eq_true', Bool.not_true, Bool.not_false, true_and, and_true, f_intB]
      show PV.int (if SX.S s.nm = SX.S t.nm then 1 else 0) = PV.int (if s.nm = t.nm then 1 else 0)
      by_cases e : s.nm = t.nm
      · rw [if_pos e, if_pos (by rw [e])]
      · rw [if_neg e, if_neg fun z => e (SX.S_inj z)]
    · rw [List.map_map]
      simp only [x_cons, x_nil, x_asg, x_asgT, x_asgS, x_asgA, x_aug, x_ex, x_ret, x_retN, x_if, x_for, x_pass, x_brk, x_cnt, x_try, w_var, w_cst, w_glb, w_tup, w_lst, w_dct0, w_neg, w_bin, w_cmp, w_chain, w_and_, w_or_, w_and1_, w_and2_, w_or1_, w_or2_, w_not, w_ife, w_sub, w_sl1, w_sl2, w_sl3, w_attr, w_call, w_callK, w_new, w_meth, w_cmeth, w_bf, w_bm, w_isi, w_fstr, w_comp, w_dcomp, w_nil, w_cons, w_ie, w_rng, w_enum, w_zip, w_tnil, w_tcons, Fl.go_next, Fl.go_ret, Fl.go_brk, Fl.go_cnt, List.map_cons, List.map_nil, List.cons_append, List.nil_append, List.replicate, List.length_cons, List.length_nil, Nat.sub_self, Nat.reduceSub, Nat.reduceAdd, List.getElem?_cons_zero, List.getElem?_cons_succ, List.set_cons_zero, List.set_cons_succ, setAll, wipeP, Option.some.injEq, exists_eq_left', exists_eq_left, Res.sat_ok, Res.sat_guard, finF_ret, finF_next, finT_ret, finT_next, cTest_nil, cTest_nm, cElt_nm, fBody_nm, t_bl, m_lst, m_ref, m_dct, m_dref, b_add, b_sub, b_mul, b_div, b_mod, b_cat, c_eqI, c_neI, c_ltI, c_leI, c_gtI, c_geI, c_eqS, c_neS, f_int, f_lenL, f_lenT, f_lenS, f_lenC, f_tupL, PV.tup.injEq, PV.lst.injEq, decide_eq_true_eq, decide_eq_false_iff_not, Bool.and_eq_true, Bool.not_eq_true', Bool.not_true, Bool.not_false, true_and, and_true]
      exact ⟨_, rfl, rfl⟩
  simp only [x_cons, x_nil, x_asg, x_asgT, x_asgS, x_asgA, x_aug, x_ex, x_ret, x_retN, x_if, x_for, x_pass, x_brk, x_cnt, x_try, w_var, w_cst, w_glb, w_tup, w_lst, w_dct0, w_neg, w_bin, w_cmp, w_chain, w_and_, w_or_, w_and1_, w_and2_, w_or1_, w_or2_, w_not, w_ife, w_sub, w_sl1, w_sl2, w_sl3, w_attr, w_call, w_callK, w_new, w_meth, w_cmeth, w_bf, w_bm, w_isi, w_fstr, w_comp, w_dcomp, w_nil, w_cons, w_ie, w_rng, w_enum, w_zip, w_tnil, w_tcons, Fl.go_next, Fl.go_ret, Fl.go_brk, Fl.go_cnt, List.map_cons, List.map_nil, List.cons_append, List.nil_append, List.replicate, List.length_cons, List.length_nil, Nat.sub_self, Nat.reduceSub, Nat.reduceAdd, List.getElem?_cons_zero, List.getElem?_cons_succ, List.set_cons_zero, List.set_cons_succ, setAll, wipeP, Option.some.injEq, exists_eq_left', exists_eq_left, Res.sat_ok, Res.sat_guard, finF_ret, finF_next, finT_ret, finT_next, cTest_nil, cTest_nm, cElt_nm, fBody_nm, t_bl, m_lst, m_ref, m_dct, m_dref, b_add, b_sub, b_mul, b_div, b_mod, b_cat, c_eqI, c_neI, c_ltI, c_leI, c_gtI, c_geI, c_eqS, c_neS, f_int, f_lenL, f_lenT, f_lenS, f_lenC, f_tupL, PV.tup.injEq, PV.lst.injEq, decide_eq_true_eq, decide_eq_false_iff_not, Bool.and_eq_true, Bool.not_eq_true', Bool.not_true, Bool.not_false, true_and, and_true]
  refine ⟨by rw [sizeLine_eq]; omega, _, r_rng (by omega) (by omega), ?_⟩
  have hlen : (rangeL 0 (d : Int)).length = d := by rw [rangeL_nat]; simp
  refine for_inv (k := 0) (fun j ps S' => S' = tabS S L R j ∧ ∃ v4 v6 v7 v8 v9 : Option PV, ps = [some (rulerV C mh mw mr q L), some (.int (d : Int)), some (.tup (L.map (nmV ∘ fun s : Srt => s.nm))), some (.ref S.length), v4, none, v6, v7, v8, v9, none, none, none])
    ⟨rfl, _, _, _, _, _, rfl⟩ (fun _ _ _ _ => stay_nil _) (fun j x ps S' ex h => ?_) fun ps S' h => ?_
  · obtain ⟨rfl, v4, v6, v7, v8, v9, rfl⟩ := h
    rw [Nat.zero_add]
    have hj := (List.getElem?_eq_some_iff.mp ex).1
    rw [hlen] at hj
    obtain ⟨lv, el, hlast⟩ := tabs_last (S := S) (L := L) (R := R) j
    simp only [x_cons, x_nil, x_asg, x_asgT, x_asgS, x_asgA, x_aug, x_ex, x_ret, x_retN, x_if, x_for, x_pass, x_brk, x_cnt, x_try, w_var, w_cst, w_glb, w_tup, w_lst, w_dct0, w_neg, w_bin, w_cmp, w_chain, w_and_, w_or_, w_and1_, w_and2_, w_or1_, w_or2_, w_not, w_ife, w_sub, w_sl1, w_sl2, w_sl3, w_attr, w_call, w_callK, w_new, w_meth, w_cmeth, w_bf, w_bm, w_isi, w_fstr, w_comp, w_dcomp, w_nil, w_cons, w_ie, w_rng, w_enum, w_zip, w_tnil, w_tcons, Fl.go_next, Fl.go_ret, Fl.go_brk, Fl.go_cnt, List.map_cons, List.map_nil, List.cons_append, List.nil_append, List.replicate, List.length_cons, List.length_nil, Nat.sub_self, Nat.reduceSub, Nat.reduceAdd, List.getElem?_cons_zero, List.getElem?_cons_succ, List.set_cons_zero, List.set_cons_succ, setAll, wipeP, Option.some.injEq, exists_eq_left', exists_eq_left, Res.sat_ok, Res.sat_guard, finF_ret, finF_next, finT_ret, finT_next, cTest_nil, cTest_nm, cElt_nm, fBody_nm, t_bl, m_lst, m_ref, m_dct, m_dref, b_add, b_sub, b_mul, b_div, b_mod, b_cat, c_eqI, c_neI, c_ltI, c_leI, c_gtI, c_geI, c_eqS, c_neS, f_int, f_lenL, f_lenT, f_lenS, f_lenC, f_tupL, PV.tup.injEq, PV.lst.injEq, decide_eq_true_eq, decide_eq_false_iff_not, Bool.and_eq_true, Bool.not_eq_true', Bool.not_true, Bool.not_false, true_and, and_true]
    refine ⟨1, rfl, lv, by rw [g_ref (tabS_lst j)]; exact el, by rw [sizeLine_eq]; omega, _, rfl, ?_⟩
    rw [tabS_len]
    have here : ∀ o : PO, (tabS S L R j ++ [o])[S.length + 1 + j]? = some o := fun o => by
      rw [List.getElem?_append_right (by rw [tabS_len]; exact Nat.le_refl _), tabS_len, Nat.sub_self]; rfl
    refine for_inv (k := 0) (fun i ps S' => S' = tabS S L R j ++ [.dct ((L.take i).map keyS) ((L.take i).map fun s => vecV L (cnt R (j + 1) s.nm))] ∧ ∃ v4 v9 : Option PV, ps = [some (rulerV C mh mw mr q L), some (.int (d : Int)), some (.tup (L.map (nmV ∘ fun s : Srt => s.nm))), some (.ref S.length), v4, none, some x, some lv, some (.ref (S.length + 1 + j)), v9, none, none, none])
      ⟨by simp, _, _, rfl⟩ (fun _ _ _ _ => stay_nil _) (fun i y ps S' ey h => ?_) fun ps S' h => ?_
    · obtain ⟨rfl, v4, v9, rfl⟩ := h
      rw [Nat.zero_add]
      have ey' : (L.map (nmV ∘ fun s : Srt => s.nm))[i]? = some y := ey
      rw [List.getElem?_map, Option.map_eq_some_iff] at ey'
      obtain ⟨s, e1, rfl⟩ := ey'
      have hi := (List.getElem?_eq_some_iff.mp e1).1
      have hs := List.mem_of_getElem? e1
      have hrs := g.row s hs
      have hlast2 := hlast.app [.dct ((L.take i).map keyS) ((L.take i).map fun s => vecV L (cnt R (j + 1) s.nm))]
      simp only [x_cons, x_nil, x_asg, x_asgT, x_asgS, x_asgA, x_aug, x_ex, x_ret, x_retN, x_if, x_for, x_pass, x_brk, x_cnt, x_try, w_var, w_cst, w_glb, w_tup, w_lst, w_dct0, w_neg, w_bin, w_cmp, w_chain, w_and_, w_or_, w_and1_, w_and2_, w_or1_, w_or2_, w_not, w_ife, w_sub, w_sl1, w_sl2, w_sl3, w_attr, w_call, w_callK, w_new, w_meth, w_cmeth, w_bf, w_bm, w_isi, w_fstr, w_comp, w_dcomp, w_nil, w_cons, w_ie, w_rng, w_enum, w_zip, w_tnil, w_tcons, Fl.go_next, Fl.go_ret, Fl.go_brk, Fl.go_cnt, List.map_cons, List.map_nil, List.cons_append, List.nil_append, List.replicate, List.length_cons, List.length_nil, Nat.sub_self, Nat.reduceSub, Nat.reduceAdd, List.getElem?_cons_zero, List.getElem?_cons_succ, List.set_cons_zero, List.set_cons_succ, setAll, wipeP, Option.some.injEq, exists_eq_left', exists_eq_left, Res.sat_ok, Res.sat_guard, finF_ret, finF_next, finT_ret, finT_next, cTest_nil, cTest_nm, cElt_nm, fBody_nm, t_bl, m_lst, m_ref, m_dct, m_dref, b_add, b_sub, b_mul, b_div, b_mod, b_cat, c_eqI, c_neI, c_ltI, c_leI, c_gtI, c_geI, c_eqS, c_neS, f_int, f_lenL, f_lenT, f_lenS, f_lenC, f_tupL, PV.tup.injEq, PV.lst.injEq, decide_eq_true_eq, decide_eq_false_iff_not, Bool.and_eq_true, Bool.not_eq_true', Bool.not_true, Bool.not_false, true_and, and_true, Function.comp]
      refine ⟨frow, meth_at hno hm, ?_⟩
      rw [rowAt_eq hrow hck hn hnm hp (by decide) rc g hs]
      simp only [x_cons, x_nil, x_asg, x_asgT, x_asgS, x_asgA, x_aug, x_ex, x_ret, x_retN, x_if, x_for, x_pass, x_brk, x_cnt, x_try, w_var, w_cst, w_glb, w_tup, w_lst, w_dct0, w_neg, w_bin, w_cmp, w_chain, w_and_, w_or_, w_and1_, w_and2_, w_or1_, w_or2_, w_not, w_ife, w_sub, w_sl1, w_sl2, w_sl3, w_attr, w_call, w_callK, w_new, w_meth, w_cmeth, w_bf, w_bm, w_isi, w_fstr, w_comp, w_dcomp, w_nil, w_cons, w_ie, w_rng, w_enum, w_zip, w_tnil, w_tcons, Fl.go_next, Fl.go_ret, Fl.go_brk, Fl.go_cnt, List.map_cons, List.map_nil, List.cons_append, List.nil_append, List.replicate, List.length_cons, List.length_nil, Nat.sub_self, Nat.reduceSub, Nat.reduceAdd, List.getElem?_cons_zero, List.getElem?_cons_succ, List.set_cons_zero, List.set_cons_succ, setAll, wipeP, Option.some.injEq, exists_eq_left', exists_eq_left, Res.sat_ok, Res.sat_guard, finF_ret, finF_next, finT_ret, finT_next, cTest_nil, cTest_nm, cElt_nm, fBody_nm, t_bl, m_lst, m_ref, m_dct, m_dref, b_add, b_sub, b_mul, b_div, b_mod, b_cat, c_eqI, c_neI, c_ltI, c_leI, c_gtI, c_geI, c_eqS, c_neS, f_int, f_lenL, f_lenT, f_lenS, f_lenC, f_tupL, PV.tup.injEq, PV.lst.injEq, decide_eq_true_eq, decide_eq_false_iff_not, Bool.and_eq_true, Bool.not_eq_true', Bool.not_true, Bool.not_false, true_and, and_true]
      refine ⟨_, rfl, ?_⟩
      refine comp_map (fun v => match v with
        | .str y => vecV L (cnt R j y.cps.toList)
        | _ => .non) (stay_nil _) (by rw [List.length_map, sizeLine_eq]; omega) (fun y hy => ?_) (fun y hy => ?_) ?_
      · rw [cTest_nil]; exact ⟨rfl, rfl⟩
      · obtain ⟨p, hp', rfl⟩ := List.mem_map.mp hy
        simp only [x_cons, x_nil, x_asg, x_asgT, x_asgS, x_asgA, x_aug, x_ex, x_ret, x_retN, x_if, x_for, x_pass, x_brk, x_cnt, x_try, w_var, w_cst, w_glb, w_tup, w_lst, w_dct0, w_neg, w_bin, w_cmp, w_chain, w_and_, w_or_, w_and1_, w_and2_, w_or1_, w_or2_, w_not, w_ife, w_sub, w_sl1, w_sl2, w_sl3, w_attr, w_call, w_callK, w_new, w_meth, w_cmeth, w_bf, w_bm, w_isi, w_fstr, w_comp, w_dcomp, w_nil, w_cons, w_ie, w_rng, w_enum, w_zip, w_tnil, w_tcons, Fl.go_next, Fl.go_ret, Fl.go_brk, Fl.go_cnt, List.map_cons, List.map_nil, List.cons_append, List.nil_append, List.replicate, List.length_cons, List.length_nil, Nat.sub_self, Nat.reduceSub, Nat.reduceAdd, List.getElem?_cons_zero, List.getElem?_cons_succ, List.set_cons_zero, List.set_cons_succ, setAll, wipeP, Option.some.injEq, exists_eq_left', exists_eq_left, Res.sat_ok, Res.sat_guard, finF_ret, finF_next, finT_ret, finT_next, cTest_nil, cTest_nm, cElt_nm, fBody_nm, t_bl, m_lst, m_ref, m_dct, m_dref, b_add, b_sub, b_mul, b_div, b_mod, b_cat, c_eqI, c_neI, c_ltI, c_leI, c_gtI, c_geI, c_eqS, c_neS, f_int, f_lenL, f_lenT, f_lenS, f_lenC, f_tupL, PV.tup.injEq, PV.lst.injEq, decide_eq_true_eq, decide_eq_false_iff_not, Bool.and_eq_true, Bool.not_eq_true', Bool.not_true, Bool.not_false, true_and, and_true]
        exact ⟨_, hlast2.get (hrs.1 p hp'), rfl⟩
      rw [List.map_map]
      refine ⟨_, r_rng (by rw [List.length_map]; omega) (by rw [List.length_map]; omega), ?_⟩
      rw [List.length_map]
      refine comp_range (fun a => .int ((s.row.map fun p => cnt R j p (L.getD a default).nm).sum)) (by omega) (fun a ha => ?_) ?_
      · simp only [x_cons, x_nil, x_asg, x_asgT, x_asgS, x_asgA, x_aug, x_ex, x_ret, x_retN, x_if, x_for, x_pass, x_brk, x_cnt, x_try, w_var, w_cst, w_glb, w_tup, w_lst, w_dct0, w_neg, w_bin, w_cmp, w_chain, w_and_, w_or_, w_and1_, w_and2_, w_or1_, w_or2_, w_not, w_ife, w_sub, w_sl1, w_sl2, w_sl3, w_attr, w_call, w_callK, w_new, w_meth, w_cmeth, w_bf, w_bm, w_isi, w_fstr, w_comp, w_dcomp, w_nil, w_cons, w_ie, w_rng, w_enum, w_zip, w_tnil, w_tcons, Fl.go_next, Fl.go_ret, Fl.go_brk, Fl.go_cnt, List.map_cons, List.map_nil, List.cons_append, List.nil_append, List.replicate, List.length_cons, List.length_nil, Nat.sub_self, Nat.reduceSub, Nat.reduceAdd, List.getElem?_cons_zero, List.getElem?_cons_succ, List.set_cons_zero, List.set_cons_succ, setAll, wipeP, Option.some.injEq, exists_eq_left', exists_eq_left, Res.sat_ok, Res.sat_guard, finF_ret, finF_next, finT_ret, finT_next, cTest_nil, cTest_nm, cElt_nm, fBody_nm, t_bl, m_lst, m_ref, m_dct, m_dref, b_add, b_sub, b_mul, b_div, b_mod, b_cat, c_eqI, c_neI, c_ltI, c_leI, c_gtI, c_geI, c_eqS, c_neS, f_int, f_lenL, f_lenT, f_lenS, f_lenC, f_tupL, PV.tup.injEq, PV.lst.injEq, decide_eq_true_eq, decide_eq_false_iff_not, Bool.and_eq_true, Bool.not_eq_true', Bool.not_true, Bool.not_false, true_and, and_true]
        refine ⟨_, rfl, ?_⟩
        refine comp_map (fun v => match v with
          | .tup xs => xs.getD a .non
          | _ => .non) (stay_nil _) (by rw [List.length_map, sizeLine_eq]; omega) (fun y hy => ?_) (fun y hy => ?_) ?_
        · rw [cTest_nil]; exact ⟨rfl, rfl⟩
        · obtain ⟨p, hp', rfl⟩ := List.mem_map.mp hy
          simp only [x_cons, x_nil, x_asg, x_asgT, x_asgS, x_asgA, x_aug, x_ex, x_ret, x_retN, x_if, x_for, x_pass, x_brk, x_cnt, x_try, w_var, w_cst, w_glb, w_tup, w_lst, w_dct0, w_neg, w_bin, w_cmp, w_chain, w_and_, w_or_, w_and1_, w_and2_, w_or1_, w_or2_, w_not, w_ife, w_sub, w_sl1, w_sl2, w_sl3, w_attr, w_call, w_callK, w_new, w_meth, w_cmeth, w_bf, w_bm, w_isi, w_fstr, w_comp, w_dcomp, w_nil, w_cons, w_ie, w_rng, w_enum, w_zip, w_tnil, w_tcons, Fl.go_next, Fl.go_ret, Fl.go_brk, Fl.go_cnt, List.map_cons, List.map_nil, List.cons_append, List.nil_append, List.replicate, List.length_cons, List.length_nil, Nat.sub_self, Nat.reduceSub, Nat.reduceAdd, List.getElem?_cons_zero, List.getElem?_cons_succ, List.set_cons_zero, List.set_cons_succ, setAll, wipeP, Option.some.injEq, exists_eq_left', exists_eq_left, Res.sat_ok, Res.sat_guard, finF_ret, finF_next, finT_ret, finT_next, cTest_nil, cTest_nm, cElt_nm, fBody_nm, t_bl, m_lst, m_ref, m_dct, m_dref, b_add, b_sub, b_mul, b_div, b_mod, b_cat, c_eqI, c_neI, c_ltI, c_leI, c_gtI, c_geI, c_eqS, c_neS, f_int, f_lenL, f_lenT, f_lenS, f_lenC, f_tupL, PV.tup.injEq, PV.lst.injEq, decide_eq_true_eq, decide_eq_false_iff_not, Bool.and_eq_true, Bool.not_eq_true', Bool.not_true, Bool.not_false, true_and, and_true]
          refine ⟨_, vec_get ha, ?_⟩
          exact (vec_getD (v := cnt R j p) ha).symm
        · rw [List.map_map]
          have e2 : s.row.map ((fun v : PV => match v with
            | .tup xs => xs.getD a .non
            | _ => .non) ∘ ((fun v : PV => match v with
            | .str y => vecV L (cnt R j y.cps.toList)
            | _ => .non) ∘ nmV)) = (s.row.map fun p => cnt R j p (L.getD a default).nm).map PV.int := by
            rw [List.map_map]
            refine List.map_congr_left fun p _ => ?_
            exact vec_getD (v := cnt R j p) ha
          rw [e2, f_sumL]
          exact ⟨rfl, rfl⟩
      · have e3 : (List.range L.length).map (fun a => PV.int ((s.row.map fun p => cnt R j p (L.getD a default).nm).sum)) = L.map fun t => .int (cnt R (j + 1) s.nm t.nm) := by
          rw [range_map (fun t : Srt => PV.int ((s.row.map fun p => cnt R j p t.nm).sum)) L default]
          refine List.map_congr_left fun t _ => ?_
          show _ = PV.int ((R s.nm).map fun p => cnt R j p t.nm).sum
          rw [hR s hs]
        rw [e3]
        refine ⟨tabS S L R j ++ [.dct ((L.take (i + 1)).map keyS) ((L.take (i + 1)).map fun s => vecV L (cnt R (j + 1) s.nm))], ?_, rfl, _, _, rfl⟩
        have nin : s.nm ∉ (L.take i).map (·.nm) := by
          intro z
          have nd := g.nd
          rw [← List.take_append_drop i L, List.map_append, List.nodup_append] at nd
          refine nd.2.2 _ z s.nm ?_ rfl
          rw [List.drop_eq_getElem_cons hi]
          have : L[i] = s := by rw [List.getElem?_eq_getElem hi] at e1; exact Option.some.inj e1
          rw [this]
          exact List.mem_cons_self
        unfold setIx
        simp only [here]
        rw [if_pos (by rw [Bool.or_eq_true]; exact .inl (decide_eq_true (by omega)))]
        show (if (decide (((L.take i).map keyS).length < sizeLine) && kindOk ((L.take i).map keyS) (keyS s)) = true then some ((tabS S L R j ++ [_]).set (S.length + 1 + j) (.dct (putKs _ (keyS s)) (putVs _ _ (keyS s) (vecV L (cnt R (j + 1) s.nm))))) else none) = _
        rw [if_pos (by rw [Bool.and_eq_true, decide_eq_true_eq]; exact ⟨by rw [List.length_map, List.length_take, sizeLine_eq]; omega, kind_keys _ _⟩), put_ks nin, put_vs (fun s => vecV L (cnt R (j + 1) s.nm)) nin, List.set_append_right _ _ (by rw [tabS_len]; exact Nat.le_refl _), tabS_len, Nat.sub_self]
        rw [List.take_add_one, e1]
        rfl
    · obtain ⟨rfl, v4, v9, rfl⟩ := h
      rw [show (0 + ({ xs := L.map (nmV ∘ fun s : Srt => s.nm), ls := [] } : Walked).xs.length) = L.length by show 0 + (L.map _).length = _; rw [List.length_map, Nat.zero_add], List.take_of_length_le (Nat.le_refl _)]
      simp only [x_cons, x_nil, x_asg, x_asgT, x_asgS, x_asgA, x_aug, x_ex, x_ret, x_retN, x_if, x_for, x_pass, x_brk, x_cnt, x_try, w_var, w_cst, w_glb, w_tup, w_lst, w_dct0, w_neg, w_bin, w_cmp, w_chain, w_and_, w_or_, w_and1_, w_and2_, w_or1_, w_or2_, w_not, w_ife, w_sub, w_sl1, w_sl2, w_sl3, w_attr, w_call, w_callK, w_new, w_meth, w_cmeth, w_bf, w_bm, w_isi, w_fstr, w_comp, w_dcomp, w_nil, w_cons, w_ie, w_rng, w_enum, w_zip, w_tnil, w_tcons, Fl.go_next, Fl.go_ret, Fl.go_brk, Fl.go_cnt, List.map_cons, List.map_nil, List.cons_append, List.nil_append, List.replicate, List.length_cons, List.length_nil, Nat.sub_self, Nat.reduceSub, Nat.reduceAdd, List.getElem?_cons_zero, List.getElem?_cons_succ, List.set_cons_zero, List.set_cons_succ, setAll, wipeP, Option.some.injEq, exists_eq_left', exists_eq_left, Res.sat_ok, Res.sat_guard, finF_ret, finF_next, finT_ret, finT_next, cTest_nil, cTest_nm, cElt_nm, fBody_nm, t_bl, m_lst, m_ref, m_dct, m_dref, b_add, b_sub, b_mul, b_div, b_mod, b_cat, c_eqI, c_neI, c_ltI, c_leI, c_gtI, c_geI, c_eqS, c_neS, f_int, f_lenL, f_lenT, f_lenS, f_lenC, f_tupL, PV.tup.injEq, PV.lst.injEq, decide_eq_true_eq, decide_eq_false_iff_not, Bool.and_eq_true, Bool.not_eq_true', Bool.not_true, Bool.not_false, true_and, and_true]
      have at_ : (tabS S L R j ++ [tabO L R (j + 1)])[S.length]? = some (.lst (tabs L R S.length j)) := by
        rw [List.getElem?_append_left (by rw [tabS_len]; omega)]
        exact tabS_lst j
      refine ⟨bt_append at_, bm_appendR at_ (Nat.le_refl _) (by unfold tabs; rw [List.length_cons, List.length_map, List.length_range, sizeLine_eq]; omega) ?_⟩
      exact ⟨tabS_succ j, _, _, _, _, _, rfl⟩
  · obtain ⟨rfl, v4, v6, v7, v8, v9, rfl⟩ := h
    rw [hlen, Nat.zero_add]
    simp only [x_cons, x_nil, x_asg, x_asgT, x_asgS, x_asgA, x_aug, x_ex, x_ret, x_retN, x_if, x_for, x_pass, x_brk, x_cnt, x_try, w_var, w_cst, w_glb, w_tup, w_lst, w_dct0, w_neg, w_bin, w_cmp, w_chain, w_and_, w_or_, w_and1_, w_and2_, w_or1_, w_or2_, w_not, w_ife, w_sub, w_sl1, w_sl2, w_sl3, w_attr, w_call, w_callK, w_new, w_meth, w_cmeth, w_bf, w_bm, w_isi, w_fstr, w_comp, w_dcomp, w_nil, w_cons, w_ie, w_rng, w_enum, w_zip, w_tnil, w_tcons, Fl.go_next, Fl.go_ret, Fl.go_brk, Fl.go_cnt, List.map_cons, List.map_nil, List.cons_append, List.nil_append, List.replicate, List.length_cons, List.length_nil, Nat.sub_self, Nat.reduceSub, Nat.reduceAdd, List.getElem?_cons_zero, List.getElem?_cons_succ, List.set_cons_zero, List.set_cons_succ, setAll, wipeP, Option.some.injEq, exists_eq_left', exists_eq_left, Res.sat_ok, Res.sat_guard, finF_ret, finF_next, finT_ret, finT_next, cTest_nil, cTest_nm, cElt_nm, fBody_nm, t_bl, m_lst, m_ref, m_dct, m_dref, b_add, b_sub, b_mul, b_div, b_mod, b_cat, c_eqI, c_neI, c_ltI, c_leI, c_gtI, c_geI, c_eqS, c_neS, f_int, f_lenL, f_lenT, f_lenS, f_lenC, f_tupL, PV.tup.injEq, PV.lst.injEq, decide_eq_true_eq, decide_eq_false_iff_not, Bool.and_eq_true, Bool.not_eq_true', Bool.not_true, Bool.not_false, true_and, and_true]
    refine ⟨_, fz_tabs rfl, rfl, ?_⟩
    unfold tabS
    simp
end
end PyI
set_option Elab.async false
set_option linter.all false
set_option maxRecDepth 100000
set_option maxHeartbeats 8000000
/-! LawO: counts -/
namespace PyI
open PySem PySem.Spec PyProof.Rows
section
variable {G : Tab} {S : Store} {c : Nat → Nat → List PV → Store → Res PV} {n k : Nat} {L : List Srt} {W : List Nat → Int} {R : List Nat → List (List Nat)} {q : Int} {C mh mw mr : Nat}
/-! ### texts of vectors -/
def vecD (L : List Srt) (v : List Nat → Int) : List PyData := L.map fun s => PyData.int (v s.nm)
theorem showAll_v {v : List Nat → Int} : ∀ {L : List Srt}, (∀ s ∈ L, (v s.nm).natAbs.log2 < 1920) → PyData.showableAll (vecD L v) = true
  | [], _ => by simp only [vecD, List.map_nil, PyData.showableAll]
  | s :: t, h => by
    have ih := showAll_v (L := t) fun a ha => h a (List.mem_cons_of_mem _ ha)
    simp only [vecD, List.map_cons, PyData.showableAll, PyData.showable] at ih ⊢
    rw [decide_eq_true (h s List.mem_cons_self), Bool.true_and]
    exact ih
theorem depthAll_v {v : List Nat → Int} : ∀ L : List Srt, PyData.depthAll (vecD L v) = 0
  | [] => by simp only [vecD, List.map_nil, PyData.depthAll]
  | s :: t => by
    have ih := depthAll_v (v := v) t
    simp only [vecD, List.map_cons, PyData.depthAll, PyData.depth] at ih ⊢
    rw [ih]; rfl
theorem shownAll_v {v : List Nat → Int} : ∀ L : List Srt, PyData.shownAll (vecD L v) = L.map fun s => Str.ofString (toString (v s.nm))
  | [] => by simp only [vecD, List.map_nil, PyData.shownAll]
  | s :: t => by
    have ih := shownAll_v (v := v) t
    simp only [vecD, List.map_cons, PyData.shownAll, PyData.shown] at ih ⊢
    rw [ih]
theorem piled_le {m : Nat} : ∀ {ts : List Str}, (∀ t ∈ ts, t.length ≤ m) → piled ts ≤ ts.length * (m + 2)
  | [], _ => by simp [piled]
  | t :: r, h => by
    have ih := piled_le (ts := r) fun a ha => h a (List.mem_cons_of_mem _ ha)
    have := h t List.mem_cons_self
    rw [piled_cons, List.length_cons, Nat.succ_mul]
    omega
theorem tup_len {ts : List Str} {m : Nat} (h : ∀ t ∈ ts, t.length ≤ m) : (tupleText ts).length ≤ ts.length * (m + 2) + 10 := by
  unfold tupleText
  have e1 : ∀ a b : Str, (a ++ b).length = a.length + b.length := fun a b => by
    show (a.cps ++ b.cps).size = _
    rw [Array.size_append]; rfl
  rw [e1, e1]
  have e2 : (Str.ofString "(").length = 1 := by decide +kernel
  have e3 : (Str.ofString (if ts.length == 1 then ",)" else ")")).length ≤ 2 := by
    split
    · have : (Str.ofString ",)").length = 2 := by decide +kernel
      omega
    · have : (Str.ofString ")").length = 1 := by decide +kernel
      omega
  have e4 : (Str.join ", " ts).length ≤ ts.length * (m + 2) := by
    cases ts with
    | nil => show (Str.join _ []).length ≤ _; exact Nat.zero_le _
    | cons t r =>
      have := join_length_add (t :: r) (by simp)
      have := piled_le h
      omega
  show (Str.ofString "(").length + _ + _ ≤ _
  omega
theorem f_reprV {fr : Bool} {v : List Nat → Int} (few : L.length ≤ 5) (h : ∀ s ∈ L, (v s.nm).natAbs.log2 < 1920) : bfunR G c .repr fr [vecV L v] S = .ok (.str (PyData.shown (.tuple (vecD L v)))) S := by
  have d1 : toDS (vecV L v) S = some (.tuple (vecD L v)) := by
    show (PV.tup (L.map fun s => .int (v s.nm))).toD = _
    rw [PV.toD]
    have : PV.toDs (L.map fun s => .int (v s.nm)) = some (vecD L v) := by
      clear few h
      induction L with
      | nil => rfl
      | cons s t ih => rw [List.map_cons, PV.toDs, ih]; rfl
    rw [this]; rfl
  have e : bfun .repr [vecV L v] S = some (.str (PyData.shown (.tuple (vecD L v)))) := by
    unfold bfun
    show (toDS (vecV L v) S).bind _ = _
    rw [d1]
    dsimp only [Option.bind]
    rw [if_pos]
    rw [Bool.and_eq_true, Bool.and_eq_true]
    refine ⟨⟨?_, decide_eq_true ?_⟩, decide_eq_true ?_⟩
    · simp only [PyData.showable]; exact showAll_v h
    · simp only [PyData.shown]
      rw [shownAll_v]
      have := tup_len (m := 1921) (ts := L.map fun s => Str.ofString (toString (v s.nm))) fun t ht => by
        obtain ⟨s, hs, rfl⟩ := List.mem_map.mp ht
        exact int_text_len_1921 (h s hs)
      rw [List.length_map] at this
      rw [sizeLine_eq]
      have h5 : L.length * (1921 + 2) ≤ 5 * (1921 + 2) := Nat.mul_le_mul_right _ few
      omega
    · simp only [PyData.depth, depthAll_v]; omega
  show ofO (bfun .repr [vecV L v] S) S = _
  rw [e]; rfl
/-! ### counts -/
theorem tabs_at {d e : Nat} (h : e ≤ d) : getIx (.lst ((List.range (d + 1)).map (tabV L R))) (.int (e : Int)) S = some (tabV L R e) := by
  rw [g_lst]
  refine atI_nat ?_
  rw [List.getElem?_map, List.getElem?_range (by omega)]; rfl
structure CntT (G : Tab) (C mh mr : Nat) (f fo ft frow fck fn fnm mn mrow : Nat) : Prop where
  of_ : G.fns[fo]? = some ⟨3, 3, Lib.counts_of ft, 5, false⟩
  tab : G.fns[ft]? = some ⟨2, 13, Lib.count_tables mn mrow, 4, false⟩
  row : G.fns[frow]? = some ⟨2, 2, Lib.Ruler_width fck mr, 3, false⟩
  kind : G.fns[fck]? = some ⟨2, 2, Lib.check_kind fn mn, 2, false⟩
  name : G.fns[fn]? = some ⟨1, 2, Lib.is_name, 1, false⟩
  names : G.fns[fnm]? = some ⟨1, 2, Lib.Ruler_names mh, 1, false⟩
  pn : ((G.cls[C]?).bind fun k => k.props.lookup mn) = some fnm
  mrw : ((G.cls[C]?).bind fun k => k.meths.lookup mrow) = some frow
variable {f fo ft frow fck fn fnm mn mrow : Nat}
theorem countsOf_eq (T : CntT G C mh mr f fo ft frow fck fn fnm mn mrow) (hno : [mh, mw, mr].contains mrow = false) (hk : 5 ≤ k) (rc : RC G C mh mw mr) (g : GoodR q W L) (hR : ∀ s ∈ L, R s.nm = s.row) {x : List Nat} (hx : x ∈ L.map (·.nm)) {d : Nat} (hd : d ≤ 100) :
    callN G k fo S.length [rulerV C mh mw mr q L, nmV x, .int (d : Int)] S = .ok (vecV L (cnt R d x)) S := by
  refine Res.sat_eq (callF T.of_ (by decide) hk rfl (by decide) ?_)
  unfold Lib.counts_of
  simp only [x_cons, x_nil, x_asg, x_asgT, x_asgS, x_asgA, x_aug, x_ex, x_ret, x_retN, x_if, x_for, x_pass, x_brk, x_cnt, x_try, w_var, w_cst, w_glb, w_tup, w_lst, w_dct0, w_neg, w_bin, w_cmp, w_chain, w_and_, w_or_, w_and1_, w_and2_, w_or1_, w_or2_, w_not, w_ife, w_sub, w_sl1, w_sl2, w_sl3, w_attr, w_call, w_callK, w_new, w_meth, w_cmeth, w_bf, w_bm, w_isi, w_fstr, w_comp, w_dcomp, w_nil, w_cons, w_ie, w_rng, w_enum, w_zip, w_tnil, w_tcons, Fl.go_next, Fl.go_ret, Fl.go_brk, Fl.go_cnt, List.map_cons, List.map_nil, List.cons_append, List.nil_append, List.replicate, List.length_cons, List.length_nil, Nat.sub_self, Nat.reduceSub, Nat.reduceAdd, List.getElem?_cons_zero, List.getElem?_cons_succ, List.set_cons_zero, List.set_cons_succ, setAll, wipeP, Option.some.injEq, exists_eq_left', exists_eq_left, Res.sat_ok, Res.sat_guard, finF_ret, finF_next, finT_ret, finT_next, cTest_nil, cTest_nm, cElt_nm, fBody_nm, t_bl, m_lst, m_ref, m_dct, m_dref, b_add, b_sub, b_mul, b_div, b_mod, b_cat, c_eqI, c_neI, c_ltI, c_leI, c_gtI, c_geI, c_eqS, c_neS, f_int, f_lenL, f_lenT, f_lenS, f_lenC, f_tupL, PV.tup.injEq, PV.lst.injEq, decide_eq_true_eq, decide_eq_false_iff_not, Bool.and_eq_true, Bool.not_eq_true', Bool.not_true, Bool.not_false, true_and, and_true]
  rw [tables_eq T.tab T.row T.kind T.name T.names T.pn T.mrw hno (by decide) rc g hR hd]
  simp only [x_cons, x_nil, x_asg, x_asgT, x_asgS, x_asgA, x_aug, x_ex, x_ret, x_retN, x_if, x_for, x_pass, x_brk, x_cnt, x_try, w_var, w_cst, w_glb, w_tup, w_lst, w_dct0, w_neg, w_bin, w_cmp, w_chain, w_and_, w_or_, w_and1_, w_and2_, w_or1_, w_or2_, w_not, w_ife, w_sub, w_sl1, w_sl2, w_sl3, w_attr, w_call, w_callK, w_new, w_meth, w_cmeth, w_bf, w_bm, w_isi, w_fstr, w_comp, w_dcomp, w_nil, w_cons, w_ie, w_rng, w_enum, w_zip, w_tnil, w_tcons, Fl.go_next, Fl.go_ret, Fl.go_brk, Fl.go_cnt, List.map_cons, List.map_nil, List.cons_append, List.nil_append, List.replicate, List.length_cons, List.length_nil, Nat.sub_self, Nat.reduceSub, Nat.reduceAdd, List.getElem?_cons_zero, List.getElem?_cons_succ, List.set_cons_zero, List.set_cons_succ, setAll, wipeP, Option.some.injEq, exists_eq_left', exists_eq_left, Res.sat_ok, Res.sat_guard, finF_ret, finF_next, finT_ret, finT_next, cTest_nil, cTest_nm, cElt_nm, fBody_nm, t_bl, m_lst, m_ref, m_dct, m_dref, b_add, b_sub, b_mul, b_div, b_mod, b_cat, c_eqI, c_neI, c_ltI, c_leI, c_gtI, c_geI, c_eqS, c_neS, f_int, f_lenL, f_lenT, f_lenS, f_lenC, f_tupL, PV.tup.injEq, PV.lst.injEq, decide_eq_true_eq, decide_eq_false_iff_not, Bool.and_eq_true, Bool.not_eq_true', Bool.not_true, Bool.not_false, true_and, and_true]
  refine ⟨_, tabs_at (Nat.le_refl d), _, HasD.get (F := fun x => vecV L (cnt R d x)) (.inl rfl) hx, _, fz_rf ?_, rfl, take_self S⟩
  exact List.all_eq_true.mp (by rw [← PV.rfs_eq]; exact rfs_vec (L := L) (f := fun _ => cnt R d x) [default]) _ List.mem_cons_self
theorem counts_eq {fs fd fr fb fi : Nat} (hf : G.fns[f]? = some ⟨3, 3, Lib.counts fs fo, 8, false⟩) (T : CntT G C mh mr f fo ft frow fck fn fnm mn mrow) (hs : G.fns[fs]? = some ⟨3, 3, Lib.check_scale fd fck fr, 7, false⟩) (hd_ : G.fns[fd]? = some ⟨1, 1, Lib.check_depth fb, 3, false⟩) (hr : G.fns[fr]? = some ⟨1, 1, Lib.check_ruler C, 6, false⟩) (hb : G.fns[fb]? = some ⟨3, 3, Lib.is_between fi, 2, false⟩) (hi : G.fns[fi]? = some ⟨1, 1, Lib.is_integer, 1, false⟩)
    (hno : [mh, mw, mr].contains mrow = false) (hk : 8 ≤ k) (rc : RC G C mh mw mr) (g : GoodR q W L) (hR : ∀ s ∈ L, R s.nm = s.row) {x : List Nat} (hx : x ∈ L.map (·.nm)) {d : Nat} (hd : d ≤ 40) :
    callN G k f S.length [rulerV C mh mw mr q L, nmV x, .int (d : Int)] S = .ok (vecV L (cnt R d x)) S := by
  refine Res.sat_eq (callF hf (by decide) hk rfl (by decide) ?_)
  unfold Lib.counts
  have hsc : callN G 7 fs S.length [rulerV C mh mw mr q L, nmV x, .int (d : Int)] S = .ok .non S := by
    refine Res.sat_eq (callF hs (by decide) (Nat.le_refl _) rfl (by decide) ?_)
    unfold Lib.check_scale
    simp only [x_cons, x_nil, x_asg, x_asgT, x_asgS, x_asgA, x_aug, x_ex, x_ret, x_retN, x_if, x_for, x_pass, x_brk, x_cnt, x_try, w_var, w_cst, w_glb, w_tup, w_lst, w_dct0, w_neg, w_bin, w_cmp, w_chain, w_and_, w_or_, w_and1_, w_and2_, w_or1_, w_or2_, w_not, w_ife, w_sub, w_sl1, w_sl2, w_sl3, w_attr, w_call, w_callK, w_new, w_meth, w_cmeth, w_bf, w_bm, w_isi, w_fstr, w_comp, w_dcomp, w_nil, w_cons, w_ie, w_rng, w_enum, w_zip, w_tnil, w_tcons, Fl.go_next, Fl.go_ret, Fl.go_brk, Fl.go_cnt, List.map_cons, List.map_nil, List.cons_append, List.nil_append, List.replicate, List.length_cons, List.length_nil, Nat.sub_self, Nat.reduceSub, Nat.reduceAdd, List.getElem?_cons_zero, List.getElem?_cons_succ, List.set_cons_zero, List.set_cons_succ, setAll, wipeP, Option.some.injEq, exists_eq_left', exists_eq_left, Res.sat_ok, Res.sat_guard, finF_ret, finF_next, finT_ret, finT_next, cTest_nil, cTest_nm, cElt_nm, fBody_nm, t_bl, m_lst, m_ref, m_dct, m_dref, b_add, b_sub, b_mul, b_div, b_mod, b_cat, c_eqI, c_neI, c_ltI, c_leI, c_gtI, c_geI, c_eqS, c_neS, f_int, f_lenL, f_lenT, f_lenS, f_lenC, f_tupL, PV.tup.injEq, PV.lst.injEq, decide_eq_true_eq, decide_eq_false_iff_not, Bool.and_eq_true, Bool.not_eq_true', Bool.not_true, Bool.not_false, true_and, and_true]
    rw [checkRuler_eq hr (by decide) (by decide) rc]
    simp only [x_cons, x_nil, x_asg, x_asgT, x_asgS, x_asgA, x_aug, x_ex, x_ret, x_retN, x_if, x_for, x_pass, x_brk, x_cnt, x_try, w_var, w_cst, w_glb, w_tup, w_lst, w_dct0, w_neg, w_bin, w_cmp, w_chain, w_and_, w_or_, w_and1_, w_and2_, w_or1_, w_or2_, w_not, w_ife, w_sub, w_sl1, w_sl2, w_sl3, w_attr, w_call, w_callK, w_new, w_meth, w_cmeth, w_bf, w_bm, w_isi, w_fstr, w_comp, w_dcomp, w_nil, w_cons, w_ie, w_rng, w_enum, w_zip, w_tnil, w_tcons, Fl.go_next, Fl.go_ret, Fl.go_brk, Fl.go_cnt, List.map_cons, List.map_nil, List.cons_append, List.nil_append, List.replicate, List.length_cons, List.length_nil, Nat.sub_self, Nat.reduceSub, Nat.reduceAdd, List.getElem?_cons_zero, List.getElem?_cons_succ, List.set_cons_zero, List.set_cons_succ, setAll, wipeP, Option.some.injEq, exists_eq_left', exists_eq_left, Res.sat_ok, Res.sat_guard, finF_ret, finF_next, finT_ret, finT_next, cTest_nil, cTest_nm, cElt_nm, fBody_nm, t_bl, m_lst, m_ref, m_dct, m_dref, b_add, b_sub, b_mul, b_div, b_mod, b_cat, c_eqI, c_neI, c_ltI, c_leI, c_gtI, c_geI, c_eqS, c_neS, f_int, f_lenL, f_lenT, f_lenS, f_lenC, f_tupL, PV.tup.injEq, PV.lst.injEq, decide_eq_true_eq, decide_eq_false_iff_not, Bool.and_eq_true, Bool.not_eq_true', Bool.not_true, Bool.not_false, true_and, and_true]
    rw [checkKind_eq T.kind T.name T.names T.pn (by decide) rc g hx]
    simp only [x_cons, x_nil, x_asg, x_asgT, x_asgS, x_asgA, x_aug, x_ex, x_ret, x_retN, x_if, x_for, x_pass, x_brk, x_cnt, x_try, w_var, w_cst, w_glb, w_tup, w_lst, w_dct0, w_neg, w_bin, w_cmp, w_chain, w_and_, w_or_, w_and1_, w_and2_, w_or1_, w_or2_, w_not, w_ife, w_sub, w_sl1, w_sl2, w_sl3, w_attr, w_call, w_callK, w_new, w_meth, w_cmeth, w_bf, w_bm, w_isi, w_fstr, w_comp, w_dcomp, w_nil, w_cons, w_ie, w_rng, w_enum, w_zip, w_tnil, w_tcons, Fl.go_next, Fl.go_ret, Fl.go_brk, Fl.go_cnt, List.map_cons, List.map_nil, List.cons_append, List.nil_append, List.replicate, List.length_cons, List.length_nil, Nat.sub_self, Nat.reduceSub, Nat.reduceAdd, List.getElem?_cons_zero, List.getElem?_cons_succ, List.set_cons_zero, List.set_cons_succ, setAll, wipeP, Option.some.injEq, exists_eq_left', exists_eq_left, Res.sat_ok, Res.sat_guard, finF_ret, finF_next, finT_ret, finT_next, cTest_nil, cTest_nm, cElt_nm, fBody_nm, t_bl, m_lst, m_ref, m_dct, m_dref, b_add, b_sub, b_mul, b_div, b_mod, b_cat, c_eqI, c_neI, c_ltI, c_leI, c_gtI, c_geI, c_eqS, c_neS, f_int, f_lenL, f_lenT, f_lenS, f_lenC, f_tupL, PV.tup.injEq, PV.lst.injEq, decide_eq_true_eq, decide_eq_false_iff_not, Bool.and_eq_true, Bool.not_eq_true', Bool.not_true, Bool.not_false, true_and, and_true]
    rw [checkDepth_eq hd_ hb hi (by decide) (by omega) (by omega)]
    simp only [x_cons, x_nil, x_asg, x_asgT, x_asgS, x_asgA, x_aug, x_ex, x_ret, x_retN, x_if, x_for, x_pass, x_brk, x_cnt, x_try, w_var, w_cst, w_glb, w_tup, w_lst, w_dct0, w_neg, w_bin, w_cmp, w_chain, w_and_, w_or_, w_and1_, w_and2_, w_or1_, w_or2_, w_not, w_ife, w_sub, w_sl1, w_sl2, w_sl3, w_attr, w_call, w_callK, w_new, w_meth, w_cmeth, w_bf, w_bm, w_isi, w_fstr, w_comp, w_dcomp, w_nil, w_cons, w_ie, w_rng, w_enum, w_zip, w_tnil, w_tcons, Fl.go_next, Fl.go_ret, Fl.go_brk, Fl.go_cnt, List.map_cons, List.map_nil, List.cons_append, List.nil_append, List.replicate, List.length_cons, List.length_nil, Nat.sub_self, Nat.reduceSub, Nat.reduceAdd, List.getElem?_cons_zero, List.getElem?_cons_succ, List.set_cons_zero, List.set_cons_succ, setAll, wipeP, Option.some.injEq, exists_eq_left', exists_eq_left, Res.sat_ok, Res.sat_guard, finF_ret, finF_next, finT_ret, finT_next, cTest_nil, cTest_nm, cElt_nm, fBody_nm, t_bl, m_lst, m_ref, m_dct, m_dref, b_add, b_sub, b_mul, b_div, b_mod, b_cat, c_eqI, c_neI, c_ltI, c_leI, c_gtI, c_geI, c_eqS, c_neS, f_int, f_lenL, f_lenT, f_lenS, f_lenC, f_tupL, PV.tup.injEq, PV.lst.injEq, decide_eq_true_eq, decide_eq_false_iff_not, Bool.and_eq_true, Bool.not_eq_true', Bool.not_true, Bool.not_false, true_and, and_true]
    exact take_self S
  simp only [x_cons, x_nil, x_asg, x_asgT, x_asgS, x_asgA, x_aug, x_ex, x_ret, x_retN, x_if, x_for, x_pass, x_brk, x_cnt, x_try, w_var, w_cst, w_glb, w_tup, w_lst, w_dct0, w_neg, w_bin, w_cmp, w_chain, w_and_, w_or_, w_and1_, w_and2_, w_or1_, w_or2_, w_not, w_ife, w_sub, w_sl1, w_sl2, w_sl3, w_attr, w_call, w_callK, w_new, w_meth, w_cmeth, w_bf, w_bm, w_isi, w_fstr, w_comp, w_dcomp, w_nil, w_cons, w_ie, w_rng, w_enum, w_zip, w_tnil, w_tcons, Fl.go_next, Fl.go_ret, Fl.go_brk, Fl.go_cnt, List.map_cons, List.map_nil, List.cons_append, List.nil_append, List.replicate, List.length_cons, List.length_nil, Nat.sub_self, Nat.reduceSub, Nat.reduceAdd, List.getElem?_cons_zero, List.getElem?_cons_succ, List.set_cons_zero, List.set_cons_succ, setAll, wipeP, Option.some.injEq, exists_eq_left', exists_eq_left, Res.sat_ok, Res.sat_guard, finF_ret, finF_next, finT_ret, finT_next, cTest_nil, cTest_nm, cElt_nm, fBody_nm, t_bl, m_lst, m_ref, m_dct, m_dref, b_add, b_sub, b_mul, b_div, b_mod, b_cat, c_eqI, c_neI, c_ltI, c_leI, c_gtI, c_geI, c_eqS, c_neS, f_int, f_lenL, f_lenT, f_lenS, f_lenC, f_tupL, PV.tup.injEq, PV.lst.injEq, decide_eq_true_eq, decide_eq_false_iff_not, Bool.and_eq_true, Bool.not_eq_true', Bool.not_true, Bool.not_false, true_and, and_true]
  rw [hsc]
  simp only [x_cons, x_nil, x_asg, x_asgT, x_asgS, x_asgA, x_aug, x_ex, x_ret, x_retN, x_if, x_for, x_pass, x_brk, x_cnt, x_try, w_var, w_cst, w_glb, w_tup, w_lst, w_dct0, w_neg, w_bin, w_cmp, w_chain, w_and_, w_or_, w_and1_, w_and2_, w_or1_, w_or2_, w_not, w_ife, w_sub, w_sl1, w_sl2, w_sl3, w_attr, w_call, w_callK, w_new, w_meth, w_cmeth, w_bf, w_bm, w_isi, w_fstr, w_comp, w_dcomp, w_nil, w_cons, w_ie, w_rng, w_enum, w_zip, w_tnil, w_tcons, Fl.go_next, Fl.go_ret, Fl.go_brk, Fl.go_cnt, List.map_cons, List.map_nil, List.cons_append, List.nil_append, List.replicate, List.length_cons, List.length_nil, Nat.sub_self, Nat.reduceSub, Nat.reduceAdd, List.getElem?_cons_zero, List.getElem?_cons_succ, List.set_cons_zero, List.set_cons_succ, setAll, wipeP, Option.some.injEq, exists_eq_left', exists_eq_left, Res.sat_ok, Res.sat_guard, finF_ret, finF_next, finT_ret, finT_next, cTest_nil, cTest_nm, cElt_nm, fBody_nm, t_bl, m_lst, m_ref, m_dct, m_dref, b_add, b_sub, b_mul, b_div, b_mod, b_cat, c_eqI, c_neI, c_ltI, c_leI, c_gtI, c_geI, c_eqS, c_neS, f_int, f_lenL, f_lenT, f_lenS, f_lenC, f_tupL, PV.tup.injEq, PV.lst.injEq, decide_eq_true_eq, decide_eq_false_iff_not, Bool.and_eq_true, Bool.not_eq_true', Bool.not_true, Bool.not_false, true_and, and_true]
  rw [countsOf_eq T hno (by decide) rc g hR hx (by omega)]
  simp only [x_cons, x_nil, x_asg, x_asgT, x_asgS, x_asgA, x_aug, x_ex, x_ret, x_retN, x_if, x_for, x_pass, x_brk, x_cnt, x_try, w_var, w_cst, w_glb, w_tup, w_lst, w_dct0, w_neg, w_bin, w_cmp, w_chain, w_and_, w_or_, w_and1_, w_and2_, w_or1_, w_or2_, w_not, w_ife, w_sub, w_sl1, w_sl2, w_sl3, w_attr, w_call, w_callK, w_new, w_meth, w_cmeth, w_bf, w_bm, w_isi, w_fstr, w_comp, w_dcomp, w_nil, w_cons, w_ie, w_rng, w_enum, w_zip, w_tnil, w_tcons, Fl.go_next, Fl.go_ret, Fl.go_brk, Fl.go_cnt, List.map_cons, List.map_nil, List.cons_append, List.nil_append, List.replicate, List.length_cons, List.length_nil, Nat.sub_self, Nat.reduceSub, Nat.reduceAdd, List.getElem?_cons_zero, List.getElem?_cons_succ, List.set_cons_zero, List.set_cons_succ, setAll, wipeP, Option.some.injEq, exists_eq_left', exists_eq_left, Res.sat_ok, Res.sat_guard, finF_ret, finF_next, finT_ret, finT_next, cTest_nil, cTest_nm, cElt_nm, fBody_nm, t_bl, m_lst, m_ref, m_dct, m_dref, b_add, b_sub, b_mul, b_div, b_mod, b_cat, c_eqI, c_neI, c_ltI, c_leI, c_gtI, c_geI, c_eqS, c_neS, f_int, f_lenL, f_lenT, f_lenS, f_lenC, f_tupL, PV.tup.injEq, PV.lst.injEq, decide_eq_true_eq, decide_eq_false_iff_not, Bool.and_eq_true, Bool.not_eq_true', Bool.not_true, Bool.not_false, true_and, and_true]
  refine ⟨_, fz_rf ?_, rfl, take_self S⟩
  exact List.all_eq_true.mp (by rw [← PV.rfs_eq]; exact rfs_vec (L := L) (f := fun _ => cnt R d x) [default]) _ List.mem_cons_self
/-! ### the law's own step -/
theorem pairs_srt (f : Srt → PV) : ∀ L : List Srt, asPairs (L.map fun s => PV.tup [nmV s.nm, f s]) = some (L.map fun s => (keyS s, f s))
  | [] => rfl
  | s :: t => by
    rw [List.map_cons]
    show ((nmV s.nm).key).bind (fun q => (asPairs (t.map fun s => PV.tup [nmV s.nm, f s])).map ((q, f s) :: ·)) = _
    rw [pairs_srt f t]; rfl
theorem merge_srt (f : Srt → PV) : ∀ (t A : List Srt), ((A ++ t).map (·.nm)).Nodup → mergeD (t.map fun s => (keyS s, f s)) (A.map keyS) (A.map f) = ((A ++ t).map keyS, (A ++ t).map f)
  | [], A, _ => by rw [List.append_nil]; rfl
  | s :: t, A, nd => by
    rw [List.map_cons]
    show mergeD (t.map fun s => (keyS s, f s)) (putKs (A.map keyS) (keyS s)) (putVs (A.map keyS) (A.map f) (keyS s) (f s)) = _
    have nin : s.nm ∉ A.map (·.nm) := by
      intro z
      rw [List.map_append, List.nodup_append] at nd
      exact nd.2.2 _ z s.nm List.mem_cons_self rfl
    rw [put_ks nin, put_vs f nin]
    have e : A ++ s :: t = (A ++ [s]) ++ t := by simp
    rw [e] at nd ⊢
    exact merge_srt f t (A ++ [s]) nd
theorem put_ks_old : ∀ {L : List Srt} {x : List Nat}, x ∈ L.map (·.nm) → putKs (L.map keyS) (.s (SX.S x)) = L.map keyS
  | [], x, h => by cases h
  | s :: t, x, h => by
    show (if keyS s = .s (SX.S x) then keyS s :: t.map keyS else keyS s :: putKs (t.map keyS) (.s (SX.S x))) = _
    by_cases e : s.nm = x
    · rw [if_pos (by unfold keyS; rw [e])]; rfl
    · rw [if_neg (key_ne e), put_ks_old]
      · rfl
      · rcases List.mem_cons.mp h with h | h
        · exact absurd h.symm e
        · exact h
theorem put_vs_old (F : List Nat → Int) (z : Int) : ∀ {L : List Srt} {x : List Nat}, (L.map (·.nm)).Nodup → x ∈ L.map (·.nm) → putVs (L.map keyS) (L.map fun s => PV.int (F s.nm)) (.s (SX.S x)) (.int z) = L.map fun s => PV.int (if s.nm = x then z else F s.nm)
  | [], x, _, h => by cases h
  | s :: t, x, nd, h => by
    rw [List.map_cons, List.nodup_cons] at nd
    show (if keyS s = .s (SX.S x) then PV.int z :: t.map (fun s => PV.int (F s.nm)) else PV.int (F s.nm) :: putVs (t.map keyS) (t.map fun s => PV.int (F s.nm)) (.s (SX.S x)) (.int z)) = _
    by_cases e : s.nm = x
    · rw [if_pos (by unfold keyS; rw [e]), List.map_cons, if_pos e]
      congr 1
      refine List.map_congr_left fun a ha => ?_
      rw [if_neg fun q => nd.1 (List.mem_map.mpr ⟨a, ha, by rw [q, e]⟩)]
    · rw [if_neg (key_ne e), put_vs_old F z nd.2, List.map_cons, if_neg e]
      rcases List.mem_cons.mp h with h | h
      · exact absurd h.symm e
      · exact h
theorem zip_srt (f : Srt → PV) : ∀ L : List Srt, zipL (L.map Srt.v) (L.map f) = L.map fun s => PV.tup [s.v, f s]
  | [] => rfl
  | s :: t => by
    rw [List.map_cons, List.map_cons, List.map_cons]
    show PV.tup [s.v, f s] :: zipL _ _ = _
    rw [zip_srt f t]
theorem occ_add (y : List Nat) (A B : List (List Nat)) : occ y (A ++ B) = occ y A + occ y B := by
  unfold occ
  rw [List.map_append, List.sum_append]
theorem later_eq {fl : Nat} (hf : G.fns[fl]? = some ⟨2, 6, Lib.law_later, 1, false⟩) (hk : 1 ≤ k) (g : GoodR q W L) (v : List Nat → Int) : callN G k fl S.length [.tup (L.map Srt.v), vecV L v] S = .ok (vecV L (lat L v)) S := by
  refine Res.sat_eq (callF hf (by decide) hk rfl (by decide) ?_)
  unfold Lib.law_later
  have few := g.few
  have nd := g.nd
  simp only [x_cons, x_nil, x_asg, x_asgT, x_asgS, x_asgA, x_aug, x_ex, x_ret, x_retN, x_if, x_for, x_pass, x_brk, x_cnt, x_try, w_var, w_cst, w_glb, w_tup, w_lst, w_dct0, w_neg, w_bin, w_cmp, w_chain, w_and_, w_or_, w_and1_, w_and2_, w_or1_, w_or2_, w_not, w_ife, w_sub, w_sl1, w_sl2, w_sl3, w_attr, w_call, w_callK, w_new, w_meth, w_cmeth, w_bf, w_bm, w_isi, w_fstr, w_comp, w_dcomp, w_nil, w_cons, w_ie, w_rng, w_enum, w_zip, w_tnil, w_tcons, Fl.go_next, Fl.go_ret, Fl.go_brk, Fl.go_cnt, List.map_cons, List.map_nil, List.cons_append, List.nil_append, List.replicate, List.length_cons, List.length_nil, Nat.sub_self, Nat.reduceSub, Nat.reduceAdd, List.getElem?_cons_zero, List.getElem?_cons_succ, List.set_cons_zero, List.set_cons_succ, setAll, wipeP, Option.some.injEq, exists_eq_left', exists_eq_left, Res.sat_ok, Res.sat_guard, finF_ret, finF_next, finT_ret, finT_next, cTest_nil, cTest_nm, cElt_nm, fBody_nm, t_bl, m_lst, m_ref, m_dct, m_dref, b_add, b_sub, b_mul, b_div, b_mod, b_cat, c_eqI, c_neI, c_ltI, c_leI, c_gtI, c_geI, c_eqS, c_neS, f_int, f_lenL, f_lenT, f_lenS, f_lenC, f_tupL, PV.tup.injEq, PV.lst.injEq, decide_eq_true_eq, decide_eq_false_iff_not, Bool.and_eq_true, Bool.not_eq_true', Bool.not_true, Bool.not_false, true_and, and_true]
  refine ⟨_, rfl, ?_⟩
  refine comp_map (fun v => match v with
    | .tup (x :: _) => .tup [x, .int 0]
    | _ => .non) (stay_nil _) (by rw [List.length_map, sizeLine_eq]; omega) (fun y hy => ?_) (fun y hy => ?_) ?_
  · rw [cTest_nil]; exact ⟨rfl, rfl⟩
  · obtain ⟨s, hs, rfl⟩ := List.mem_map.mp hy
    simp only [x_cons, x_nil, x_asg, x_asgT, x_asgS, x_asgA, x_aug, x_ex, x_ret, x_retN, x_if, x_for, x_pass, x_brk, x_cnt, x_try, w_var, w_cst, w_glb, w_tup, w_lst, w_dct0, w_neg, w_bin, w_cmp, w_chain, w_and_, w_or_, w_and1_, w_and2_, w_or1_, w_or2_, w_not, w_ife, w_sub, w_sl1, w_sl2, w_sl3, w_attr, w_call, w_callK, w_new, w_meth, w_cmeth, w_bf, w_bm, w_isi, w_fstr, w_comp, w_dcomp, w_nil, w_cons, w_ie, w_rng, w_enum, w_zip, w_tnil, w_tcons, Fl.go_next, Fl.go_ret, Fl.go_brk, Fl.go_cnt, List.map_cons, List.map_nil, List.cons_append, List.nil_append, List.replicate, List.length_cons, List.length_nil, Nat.sub_self, Nat.reduceSub, Nat.reduceAdd, List.getElem?_cons_zero, List.getElem?_cons_succ, List.set_cons_zero, List.set_cons_succ, setAll, wipeP, Option.some.injEq, exists_eq_left', exists_eq_left, Res.sat_ok, Res.sat_guard, finF_ret, finF_next, finT_ret, finT_next, cTest_nil, cTest_nm, cElt_nm, fBody_nm, t_bl, m_lst, m_ref, m_dct, m_dref, b_add, b_sub, b_mul, b_div, b_mod, b_cat, c_eqI, c_neI, c_ltI, c_leI, c_gtI, c_geI, c_eqS, c_neS, f_int, f_lenL, f_lenT, f_lenS, f_lenC, f_tupL, PV.tup.injEq, PV.lst.injEq, decide_eq_true_eq, decide_eq_false_iff_not, Bool.and_eq_true, Bool.not_eq_true', Bool.not_true, Bool.not_false, true_and, and_true]
    exact ⟨nmV s.nm, by unfold Srt.v; rw [g_tup]; exact at0, by rw [sizeLine_eq]; omega, rfl⟩
  rw [List.map_map]
  have e1 : L.map ((fun v : PV => match v with
    | .tup (x :: _) => .tup [x, .int 0]
    | _ => .non) ∘ Srt.v) = L.map fun s => PV.tup [nmV s.nm, .int 0] := rfl
  rw [e1]
  have e2 : bfunR G (callN G (1 - 1)) .dict false [.lst (L.map fun s => PV.tup [nmV s.nm, .int 0])] S = .ok (.ref S.length) (S ++ [.dct (L.map keyS) (L.map fun _ => .int 0)]) := by
    show (match asPairs (L.map fun s => PV.tup [nmV s.nm, .int 0]) with
      | some ps => if ps.all (fun p => !p.1.isT) then mkD false (mergeD ps [] []).1 (mergeD ps [] []).2 S else .stuck
      | none => .stuck) = _
    rw [pairs_srt (fun _ => .int 0)]
    dsimp only
    rw [if_pos (by rw [List.all_map, List.all_eq_true]; intro s _; rfl)]
    have := merge_srt (fun _ => .int 0) L [] (by simpa using nd)
    simp only [List.map_nil, List.nil_append] at this
    rw [this]; rfl
  rw [show (1 - 1 : Nat) = 0 from rfl] at e2
  rw [e2]
  simp only [x_cons, x_nil, x_asg, x_asgT, x_asgS, x_asgA, x_aug, x_ex, x_ret, x_retN, x_if, x_for, x_pass, x_brk, x_cnt, x_try, w_var, w_cst, w_glb, w_tup, w_lst, w_dct0, w_neg, w_bin, w_cmp, w_chain, w_and_, w_or_, w_and1_, w_and2_, w_or1_, w_or2_, w_not, w_ife, w_sub, w_sl1, w_sl2, w_sl3, w_attr, w_call, w_callK, w_new, w_meth, w_cmeth, w_bf, w_bm, w_isi, w_fstr, w_comp, w_dcomp, w_nil, w_cons, w_ie, w_rng, w_enum, w_zip, w_tnil, w_tcons, Fl.go_next, Fl.go_ret, Fl.go_brk, Fl.go_cnt, List.map_cons, List.map_nil, List.cons_append, List.nil_append, List.replicate, List.length_cons, List.length_nil, Nat.sub_self, Nat.reduceSub, Nat.reduceAdd, List.getElem?_cons_zero, List.getElem?_cons_succ, List.set_cons_zero, List.set_cons_succ, setAll, wipeP, Option.some.injEq, exists_eq_left', exists_eq_left, Res.sat_ok, Res.sat_guard, finF_ret, finF_next, finT_ret, finT_next, cTest_nil, cTest_nm, cElt_nm, fBody_nm, t_bl, m_lst, m_ref, m_dct, m_dref, b_add, b_sub, b_mul, b_div, b_mod, b_cat, c_eqI, c_neI, c_ltI, c_leI, c_gtI, c_geI, c_eqS, c_neS, f_int, f_lenL, f_lenT, f_lenS, f_lenC, f_tupL, PV.tup.injEq, PV.lst.injEq, decide_eq_true_eq, decide_eq_false_iff_not, Bool.and_eq_true, Bool.not_eq_true', Bool.not_true, Bool.not_false, true_and, and_true]
  refine ⟨_, rfl, ?_⟩
  have here : ∀ o : PO, (S ++ [o])[S.length]? = some o := fun o => by simp
  show ((forLoop (stay []) _ (zipL (L.map Srt.v) (L.map fun s => PV.int (v s.nm))) _ _).sat _)
  rw [zip_srt (fun s => PV.int (v s.nm))]
  refine for_inv (k := 0) (fun j ps S' => S' = S ++ [.dct (L.map keyS) (L.map fun s => .int (lat (L.take j) v s.nm))] ∧ ∃ v3 v4 v5 : Option PV, ps = [some (.tup (L.map Srt.v)), some (vecV L v), some (.ref S.length), v3, v4, v5]) ⟨rfl, _, _, _, rfl⟩ (fun _ _ _ _ => stay_nil _) (fun j x ps S' ex h => ?_) fun ps S' h => ?_
  · obtain ⟨rfl, v3, v4, v5, rfl⟩ := h
    rw [List.getElem?_map, Option.map_eq_some_iff] at ex
    obtain ⟨s, e1, rfl⟩ := ex
    have hs := List.mem_of_getElem? e1
    have hrs := g.row s hs
    rw [fBody_tp _ _ _ rfl, Nat.zero_add]
    simp only [x_cons, x_nil, x_asg, x_asgT, x_asgS, x_asgA, x_aug, x_ex, x_ret, x_retN, x_if, x_for, x_pass, x_brk, x_cnt, x_try, w_var, w_cst, w_glb, w_tup, w_lst, w_dct0, w_neg, w_bin, w_cmp, w_chain, w_and_, w_or_, w_and1_, w_and2_, w_or1_, w_or2_, w_not, w_ife, w_sub, w_sl1, w_sl2, w_sl3, w_attr, w_call, w_callK, w_new, w_meth, w_cmeth, w_bf, w_bm, w_isi, w_fstr, w_comp, w_dcomp, w_nil, w_cons, w_ie, w_rng, w_enum, w_zip, w_tnil, w_tcons, Fl.go_next, Fl.go_ret, Fl.go_brk, Fl.go_cnt, List.map_cons, List.map_nil, List.cons_append, List.nil_append, List.replicate, List.length_cons, List.length_nil, Nat.sub_self, Nat.reduceSub, Nat.reduceAdd, List.getElem?_cons_zero, List.getElem?_cons_succ, List.set_cons_zero, List.set_cons_succ, setAll, wipeP, Option.some.injEq, exists_eq_left', exists_eq_left, Res.sat_ok, Res.sat_guard, finF_ret, finF_next, finT_ret, finT_next, cTest_nil, cTest_nm, cElt_nm, fBody_nm, t_bl, m_lst, m_ref, m_dct, m_dref, b_add, b_sub, b_mul, b_div, b_mod, b_cat, c_eqI, c_neI, c_ltI, c_leI, c_gtI, c_geI, c_eqS, c_neS, f_int, f_lenL, f_lenT, f_lenS, f_lenC, f_tupL, PV.tup.injEq, PV.lst.injEq, decide_eq_true_eq, decide_eq_false_iff_not, Bool.and_eq_true, Bool.not_eq_true', Bool.not_true, Bool.not_false, true_and, and_true]
    refine ⟨rowV s, by unfold Srt.v; rw [g_tup]; exact at2, _, rfl, ?_⟩
    refine for_inv (k := 0) (fun i ps S' => S' = S ++ [.dct (L.map keyS) (L.map fun t => .int (lat (L.take j) v t.nm + v s.nm * occ t.nm (s.row.take i)))] ∧ ∃ v5 : Option PV, ps = [some (.tup (L.map Srt.v)), some (vecV L v), some (.ref S.length), some s.v, some (.int (v s.nm)), v5]) ⟨by simp [occ], _, rfl⟩ (fun _ _ _ _ => stay_nil _) (fun i y ps S' ey h => ?_) fun ps S' h => ?_
    · obtain ⟨rfl, v5, rfl⟩ := h
      have ey' : (s.row.map nmV)[i]? = some y := ey
      rw [List.getElem?_map, Option.map_eq_some_iff] at ey'
      obtain ⟨p, e3, rfl⟩ := ey'
      have hp := hrs.1 p (List.mem_of_getElem? e3)
      rw [Nat.zero_add]
      simp only [x_cons, x_nil, x_asg, x_asgT, x_asgS, x_asgA, x_aug, x_ex, x_ret, x_retN, x_if, x_for, x_pass, x_brk, x_cnt, x_try, w_var, w_cst, w_glb, w_tup, w_lst, w_dct0, w_neg, w_bin, w_cmp, w_chain, w_and_, w_or_, w_and1_, w_and2_, w_or1_, w_or2_, w_not, w_ife, w_sub, w_sl1, w_sl2, w_sl3, w_attr, w_call, w_callK, w_new, w_meth, w_cmeth, w_bf, w_bm, w_isi, w_fstr, w_comp, w_dcomp, w_nil, w_cons, w_ie, w_rng, w_enum, w_zip, w_tnil, w_tcons, Fl.go_next, Fl.go_ret, Fl.go_brk, Fl.go_cnt, List.map_cons, List.map_nil, List.cons_append, List.nil_append, List.replicate, List.length_cons, List.length_nil, Nat.sub_self, Nat.reduceSub, Nat.reduceAdd, List.getElem?_cons_zero, List.getElem?_cons_succ, List.set_cons_zero, List.set_cons_succ, setAll, wipeP, Option.some.injEq, exists_eq_left', exists_eq_left, Res.sat_ok, Res.sat_guard, finF_ret, finF_next, finT_ret, finT_next, cTest_nil, cTest_nm, cElt_nm, fBody_nm, t_bl, m_lst, m_ref, m_dct, m_dref, b_add, b_sub, b_mul, b_div, b_mod, b_cat, c_eqI, c_neI, c_ltI, c_leI, c_gtI, c_geI, c_eqS, c_neS, f_int, f_lenL, f_lenT, f_lenS, f_lenC, f_tupL, PV.tup.injEq, PV.lst.injEq, decide_eq_true_eq, decide_eq_false_iff_not, Bool.and_eq_true, Bool.not_eq_true', Bool.not_true, Bool.not_false, true_and, and_true]
      refine ⟨_, HasD.get (L := L) (F := fun y => .int (lat (L.take j) v y + v s.nm * occ y (s.row.take i))) (.inr ⟨_, rfl, here _⟩) hp, ?_⟩
      simp only [x_cons, x_nil, x_asg, x_asgT, x_asgS, x_asgA, x_aug, x_ex, x_ret, x_retN, x_if, x_for, x_pass, x_brk, x_cnt, x_try, w_var, w_cst, w_glb, w_tup, w_lst, w_dct0, w_neg, w_bin, w_cmp, w_chain, w_and_, w_or_, w_and1_, w_and2_, w_or1_, w_or2_, w_not, w_ife, w_sub, w_sl1, w_sl2, w_sl3, w_attr, w_call, w_callK, w_new, w_meth, w_cmeth, w_bf, w_bm, w_isi, w_fstr, w_comp, w_dcomp, w_nil, w_cons, w_ie, w_rng, w_enum, w_zip, w_tnil, w_tcons, Fl.go_next, Fl.go_ret, Fl.go_brk, Fl.go_cnt, List.map_cons, List.map_nil, List.cons_append, List.nil_append, List.replicate, List.length_cons, List.length_nil, Nat.sub_self, Nat.reduceSub, Nat.reduceAdd, List.getElem?_cons_zero, List.getElem?_cons_succ, List.set_cons_zero, List.set_cons_succ, setAll, wipeP, Option.some.injEq, exists_eq_left', exists_eq_left, Res.sat_ok, Res.sat_guard, finF_ret, finF_next, finT_ret, finT_next, cTest_nil, cTest_nm, cElt_nm, fBody_nm, t_bl, m_lst, m_ref, m_dct, m_dref, b_add, b_sub, b_mul, b_div, b_mod, b_cat, c_eqI, c_neI, c_ltI, c_leI, c_gtI, c_geI, c_eqS, c_neS, f_int, f_lenL, f_lenT, f_lenS, f_lenC, f_tupL, PV.tup.injEq, PV.lst.injEq, decide_eq_true_eq, decide_eq_false_iff_not, Bool.and_eq_true, Bool.not_eq_true', Bool.not_true, Bool.not_false, true_and, and_true]
      refine ⟨_, ?_, rfl, _, rfl⟩
      unfold setIx
      simp only [here]
      rw [if_pos (by rw [Bool.or_eq_true]; exact .inl (decide_eq_true (Nat.le_refl _)))]
      show (if (decide ((L.map keyS).length < sizeLine) && kindOk (L.map keyS) (.s (SX.S p))) = true then some ((S ++ [_]).set S.length (.dct (putKs _ (.s (SX.S p))) (putVs _ _ (.s (SX.S p)) _))) else none) = _
      rw [if_pos (by rw [Bool.and_eq_true, decide_eq_true_eq]; exact ⟨by rw [List.length_map, sizeLine_eq]; omega, kind_keys _ _⟩), put_ks_old hp, put_vs_old (fun y => lat (L.take j) v y + v s.nm * occ y (s.row.take i)) _ nd hp, List.set_append_right _ _ (Nat.le_refl _), Nat.sub_self]
      have e4 : (L.map fun t => PV.int (if t.nm = p then lat (L.take j) v p + v s.nm * occ p (s.row.take i) + v s.nm else lat (L.take j) v t.nm + v s.nm * occ t.nm (s.row.take i))) = L.map fun t => PV.int (lat (L.take j) v t.nm + v s.nm * occ t.nm (s.row.take (i + 1))) := by
        refine List.map_congr_left fun t _ => ?_
        rw [List.take_add_one, e3, occ_add]
        show _ = PV.int (_ + v s.nm * (_ + occ t.nm [p]))
        by_cases z : t.nm = p
        · rw [if_pos z, z]
          have : occ p [p] = 1 := by unfold occ; simp
          rw [this, Int.mul_add, Int.mul_one]
          congr 1; omega
        · rw [if_neg z]
          have : occ t.nm [p] = 0 := by unfold occ; simp; exact fun h => z h.symm
          rw [this, Int.add_zero]
      rw [e4]; rfl
    · obtain ⟨rfl, v5, rfl⟩ := h
      refine ⟨?_, _, _, _, rfl⟩
      have e5 : (0 + ({ xs := s.row.map nmV, ls := [] } : Walked).xs.length) = s.row.length := by show 0 + (s.row.map nmV).length = _; rw [List.length_map, Nat.zero_add]
      rw [show ({ xs := _, ls := _ } : Walked).xs.length = s.row.length from List.length_map _, Nat.zero_add, List.take_of_length_le (Nat.le_refl _)]
      congr 3
      refine List.map_congr_left fun t _ => ?_
      unfold lat
      rw [List.take_add_one, e1, List.map_append, List.sum_append]
      simp
  · obtain ⟨rfl, v3, v4, v5, rfl⟩ := h
    rw [List.length_map, Nat.zero_add, List.take_of_length_le (Nat.le_refl _)]
    simp only [x_cons, x_nil, x_asg, x_asgT, x_asgS, x_asgA, x_aug, x_ex, x_ret, x_retN, x_if, x_for, x_pass, x_brk, x_cnt, x_try, w_var, w_cst, w_glb, w_tup, w_lst, w_dct0, w_neg, w_bin, w_cmp, w_chain, w_and_, w_or_, w_and1_, w_and2_, w_or1_, w_or2_, w_not, w_ife, w_sub, w_sl1, w_sl2, w_sl3, w_attr, w_call, w_callK, w_new, w_meth, w_cmeth, w_bf, w_bm, w_isi, w_fstr, w_comp, w_dcomp, w_nil, w_cons, w_ie, w_rng, w_enum, w_zip, w_tnil, w_tcons, Fl.go_next, Fl.go_ret, Fl.go_brk, Fl.go_cnt, List.map_cons, List.map_nil, List.cons_append, List.nil_append, List.replicate, List.length_cons, List.length_nil, Nat.sub_self, Nat.reduceSub, Nat.reduceAdd, List.getElem?_cons_zero, List.getElem?_cons_succ, List.set_cons_zero, List.set_cons_succ, setAll, wipeP, Option.some.injEq, exists_eq_left', exists_eq_left, Res.sat_ok, Res.sat_guard, finF_ret, finF_next, finT_ret, finT_next, cTest_nil, cTest_nm, cElt_nm, fBody_nm, t_bl, m_lst, m_ref, m_dct, m_dref, b_add, b_sub, b_mul, b_div, b_mod, b_cat, c_eqI, c_neI, c_ltI, c_leI, c_gtI, c_geI, c_eqS, c_neS, f_int, f_lenL, f_lenT, f_lenS, f_lenC, f_tupL, PV.tup.injEq, PV.lst.injEq, decide_eq_true_eq, decide_eq_false_iff_not, Bool.and_eq_true, Bool.not_eq_true', Bool.not_true, Bool.not_false, true_and, and_true]
    refine ⟨_, rfl, ?_⟩
    refine comp_map (fun x => match x with
      | .tup (.str y :: _) => .int (lat L v y.cps.toList)
      | _ => .non) (stay_nil _) (by rw [List.length_map, sizeLine_eq]; omega) (fun y hy => ?_) (fun y hy => ?_) ?_
    · rw [cTest_nil]; exact ⟨rfl, rfl⟩
    · obtain ⟨s, hs, rfl⟩ := List.mem_map.mp hy
      simp only [x_cons, x_nil, x_asg, x_asgT, x_asgS, x_asgA, x_aug, x_ex, x_ret, x_retN, x_if, x_for, x_pass, x_brk, x_cnt, x_try, w_var, w_cst, w_glb, w_tup, w_lst, w_dct0, w_neg, w_bin, w_cmp, w_chain, w_and_, w_or_, w_and1_, w_and2_, w_or1_, w_or2_, w_not, w_ife, w_sub, w_sl1, w_sl2, w_sl3, w_attr, w_call, w_callK, w_new, w_meth, w_cmeth, w_bf, w_bm, w_isi, w_fstr, w_comp, w_dcomp, w_nil, w_cons, w_ie, w_rng, w_enum, w_zip, w_tnil, w_tcons, Fl.go_next, Fl.go_ret, Fl.go_brk, Fl.go_cnt, List.map_cons, List.map_nil, List.cons_append, List.nil_append, List.replicate, List.length_cons, List.length_nil, Nat.sub_self, Nat.reduceSub, Nat.reduceAdd, List.getElem?_cons_zero, List.getElem?_cons_succ, List.set_cons_zero, List.set_cons_succ, setAll, wipeP, Option.some.injEq, exists_eq_left', exists_eq_left, Res.sat_ok, Res.sat_guard, finF_ret, finF_next, finT_ret, finT_next, cTest_nil, cTest_nm, cElt_nm, fBody_nm, t_bl, m_lst, m_ref, m_dct, m_dref, b_add, b_sub, b_mul, b_div, b_mod, b_cat, c_eqI, c_neI, c_ltI, c_leI, c_gtI, c_geI, c_eqS, c_neS, f_int, f_lenL, f_lenT, f_lenS, f_lenC, f_tupL, PV.tup.injEq, PV.lst.injEq, decide_eq_true_eq, decide_eq_false_iff_not, Bool.and_eq_true, Bool.not_eq_true', Bool.not_true, Bool.not_false, true_and, and_true]
      refine ⟨nmV s.nm, by unfold Srt.v; rw [g_tup]; exact at0, _, HasD.get (L := L) (F := fun y => .int (lat L v y)) (.inr ⟨_, rfl, here _⟩) (List.mem_map.mpr ⟨s, hs, rfl⟩), rfl⟩
    · rw [List.map_map]
      refine ⟨_, fz_rf ?_, rfl, by simp⟩
      exact List.all_eq_true.mp (by rw [← PV.rfs_eq]; exact rfs_vec (L := L) (f := fun _ => lat L v) [default]) _ List.mem_cons_self
end
end PyI
set_option Elab.async false
set_option linter.all false
set_option maxRecDepth 100000
set_option maxHeartbeats 8000000
namespace K14
open PySem PySem.Spec PyProof.Rows PyI
theorem rc : RC D.G 0 2 1 0 := ⟨by decide, by decide, by decide, by decide, by decide, by decide, by decide⟩
theorem lenT : LenT D.G 0 2 1 0 28 19 27 18 17 15 24 25 26 16 8 7 6 3 6 5 :=
  ⟨rfl, rfl, rfl, rfl, rfl, rfl, rfl, rfl, rfl, rfl, rfl, rfl, rfl, rfl, rfl, rfl, rc, by decide⟩
theorem cntT : CntT D.G 0 2 0 23 22 21 20 17 8 16 3 4 := ⟨rfl, rfl, rfl, rfl, rfl, rfl, rfl, rfl⟩
section
variable {S : Store} {k l : Nat}
theorem new0 {L : List Srt} {W : List Nat → Int} {q : Int} (hk : 5 ≤ k) (g : GoodR q W L) : newI D.G (callN D.G k) 0 [.int q, .tup (L.map Srt.v)] S = .ok (rulerV 0 2 1 0 q L) S :=
  new_eq (f := 12) (fc := 11) (ff := 10) (fk := 9) (fb := 7) (fi := 6) (fn := 8) rfl rfl rfl rfl rfl rfl rfl rfl rfl rfl hk rc g
theorem counts0 {L : List Srt} {W : List Nat → Int} {R : List Nat → List (List Nat)} {q : Int} (hk : 8 ≤ k) (g : GoodR q W L) (hR : ∀ s ∈ L, R s.nm = s.row) {x : List Nat} (hx : x ∈ L.map (·.nm)) {d : Nat} (hd : d ≤ 40) : callN D.G k 23 S.length [rulerV 0 2 1 0 q L, nmV x, .int (d : Int)] S = .ok (vecV L (cnt R d x)) S :=
  counts_eq (fs := 19) (fo := 22) (fd := 18) (fr := 15) (fb := 7) (fi := 6) rfl cntT rfl rfl rfl rfl rfl (by decide) hk rc g hR hx hd
theorem in_ints {G : Tab} {c : Nat → Nat → List PV → Store → Res PV} (i : Int) (xs : List Int) : ∃ b, cmpR G c .In (.int i) (.lst (xs.map .int)) S = .ok b S := by
  have h : ∀ ys : List Int, PV.toDs (ys.map .int) = some (ys.map PyData.int) := fun ys => by
    induction ys with
    | nil => rfl
    | cons y t ih => rw [List.map_cons, PV.toDs, ih]; rfl
  refine ⟨(xs.map PyData.int).any fun z => PyData.eqv z (.int i), ?_⟩
  have : cmpD .In (.int i) (.lst (xs.map .int)) S = some ((xs.map PyData.int).any fun z => PyData.eqv z (.int i)) := by
    unfold cmpD isInG
    show inG (.int i) (xs.map .int) _ S = _
    unfold inG
    rw [show toDS (.int i) S = some (PyData.int i) from rfl, h]
    dsimp only [Option.bind]
    rw [show ((PV.int i).flat && (xs.map PV.int).all PV.flat) = true by
      rw [Bool.and_eq_true]
      refine ⟨rfl, ?_⟩
      rw [List.all_map, List.all_eq_true]
      intro _ _; rfl]
    rfl
  show ofO (cmpD .In (.int i) (.lst (xs.map .int)) S) S = _
  rw [this]; rfl
theorem b_catL {xs ys : List PV} : binop .Add (.lst xs) (.lst ys) S = guardR (decide (xs.length + ys.length ≤ sizeLine)) (.ok (.lst (xs ++ ys)) S) := rfl
/-- the vector at depth 0, as the law says it -/
theorem ind_ok {n : Nat} {ps : Ev} {L : List Srt} {W : List Nat → Int} {R : List Nat → List (List Nat)} {q : Int} (g : GoodR q W L) {x : List Nat} {own : List Nat} (h5 : ∀ v, ((wipeP ps [9]).set 9 (some v))[5]? = some (some (nmV x))) (h9 : ∀ v, ((wipeP ps [9]).set 9 (some v))[9]? = some (some v)) {P : List PV → Store → Prop} (hP : P (L.map fun s => .int (cnt R 0 x s.nm)) S) :
    (compLoop (stay []) (cTest D.G (callN D.G k) n [9] (.nm 9) .nil ps) (cElt D.G (callN D.G k) n [9] (.nm 9) (.bf .int true (.cons (.cmp .Eq (.sub (.var 9) (.cst (.int 0))) (.var 5)) .nil)) ps) (L.map Srt.v) [] S).sat P := by
  have few := g.few
  refine comp_map (fun v => match v with
    | .tup (.str y :: _) => .int (if x = y.cps.toList then 1 else 0)
    | _ => .non) (stay_nil _) (by rw [List.length_map, sizeLine_eq]; omega) (fun y hy => ?_) (fun y hy => ?_) ?_
  · rw [cTest_nil]; exact ⟨rfl, rfl⟩
  · obtain ⟨s, hs, rfl⟩ := List.mem_map.mp hy
    simp only [cElt_nm, w_bf, w_cons, w_nil, w_cmp, w_sub, w_var, w_cst, h5, h9, Option.some.injEq, exists_eq_left']
    refine ⟨nmV s.nm, by unfold Srt.v; rw [g_tup]; exact at0, ?_⟩
    rw [show cmpR D.G (callN D.G k) .Eq (nmV s.nm) (nmV x) S = .ok (decide (SX.S s.nm = SX.S x)) S from rfl]
    simp only [Res.sat_ok]
    rw [f_intB]
    simp only [Res.sat_ok]
    refine ⟨?_, trivial⟩
    show PV.int (if decide (SX.S s.nm = SX.S x) = true then 1 else 0) = PV.int (if x = s.nm then 1 else 0)
    by_cases e : x = s.nm
    · rw [if_pos e, if_pos (by rw [e]; exact decide_eq_true rfl)]
    · rw [if_neg e, if_neg (by rw [decide_eq_true_eq]; exact fun z => e (SX.S_inj z).symm)]
  · rw [List.map_map]
    exact hP
theorem right_ok (hk : 9 ≤ k) {P : PV → Store → Prop} (hl : HasP l S) (hP : ∀ S', S'.length = S.length → P (.bl true) S') : (callN D.G k 30 S.length [.ref l] S).sat P := by
  refine callF (np := 1) (nl := 13) (lv := 9) (body := Lib.law_right_v1 0 23 0 1 29 5 28) rfl (by decide) hk rfl (by decide) ?_
  unfold Lib.law_right_v1
  rw [x_cons, x_asg, w_cmp, w_call]
  simp only [w_cons, w_nil, w_var, w_cst, List.map_cons, List.map_nil, List.cons_append, List.nil_append, List.replicate, List.length_cons, List.length_nil, Nat.reduceSub, List.getElem?_cons_zero, Option.some.injEq, exists_eq_left']
  refine draw (by rfl) (by decide) hl (by decide) (by decide) fun r S1 p1 r0 r1 => ?_
  rw [c_eqI]
  generalize decide (r = 0) = big
  have l1 := p1.has hl
  -- from the factor and the kinds on
  have mid : ∀ (q : Int) (W : List Nat → Int) (L : List Srt) (T : Store), T.length = S.length → HasP l T → GoodR q W L → (execs D.G (callN D.G 8) S.length (.cons (.asgT [4, 5] (.tup (.cons (.new 0 (.cons (.var 2) (.cons (.var 3) .nil))) (.cons (.sub (.sub (.var 3) (.call 0 (.cons (.var 0) (.cons (.bf .len true (.cons (.var 3) .nil)) .nil)))) (.cst (.int 0))) .nil))))
    (.cons (.asg 6 (.bin .Add (.lst true (.cons (.cst (.int 0)) (.cons (.cst (.int 1)) (.cons (.cst (.int 2)) (.cons (.cst (.int 3)) (.cons (.cst (.int 4)) (.cons (.cst (.int 40)) .nil))))))) (.comp true [7] (.call 0 (.cons (.var 0) (.cons (.cst (.int 41)) .nil))) (.nm 7) (.rng (.cons (.cst (.int 5)) .nil)) (.nil))))
    (.cons (.asg 8 (.bf .tuple true (.cons (.comp true [9] (.bf .int true (.cons (.cmp .Eq (.sub (.var 9) (.cst (.int 0))) (.var 5)) .nil)) (.nm 9) (.e (.var 3)) (.nil)) .nil)))
    (.cons (.for_ (.nm 10) (.rng (.cons (.cst (.int 41)) .nil))
    (.cons (.ifs (.cmp .In (.var 10) (.var 6))
    (.cons (.asg 11 (.call 23 (.cons (.var 4) (.cons (.var 5) (.cons (.var 10) .nil)))))
    (.cons (.ifs (.cmp .NotEq (.bf .repr true (.cons (.var 11) .nil)) (.bf .repr true (.cons (.var 8) .nil)))
    (.cons (.ret (.cst (.bl false))) .nil)
    (.nil))
    (.cons (.ifs (.cmp .NotEq (.bf .sum true (.cons (.comp true [9, 12] (.bin .Mult (.sub (.var 9) (.cst (.int 1))) (.var 12)) (.tp [9, 12]) (.zip (.var 3) (.var 11)) (.nil)) .nil)) (.call 28 (.cons (.var 4) (.cons (.var 5) (.cons (.var 10) .nil)))))
    (.cons (.ret (.cst (.bl false))) .nil)
    (.nil)) .nil)))
    (.nil))
    (.cons (.asg 8 (.call 29 (.cons (.var 3) (.cons (.var 8) .nil)))) .nil)))
    (.cons (.ret (.cmp .Eq (.bf .repr true (.cons (.callK 23 (.nil) (.cons (.cst (.int 0)) (.cons (.var 5) (.cons (.var 4) .nil))) [2, 1, 0]) .nil)) (.bf .repr true (.cons (.bf .tuple true (.cons (.comp true [9] (.bf .int true (.cons (.cmp .Eq (.sub (.var 9) (.cst (.int 0))) (.var 5)) .nil)) (.nm 9) (.e (.var 3)) (.nil)) .nil)) .nil)))) .nil)))))
    [some (.ref l), some (.bl big), some (.int q), some (.tup (L.map Srt.v)), none, none, none, none, none, none, none, none, none] T).sat fun fl _ S' => finF S.length P fl S' := by
    intro q W L T lT hT g
    have few := g.few
    have g0 := g.ne
    have q2 := g.q2
    have q9 := g.q9
    obtain ⟨R, hR⟩ := exR g
    simp only [x_cons, x_nil, x_asg, x_asgT, x_asgS, x_asgA, x_aug, x_ex, x_ret, x_retN, x_if, x_for, x_pass, x_brk, x_cnt, x_try, w_var, w_cst, w_glb, w_tup, w_lst, w_dct0, w_neg, w_bin, w_cmp, w_chain, w_and_, w_or_, w_and1_, w_and2_, w_or1_, w_or2_, w_not, w_ife, w_sub, w_sl1, w_sl2, w_sl3, w_attr, w_call, w_callK, w_new, w_meth, w_cmeth, w_bf, w_bm, w_isi, w_fstr, w_comp, w_dcomp, w_nil, w_cons, w_ie, w_rng, w_enum, w_zip, w_tnil, w_tcons, Fl.go_next, Fl.go_ret, Fl.go_brk, Fl.go_cnt, List.map_cons, List.map_nil, List.cons_append, List.nil_append, List.replicate, List.length_cons, List.length_nil, Nat.sub_self, Nat.reduceSub, Nat.reduceAdd, List.getElem?_cons_zero, List.getElem?_cons_succ, List.set_cons_zero, List.set_cons_succ, setAll, wipeP, Option.some.injEq, exists_eq_left', exists_eq_left, Res.sat_ok, Res.sat_guard, finF_ret, finF_next, finT_ret, finT_next, cTest_nil, cTest_nm, cElt_nm, fBody_nm, t_bl, m_lst, m_ref, m_dct, m_dref, b_add, b_sub, b_mul, b_div, b_mod, b_cat, c_eqI, c_neI, c_ltI, c_leI, c_gtI, c_geI, c_eqS, c_neS, f_int, f_lenL, f_lenT, f_lenS, f_lenC, f_tupL, PV.tup.injEq, PV.lst.injEq, decide_eq_true_eq, decide_eq_false_iff_not, Bool.and_eq_true, Bool.not_eq_true', Bool.not_true, Bool.not_false, true_and, and_true]
    rw [new0 (by decide) g]
    simp only [x_cons, x_nil, x_asg, x_asgT, x_asgS, x_asgA, x_aug, x_ex, x_ret, x_retN, x_if, x_for, x_pass, x_brk, x_cnt, x_try, w_var, w_cst, w_glb, w_tup, w_lst, w_dct0, w_neg, w_bin, w_cmp, w_chain, w_and_, w_or_, w_and1_, w_and2_, w_or1_, w_or2_, w_not, w_ife, w_sub, w_sl1, w_sl2, w_sl3, w_attr, w_call, w_callK, w_new, w_meth, w_cmeth, w_bf, w_bm, w_isi, w_fstr, w_comp, w_dcomp, w_nil, w_cons, w_ie, w_rng, w_enum, w_zip, w_tnil, w_tcons, Fl.go_next, Fl.go_ret, Fl.go_brk, Fl.go_cnt, List.map_cons, List.map_nil, List.cons_append, List.nil_append, List.replicate, List.length_cons, List.length_nil, Nat.sub_self, Nat.reduceSub, Nat.reduceAdd, List.getElem?_cons_zero, List.getElem?_cons_succ, List.set_cons_zero, List.set_cons_succ, setAll, wipeP, Option.some.injEq, exists_eq_left', exists_eq_left, Res.sat_ok, Res.sat_guard, finF_ret, finF_next, finT_ret, finT_next, cTest_nil, cTest_nm, cElt_nm, fBody_nm, t_bl, m_lst, m_ref, m_dct, m_dref, b_add, b_sub, b_mul, b_div, b_mod, b_cat, c_eqI, c_neI, c_ltI, c_leI, c_gtI, c_geI, c_eqS, c_neS, f_int, f_lenL, f_lenT, f_lenS, f_lenC, f_tupL, PV.tup.injEq, PV.lst.injEq, decide_eq_true_eq, decide_eq_false_iff_not, Bool.and_eq_true, Bool.not_eq_true', Bool.not_true, Bool.not_false, true_and, and_true]
    rw [List.length_map]
    refine draw (by rfl) (by decide) hT (by omega) (by omega) fun r S2 p2 r0 r1 => ?_
    have hr : r.toNat < L.length := by omega
    have hsr := List.getElem_mem hr
    generalize hsr0 : L[r.toNat] = s0 at hsr
    have hx : s0.nm ∈ L.map (·.nm) := List.mem_map.mpr ⟨_, hsr, rfl⟩
    refine ⟨s0.v, by rw [g_tup]; exact atI_of r0 (by rw [List.getElem?_map, List.getElem?_eq_getElem hr, hsr0]; rfl), nmV s0.nm, by unfold Srt.v; rw [g_tup]; exact at0, by rw [sizeLine_eq]; omega, by rw [sizeLine_eq]; omega, _, r_rng (by decide) (by decide), ?_⟩
    have l2 := p2.has hT
    refine comp_eff (l := l) (m := 5) PV.int (fun _ _ => True) (by decide) l2 (fun i hi Sx Rr hx _ hRr => ?_) fun ws S3 lw _ p3 => ?_
    · simp only [x_cons, x_nil, x_asg, x_asgT, x_asgS, x_asgA, x_aug, x_ex, x_ret, x_retN, x_if, x_for, x_pass, x_brk, x_cnt, x_try, w_var, w_cst, w_glb, w_tup, w_lst, w_dct0, w_neg, w_bin, w_cmp, w_chain, w_and_, w_or_, w_and1_, w_and2_, w_or1_, w_or2_, w_not, w_ife, w_sub, w_sl1, w_sl2, w_sl3, w_attr, w_call, w_callK, w_new, w_meth, w_cmeth, w_bf, w_bm, w_isi, w_fstr, w_comp, w_dcomp, w_nil, w_cons, w_ie, w_rng, w_enum, w_zip, w_tnil, w_tcons, Fl.go_next, Fl.go_ret, Fl.go_brk, Fl.go_cnt, List.map_cons, List.map_nil, List.cons_append, List.nil_append, List.replicate, List.length_cons, List.length_nil, Nat.sub_self, Nat.reduceSub, Nat.reduceAdd, List.getElem?_cons_zero, List.getElem?_cons_succ, List.set_cons_zero, List.set_cons_succ, setAll, wipeP, Option.some.injEq, exists_eq_left', exists_eq_left, Res.sat_ok, Res.sat_guard, finF_ret, finF_next, finT_ret, finT_next, cTest_nil, cTest_nm, cElt_nm, fBody_nm, t_bl, m_lst, m_ref, m_dct, m_dref, b_add, b_sub, b_mul, b_div, b_mod, b_cat, c_eqI, c_neI, c_ltI, c_leI, c_gtI, c_geI, c_eqS, c_neS, f_int, f_lenL, f_lenT, f_lenS, f_lenC, f_tupL, PV.tup.injEq, PV.lst.injEq, decide_eq_true_eq, decide_eq_false_iff_not, Bool.and_eq_true, Bool.not_eq_true', Bool.not_true, Bool.not_false, true_and, and_true]
      refine draw (by rfl) (by decide) hx (by decide) (by decide) fun r S2 p2 r0 r1 => ?_
      exact hRr _ _ p2 trivial
    rw [b_catL]
    simp only [x_cons, x_nil, x_asg, x_asgT, x_asgS, x_asgA, x_aug, x_ex, x_ret, x_retN, x_if, x_for, x_pass, x_brk, x_cnt, x_try, w_var, w_cst, w_glb, w_tup, w_lst, w_dct0, w_neg, w_bin, w_cmp, w_chain, w_and_, w_or_, w_and1_, w_and2_, w_or1_, w_or2_, w_not, w_ife, w_sub, w_sl1, w_sl2, w_sl3, w_attr, w_call, w_callK, w_new, w_meth, w_cmeth, w_bf, w_bm, w_isi, w_fstr, w_comp, w_dcomp, w_nil, w_cons, w_ie, w_rng, w_enum, w_zip, w_tnil, w_tcons, Fl.go_next, Fl.go_ret, Fl.go_brk, Fl.go_cnt, List.map_cons, List.map_nil, List.cons_append, List.nil_append, List.replicate, List.length_cons, List.length_nil, Nat.sub_self, Nat.reduceSub, Nat.reduceAdd, List.getElem?_cons_zero, List.getElem?_cons_succ, List.set_cons_zero, List.set_cons_succ, setAll, wipeP, Option.some.injEq, exists_eq_left', exists_eq_left, Res.sat_ok, Res.sat_guard, finF_ret, finF_next, finT_ret, finT_next, cTest_nil, cTest_nm, cElt_nm, fBody_nm, t_bl, m_lst, m_ref, m_dct, m_dref, b_add, b_sub, b_mul, b_div, b_mod, b_cat, c_eqI, c_neI, c_ltI, c_leI, c_gtI, c_geI, c_eqS, c_neS, f_int, f_lenL, f_lenT, f_lenS, f_lenC, f_tupL, PV.tup.injEq, PV.lst.injEq, decide_eq_true_eq, decide_eq_false_iff_not, Bool.and_eq_true, Bool.not_eq_true', Bool.not_true, Bool.not_false, true_and, and_true]
    refine ⟨by rw [List.length_map, sizeLine_eq]; omega, _, rfl, ?_⟩
    refine ind_ok (R := R) (x := s0.nm) (own := []) g (fun _ => rfl) (fun _ => rfl) ?_
    refine ⟨_, r_rng (by decide) (by decide), ?_⟩
    have l3 : S3.length = S.length := by rw [p3.len, p2.len, lT]
    have hlen : (rangeL 0 (41 : Int)).length = 41 := by rw [show (41 : Int) = ((41 : Nat) : Int) from rfl, rangeL_nat]; simp
    have hget : ∀ (i : Nat) (y : PV), (rangeL 0 (41 : Int))[i]? = some y → y = PV.int (i : Int) := fun i y h => by
      rw [show (41 : Int) = ((41 : Nat) : Int) from rfl, rangeL_nat, List.getElem?_map, Option.map_eq_some_iff] at h
      obtain ⟨z, h1, h2⟩ := h
      have hi : i < 41 := by
        have := (List.getElem?_eq_some_iff.mp h1).1
        simpa using this
      rw [List.getElem?_range hi] at h1
      obtain rfl : i = z := Option.some.inj h1
      exact h2.symm
    rw [show (PV.int 0 :: .int 1 :: .int 2 :: .int 3 :: .int 4 :: .int 40 :: ws.map PV.int) = ((0 : Int) :: 1 :: 2 :: 3 :: 4 :: 40 :: ws).map PV.int from rfl]
    generalize ((0 : Int) :: 1 :: 2 :: 3 :: 4 :: 40 :: ws) = some_
    generalize rangeL 0 (41 : Int) = RR at hlen hget ⊢
    have small : ∀ j, j ≤ 41 → ∀ s ∈ L, (cnt R j s0.nm s.nm).natAbs.log2 < 1920 := fun j hj s hs => cnt_small g hR hj hx hs
    refine for_inv (k := 0) (fun j ps S' => S' = S3 ∧ ∃ v7 v9 v10 v11 v12 : Option PV, ps = [some (.ref l), some (.bl big), some (.int q), some (.tup (L.map Srt.v)), some (rulerV 0 2 1 0 q L), some (nmV s0.nm), some (.lst (some_.map PV.int)), v7, some (vecV L (cnt R j s0.nm)), v9, v10, v11, v12])
      ⟨rfl, _, _, _, _, _, rfl⟩ (fun _ _ _ _ => stay_nil _) (fun j x ps S' ex h => ?_) fun ps S' h => ?_
    · obtain ⟨rfl, v7, v9, v10, v11, v12, rfl⟩ := h
      have hj := (List.getElem?_eq_some_iff.mp ex).1
      rw [hlen] at hj
      obtain rfl := hget j x ex
      rw [Nat.zero_add]
      have nxt : callN D.G 8 29 S'.length [.tup (L.map Srt.v), vecV L (cnt R j s0.nm)] S' = .ok (vecV L (cnt R (j + 1) s0.nm)) S' := by
        rw [later_eq (by rfl) (by decide) g]
        congr 1
        unfold vecV
        congr 1
        exact List.map_congr_left fun s _ => by rw [lat_cnt g hR j s.nm hx]
      simp only [x_cons, x_nil, x_asg, x_asgT, x_asgS, x_asgA, x_aug, x_ex, x_ret, x_retN, x_if, x_for, x_pass, x_brk, x_cnt, x_try, w_var, w_cst, w_glb, w_tup, w_lst, w_dct0, w_neg, w_bin, w_cmp, w_chain, w_and_, w_or_, w_and1_, w_and2_, w_or1_, w_or2_, w_not, w_ife, w_sub, w_sl1, w_sl2, w_sl3, w_attr, w_call, w_callK, w_new, w_meth, w_cmeth, w_bf, w_bm, w_isi, w_fstr, w_comp, w_dcomp, w_nil, w_cons, w_ie, w_rng, w_enum, w_zip, w_tnil, w_tcons, Fl.go_next, Fl.go_ret, Fl.go_brk, Fl.go_cnt, List.map_cons, List.map_nil, List.cons_append, List.nil_append, List.replicate, List.length_cons, List.length_nil, Nat.sub_self, Nat.reduceSub, Nat.reduceAdd, List.getElem?_cons_zero, List.getElem?_cons_succ, List.set_cons_zero, List.set_cons_succ, setAll, wipeP, Option.some.injEq, exists_eq_left', exists_eq_left, Res.sat_ok, Res.sat_guard, finF_ret, finF_next, finT_ret, finT_next, cTest_nil, cTest_nm, cElt_nm, fBody_nm, t_bl, m_lst, m_ref, m_dct, m_dref, b_add, b_sub, b_mul, b_div, b_mod, b_cat, c_eqI, c_neI, c_ltI, c_leI, c_gtI, c_geI, c_eqS, c_neS, f_int, f_lenL, f_lenT, f_lenS, f_lenC, f_tupL, PV.tup.injEq, PV.lst.injEq, decide_eq_true_eq, decide_eq_false_iff_not, Bool.and_eq_true, Bool.not_eq_true', Bool.not_true, Bool.not_false, true_and, and_true]
      obtain ⟨b, eb⟩ := in_ints (S := S') (G := D.G) (c := callN D.G 8) (j : Int) some_
      rw [eb]
      simp only [x_cons, x_nil, x_asg, x_asgT, x_asgS, x_asgA, x_aug, x_ex, x_ret, x_retN, x_if, x_for, x_pass, x_brk, x_cnt, x_try, w_var, w_cst, w_glb, w_tup, w_lst, w_dct0, w_neg, w_bin, w_cmp, w_chain, w_and_, w_or_, w_and1_, w_and2_, w_or1_, w_or2_, w_not, w_ife, w_sub, w_sl1, w_sl2, w_sl3, w_attr, w_call, w_callK, w_new, w_meth, w_cmeth, w_bf, w_bm, w_isi, w_fstr, w_comp, w_dcomp, w_nil, w_cons, w_ie, w_rng, w_enum, w_zip, w_tnil, w_tcons, Fl.go_next, Fl.go_ret, Fl.go_brk, Fl.go_cnt, List.map_cons, List.map_nil, List.cons_append, List.nil_append, List.replicate, List.length_cons, List.length_nil, Nat.sub_self, Nat.reduceSub, Nat.reduceAdd, List.getElem?_cons_zero, List.getElem?_cons_succ, List.set_cons_zero, List.set_cons_succ, setAll, wipeP, Option.some.injEq, exists_eq_left', exists_eq_left, Res.sat_ok, Res.sat_guard, finF_ret, finF_next, finT_ret, finT_next, cTest_nil, cTest_nm, cElt_nm, fBody_nm, t_bl, m_lst, m_ref, m_dct, m_dref, b_add, b_sub, b_mul, b_div, b_mod, b_cat, c_eqI, c_neI, c_ltI, c_leI, c_gtI, c_geI, c_eqS, c_neS, f_int, f_lenL, f_lenT, f_lenS, f_lenC, f_tupL, PV.tup.injEq, PV.lst.injEq, decide_eq_true_eq, decide_eq_false_iff_not, Bool.and_eq_true, Bool.not_eq_true', Bool.not_true, Bool.not_false, true_and, and_true]
      refine ⟨fun _ => ?_, fun _ => ?_⟩
      · rw [counts0 (by decide) g hR hx (by omega)]
        simp only [x_cons, x_nil, x_asg, x_asgT, x_asgS, x_asgA, x_aug, x_ex, x_ret, x_retN, x_if, x_for, x_pass, x_brk, x_cnt, x_try, w_var, w_cst, w_glb, w_tup, w_lst, w_dct0, w_neg, w_bin, w_cmp, w_chain, w_and_, w_or_, w_and1_, w_and2_, w_or1_, w_or2_, w_not, w_ife, w_sub, w_sl1, w_sl2, w_sl3, w_attr, w_call, w_callK, w_new, w_meth, w_cmeth, w_bf, w_bm, w_isi, w_fstr, w_comp, w_dcomp, w_nil, w_cons, w_ie, w_rng, w_enum, w_zip, w_tnil, w_tcons, Fl.go_next, Fl.go_ret, Fl.go_brk, Fl.go_cnt, List.map_cons, List.map_nil, List.cons_append, List.nil_append, List.replicate, List.length_cons, List.length_nil, Nat.sub_self, Nat.reduceSub, Nat.reduceAdd, List.getElem?_cons_zero, List.getElem?_cons_succ, List.set_cons_zero, List.set_cons_succ, setAll, wipeP, Option.some.injEq, exists_eq_left', exists_eq_left, Res.sat_ok, Res.sat_guard, finF_ret, finF_next, finT_ret, finT_next, cTest_nil, cTest_nm, cElt_nm, fBody_nm, t_bl, m_lst, m_ref, m_dct, m_dref, b_add, b_sub, b_mul, b_div, b_mod, b_cat, c_eqI, c_neI, c_ltI, c_leI, c_gtI, c_geI, c_eqS, c_neS, f_int, f_lenL, f_lenT, f_lenS, f_lenC, f_tupL, PV.tup.injEq, PV.lst.injEq, decide_eq_true_eq, decide_eq_false_iff_not, Bool.and_eq_true, Bool.not_eq_true', Bool.not_true, Bool.not_false, true_and, and_true]
        rw [f_reprV few (small j (by omega))]
        simp only [x_cons, x_nil, x_asg, x_asgT, x_asgS, x_asgA, x_aug, x_ex, x_ret, x_retN, x_if, x_for, x_pass, x_brk, x_cnt, x_try, w_var, w_cst, w_glb, w_tup, w_lst, w_dct0, w_neg, w_bin, w_cmp, w_chain, w_and_, w_or_, w_and1_, w_and2_, w_or1_, w_or2_, w_not, w_ife, w_sub, w_sl1, w_sl2, w_sl3, w_attr, w_call, w_callK, w_new, w_meth, w_cmeth, w_bf, w_bm, w_isi, w_fstr, w_comp, w_dcomp, w_nil, w_cons, w_ie, w_rng, w_enum, w_zip, w_tnil, w_tcons, Fl.go_next, Fl.go_ret, Fl.go_brk, Fl.go_cnt, List.map_cons, List.map_nil, List.cons_append, List.nil_append, List.replicate, List.length_cons, List.length_nil, Nat.sub_self, Nat.reduceSub, Nat.reduceAdd, List.getElem?_cons_zero, List.getElem?_cons_succ, List.set_cons_zero, List.set_cons_succ, setAll, wipeP, Option.some.injEq, exists_eq_left', exists_eq_left, Res.sat_ok, Res.sat_guard, finF_ret, finF_next, finT_ret, finT_next, cTest_nil, cTest_nm, cElt_nm, fBody_nm, t_bl, m_lst, m_ref, m_dct, m_dref, b_add, b_sub, b_mul, b_div, b_mod, b_cat, c_eqI, c_neI, c_ltI, c_leI, c_gtI, c_geI, c_eqS, c_neS, f_int, f_lenL, f_lenT, f_lenS, f_lenC, f_tupL, PV.tup.injEq, PV.lst.injEq, decide_eq_true_eq, decide_eq_false_iff_not, Bool.and_eq_true, Bool.not_eq_true', Bool.not_true, Bool.not_false, true_and, and_true]
        rw [f_reprV few (small j (by omega))]
        simp only [x_cons, x_nil, x_asg, x_asgT, x_asgS, x_asgA, x_aug, x_ex, x_ret, x_retN, x_if, x_for, x_pass, x_brk, x_cnt, x_try, w_var, w_cst, w_glb, w_tup, w_lst, w_dct0, w_neg, w_bin, w_cmp, w_chain, w_and_, w_or_, w_and1_, w_and2_, w_or1_, w_or2_, w_not, w_ife, w_sub, w_sl1, w_sl2, w_sl3, w_attr, w_call, w_callK, w_new, w_meth, w_cmeth, w_bf, w_bm, w_isi, w_fstr, w_comp, w_dcomp, w_nil, w_cons, w_ie, w_rng, w_enum, w_zip, w_tnil, w_tcons, Fl.go_next, Fl.go_ret, Fl.go_brk, Fl.go_cnt, List.map_cons, List.map_nil, List.cons_append, List.nil_append, List.replicate, List.length_cons, List.length_nil, Nat.sub_self, Nat.reduceSub, Nat.reduceAdd, List.getElem?_cons_zero, List.getElem?_cons_succ, List.set_cons_zero, List.set_cons_succ, setAll, wipeP, Option.some.injEq, exists_eq_left', exists_eq_left, Res.sat_ok, Res.sat_guard, finF_ret, finF_next, finT_ret, finT_next, cTest_nil, cTest_nm, cElt_nm, fBody_nm, t_bl, m_lst, m_ref, m_dct, m_dref, b_add, b_sub, b_mul, b_div, b_mod, b_cat, c_eqI, c_neI, c_ltI, c_leI, c_gtI, c_geI, c_eqS, c_neS, f_int, f_lenL, f_lenT, f_lenS, f_lenC, f_tupL, PV.tup.injEq, PV.lst.injEq, decide_eq_true_eq, decide_eq_false_iff_not, Bool.and_eq_true, Bool.not_eq_true', Bool.not_true, Bool.not_false, true_and, and_true]
        refine ⟨(fun h => absurd trivial h), fun _ => ⟨_, rfl, ?_⟩⟩
        show ((compLoop (stay []) _ _ (zipL (L.map Srt.v) (L.map fun s => PV.int (cnt R j s0.nm s.nm))) _ _).sat _)
        rw [zip_srt (fun s => PV.int (cnt R j s0.nm s.nm))]
        refine comp_map (fun v => match v with
          | .tup [.tup (_ :: .int w :: _), .int m] => .int (w * m)
          | _ => .non) (stay_nil _) (by rw [List.length_map, sizeLine_eq]; omega) (fun y hy => ?_) (fun y hy => ?_) ?_
        · obtain ⟨s, hs, rfl⟩ := List.mem_map.mp hy
          rw [cTest_tp _ _ _ _ rfl]
          simp only [x_cons, x_nil, x_asg, x_asgT, x_asgS, x_asgA, x_aug, x_ex, x_ret, x_retN, x_if, x_for, x_pass, x_brk, x_cnt, x_try, w_var, w_cst, w_glb, w_tup, w_lst, w_dct0, w_neg, w_bin, w_cmp, w_chain, w_and_, w_or_, w_and1_, w_and2_, w_or1_, w_or2_, w_not, w_ife, w_sub, w_sl1, w_sl2, w_sl3, w_attr, w_call, w_callK, w_new, w_meth, w_cmeth, w_bf, w_bm, w_isi, w_fstr, w_comp, w_dcomp, w_nil, w_cons, w_ie, w_rng, w_enum, w_zip, w_tnil, w_tcons, Fl.go_next, Fl.go_ret, Fl.go_brk, Fl.go_cnt, List.map_cons, List.map_nil, List.cons_append, List.nil_append, List.replicate, List.length_cons, List.length_nil, Nat.sub_self, Nat.reduceSub, Nat.reduceAdd, List.getElem?_cons_zero, List.getElem?_cons_succ, List.set_cons_zero, List.set_cons_succ, setAll, wipeP, Option.some.injEq, exists_eq_left', exists_eq_left, Res.sat_ok, Res.sat_guard, finF_ret, finF_next, finT_ret, finT_next, cTest_nil, cTest_nm, cElt_nm, fBody_nm, t_bl, m_lst, m_ref, m_dct, m_dref, b_add, b_sub, b_mul, b_div, b_mod, b_cat, c_eqI, c_neI, c_ltI, c_leI, c_gtI, c_geI, c_eqS, c_neS, f_int, f_lenL, f_lenT, f_lenS, f_lenC, f_tupL, PV.tup.injEq, PV.lst.injEq, decide_eq_true_eq, decide_eq_false_iff_not, Bool.and_eq_true, Bool.not_eq_true', Bool.not_true, Bool.not_false, true_and, and_true]
        · obtain ⟨s, hs, rfl⟩ := List.mem_map.mp hy
          have hw := g.w s hs
          rw [cElt_tp _ _ _ _ rfl]
          simp only [x_cons, x_nil, x_asg, x_asgT, x_asgS, x_asgA, x_aug, x_ex, x_ret, x_retN, x_if, x_for, x_pass, x_brk, x_cnt, x_try, w_var, w_cst, w_glb, w_tup, w_lst, w_dct0, w_neg, w_bin, w_cmp, w_chain, w_and_, w_or_, w_and1_, w_and2_, w_or1_, w_or2_, w_not, w_ife, w_sub, w_sl1, w_sl2, w_sl3, w_attr, w_call, w_callK, w_new, w_meth, w_cmeth, w_bf, w_bm, w_isi, w_fstr, w_comp, w_dcomp, w_nil, w_cons, w_ie, w_rng, w_enum, w_zip, w_tnil, w_tcons, Fl.go_next, Fl.go_ret, Fl.go_brk, Fl.go_cnt, List.map_cons, List.map_nil, List.cons_append, List.nil_append, List.replicate, List.length_cons, List.length_nil, Nat.sub_self, Nat.reduceSub, Nat.reduceAdd, List.getElem?_cons_zero, List.getElem?_cons_succ, List.set_cons_zero, List.set_cons_succ, setAll, wipeP, Option.some.injEq, exists_eq_left', exists_eq_left, Res.sat_ok, Res.sat_guard, finF_ret, finF_next, finT_ret, finT_next, cTest_nil, cTest_nm, cElt_nm, fBody_nm, t_bl, m_lst, m_ref, m_dct, m_dref, b_add, b_sub, b_mul, b_div, b_mod, b_cat, c_eqI, c_neI, c_ltI, c_leI, c_gtI, c_geI, c_eqS, c_neS, f_int, f_lenL, f_lenT, f_lenS, f_lenC, f_tupL, PV.tup.injEq, PV.lst.injEq, decide_eq_true_eq, decide_eq_false_iff_not, Bool.and_eq_true, Bool.not_eq_true', Bool.not_true, Bool.not_false, true_and, and_true]
          refine ⟨.int s.w, by unfold Srt.v; rw [g_tup]; exact at1, ?_⟩
          simp only [x_cons, x_nil, x_asg, x_asgT, x_asgS, x_asgA, x_aug, x_ex, x_ret, x_retN, x_if, x_for, x_pass, x_brk, x_cnt, x_try, w_var, w_cst, w_glb, w_tup, w_lst, w_dct0, w_neg, w_bin, w_cmp, w_chain, w_and_, w_or_, w_and1_, w_and2_, w_or1_, w_or2_, w_not, w_ife, w_sub, w_sl1, w_sl2, w_sl3, w_attr, w_call, w_callK, w_new, w_meth, w_cmeth, w_bf, w_bm, w_isi, w_fstr, w_comp, w_dcomp, w_nil, w_cons, w_ie, w_rng, w_enum, w_zip, w_tnil, w_tcons, Fl.go_next, Fl.go_ret, Fl.go_brk, Fl.go_cnt, List.map_cons, List.map_nil, List.cons_append, List.nil_append, List.replicate, List.length_cons, List.length_nil, Nat.sub_self, Nat.reduceSub, Nat.reduceAdd, List.getElem?_cons_zero, List.getElem?_cons_succ, List.set_cons_zero, List.set_cons_succ, setAll, wipeP, Option.some.injEq, exists_eq_left', exists_eq_left, Res.sat_ok, Res.sat_guard, finF_ret, finF_next, finT_ret, finT_next, cTest_nil, cTest_nm, cElt_nm, fBody_nm, t_bl, m_lst, m_ref, m_dct, m_dref, b_add, b_sub, b_mul, b_div, b_mod, b_cat, c_eqI, c_neI, c_ltI, c_leI, c_gtI, c_geI, c_eqS, c_neS, f_int, f_lenL, f_lenT, f_lenS, f_lenC, f_tupL, PV.tup.injEq, PV.lst.injEq, decide_eq_true_eq, decide_eq_false_iff_not, Bool.and_eq_true, Bool.not_eq_true', Bool.not_true, Bool.not_false, true_and, and_true]
          exact ⟨mulOk_l (by omega), rfl⟩
        · rw [List.map_map]
          rw [show L.map ((fun v : PV => match v with
            | .tup [.tup (_ :: .int w :: _), .int m] => .int (w * m)
            | _ => .non) ∘ fun s => PV.tup [s.v, .int (cnt R j s0.nm s.nm)]) = (L.map fun s => s.w * cnt R j s0.nm s.nm).map PV.int by rw [List.map_map]; rfl, f_sumL]
          simp only [x_cons, x_nil, x_asg, x_asgT, x_asgS, x_asgA, x_aug, x_ex, x_ret, x_retN, x_if, x_for, x_pass, x_brk, x_cnt, x_try, w_var, w_cst, w_glb, w_tup, w_lst, w_dct0, w_neg, w_bin, w_cmp, w_chain, w_and_, w_or_, w_and1_, w_and2_, w_or1_, w_or2_, w_not, w_ife, w_sub, w_sl1, w_sl2, w_sl3, w_attr, w_call, w_callK, w_new, w_meth, w_cmeth, w_bf, w_bm, w_isi, w_fstr, w_comp, w_dcomp, w_nil, w_cons, w_ie, w_rng, w_enum, w_zip, w_tnil, w_tcons, Fl.go_next, Fl.go_ret, Fl.go_brk, Fl.go_cnt, List.map_cons, List.map_nil, List.cons_append, List.nil_append, List.replicate, List.length_cons, List.length_nil, Nat.sub_self, Nat.reduceSub, Nat.reduceAdd, List.getElem?_cons_zero, List.getElem?_cons_succ, List.set_cons_zero, List.set_cons_succ, setAll, wipeP, Option.some.injEq, exists_eq_left', exists_eq_left, Res.sat_ok, Res.sat_guard, finF_ret, finF_next, finT_ret, finT_next, cTest_nil, cTest_nm, cElt_nm, fBody_nm, t_bl, m_lst, m_ref, m_dct, m_dref, b_add, b_sub, b_mul, b_div, b_mod, b_cat, c_eqI, c_neI, c_ltI, c_leI, c_gtI, c_geI, c_eqS, c_neS, f_int, f_lenL, f_lenT, f_lenS, f_lenC, f_tupL, PV.tup.injEq, PV.lst.injEq, decide_eq_true_eq, decide_eq_false_iff_not, Bool.and_eq_true, Bool.not_eq_true', Bool.not_true, Bool.not_false, true_and, and_true]
          rw [len_eq lenT (by decide) g hx (by omega), width_cnt g hR j hx]
          simp only [x_cons, x_nil, x_asg, x_asgT, x_asgS, x_asgA, x_aug, x_ex, x_ret, x_retN, x_if, x_for, x_pass, x_brk, x_cnt, x_try, w_var, w_cst, w_glb, w_tup, w_lst, w_dct0, w_neg, w_bin, w_cmp, w_chain, w_and_, w_or_, w_and1_, w_and2_, w_or1_, w_or2_, w_not, w_ife, w_sub, w_sl1, w_sl2, w_sl3, w_attr, w_call, w_callK, w_new, w_meth, w_cmeth, w_bf, w_bm, w_isi, w_fstr, w_comp, w_dcomp, w_nil, w_cons, w_ie, w_rng, w_enum, w_zip, w_tnil, w_tcons, Fl.go_next, Fl.go_ret, Fl.go_brk, Fl.go_cnt, List.map_cons, List.map_nil, List.cons_append, List.nil_append, List.replicate, List.length_cons, List.length_nil, Nat.sub_self, Nat.reduceSub, Nat.reduceAdd, List.getElem?_cons_zero, List.getElem?_cons_succ, List.set_cons_zero, List.set_cons_succ, setAll, wipeP, Option.some.injEq, exists_eq_left', exists_eq_left, Res.sat_ok, Res.sat_guard, finF_ret, finF_next, finT_ret, finT_next, cTest_nil, cTest_nm, cElt_nm, fBody_nm, t_bl, m_lst, m_ref, m_dct, m_dref, b_add, b_sub, b_mul, b_div, b_mod, b_cat, c_eqI, c_neI, c_ltI, c_leI, c_gtI, c_geI, c_eqS, c_neS, f_int, f_lenL, f_lenT, f_lenS, f_lenC, f_tupL, PV.tup.injEq, PV.lst.injEq, decide_eq_true_eq, decide_eq_false_iff_not, Bool.and_eq_true, Bool.not_eq_true', Bool.not_true, Bool.not_false, true_and, and_true]
          refine ⟨(fun h => absurd trivial h), fun _ => ?_⟩
          rw [nxt]
          simp only [x_cons, x_nil, x_asg, x_asgT, x_asgS, x_asgA, x_aug, x_ex, x_ret, x_retN, x_if, x_for, x_pass, x_brk, x_cnt, x_try, w_var, w_cst, w_glb, w_tup, w_lst, w_dct0, w_neg, w_bin, w_cmp, w_chain, w_and_, w_or_, w_and1_, w_and2_, w_or1_, w_or2_, w_not, w_ife, w_sub, w_sl1, w_sl2, w_sl3, w_attr, w_call, w_callK, w_new, w_meth, w_cmeth, w_bf, w_bm, w_isi, w_fstr, w_comp, w_dcomp, w_nil, w_cons, w_ie, w_rng, w_enum, w_zip, w_tnil, w_tcons, Fl.go_next, Fl.go_ret, Fl.go_brk, Fl.go_cnt, List.map_cons, List.map_nil, List.cons_append, List.nil_append, List.replicate, List.length_cons, List.length_nil, Nat.sub_self, Nat.reduceSub, Nat.reduceAdd, List.getElem?_cons_zero, List.getElem?_cons_succ, List.set_cons_zero, List.set_cons_succ, setAll, wipeP, Option.some.injEq, exists_eq_left', exists_eq_left, Res.sat_ok, Res.sat_guard, finF_ret, finF_next, finT_ret, finT_next, cTest_nil, cTest_nm, cElt_nm, fBody_nm, t_bl, m_lst, m_ref, m_dct, m_dref, b_add, b_sub, b_mul, b_div, b_mod, b_cat, c_eqI, c_neI, c_ltI, c_leI, c_gtI, c_geI, c_eqS, c_neS, f_int, f_lenL, f_lenT, f_lenS, f_lenC, f_tupL, PV.tup.injEq, PV.lst.injEq, decide_eq_true_eq, decide_eq_false_iff_not, Bool.and_eq_true, Bool.not_eq_true', Bool.not_true, Bool.not_false, true_and, and_true]
          exact ⟨_, _, _, _, _, rfl⟩
      · rw [nxt]
        simp only [x_cons, x_nil, x_asg, x_asgT, x_asgS, x_asgA, x_aug, x_ex, x_ret, x_retN, x_if, x_for, x_pass, x_brk, x_cnt, x_try, w_var, w_cst, w_glb, w_tup, w_lst, w_dct0, w_neg, w_bin, w_cmp, w_chain, w_and_, w_or_, w_and1_, w_and2_, w_or1_, w_or2_, w_not, w_ife, w_sub, w_sl1, w_sl2, w_sl3, w_attr, w_call, w_callK, w_new, w_meth, w_cmeth, w_bf, w_bm, w_isi, w_fstr, w_comp, w_dcomp, w_nil, w_cons, w_ie, w_rng, w_enum, w_zip, w_tnil, w_tcons, Fl.go_next, Fl.go_ret, Fl.go_brk, Fl.go_cnt, List.map_cons, List.map_nil, List.cons_append, List.nil_append, List.replicate, List.length_cons, List.length_nil, Nat.sub_self, Nat.reduceSub, Nat.reduceAdd, List.getElem?_cons_zero, List.getElem?_cons_succ, List.set_cons_zero, List.set_cons_succ, setAll, wipeP, Option.some.injEq, exists_eq_left', exists_eq_left, Res.sat_ok, Res.sat_guard, finF_ret, finF_next, finT_ret, finT_next, cTest_nil, cTest_nm, cElt_nm, fBody_nm, t_bl, m_lst, m_ref, m_dct, m_dref, b_add, b_sub, b_mul, b_div, b_mod, b_cat, c_eqI, c_neI, c_ltI, c_leI, c_gtI, c_geI, c_eqS, c_neS, f_int, f_lenL, f_lenT, f_lenS, f_lenC, f_tupL, PV.tup.injEq, PV.lst.injEq, decide_eq_true_eq, decide_eq_false_iff_not, Bool.and_eq_true, Bool.not_eq_true', Bool.not_true, Bool.not_false, true_and, and_true]
        exact ⟨_, _, _, _, _, rfl⟩
    · obtain ⟨rfl, v7, v9, v10, v11, v12, rfl⟩ := h
      simp only [x_cons, x_nil, x_asg, x_asgT, x_asgS, x_asgA, x_aug, x_ex, x_ret, x_retN, x_if, x_for, x_pass, x_brk, x_cnt, x_try, w_var, w_cst, w_glb, w_tup, w_lst, w_dct0, w_neg, w_bin, w_cmp, w_chain, w_and_, w_or_, w_and1_, w_and2_, w_or1_, w_or2_, w_not, w_ife, w_sub, w_sl1, w_sl2, w_sl3, w_attr, w_call, w_callK, w_new, w_meth, w_cmeth, w_bf, w_bm, w_isi, w_fstr, w_comp, w_dcomp, w_nil, w_cons, w_ie, w_rng, w_enum, w_zip, w_tnil, w_tcons, Fl.go_next, Fl.go_ret, Fl.go_brk, Fl.go_cnt, List.map_cons, List.map_nil, List.cons_append, List.nil_append, List.replicate, List.length_cons, List.length_nil, Nat.sub_self, Nat.reduceSub, Nat.reduceAdd, List.getElem?_cons_zero, List.getElem?_cons_succ, List.set_cons_zero, List.set_cons_succ, setAll, wipeP, Option.some.injEq, exists_eq_left', exists_eq_left, Res.sat_ok, Res.sat_guard, finF_ret, finF_next, finT_ret, finT_next, cTest_nil, cTest_nm, cElt_nm, fBody_nm, t_bl, m_lst, m_ref, m_dct, m_dref, b_add, b_sub, b_mul, b_div, b_mod, b_cat, c_eqI, c_neI, c_ltI, c_leI, c_gtI, c_geI, c_eqS, c_neS, f_int, f_lenL, f_lenT, f_lenS, f_lenC, f_tupL, PV.tup.injEq, PV.lst.injEq, decide_eq_true_eq, decide_eq_false_iff_not, Bool.and_eq_true, Bool.not_eq_true', Bool.not_true, Bool.not_false, true_and, and_true]
      refine ⟨⟨rfl, rfl⟩, ?_⟩
      refine (show ((callN D.G 8 23 S'.length [rulerV 0 2 1 0 q L, nmV s0.nm, .int ((0 : Nat) : Int)] S').sat _) from ?_)
      rw [counts0 (by decide) g hR hx (by omega)]
      simp only [x_cons, x_nil, x_asg, x_asgT, x_asgS, x_asgA, x_aug, x_ex, x_ret, x_retN, x_if, x_for, x_pass, x_brk, x_cnt, x_try, w_var, w_cst, w_glb, w_tup, w_lst, w_dct0, w_neg, w_bin, w_cmp, w_chain, w_and_, w_or_, w_and1_, w_and2_, w_or1_, w_or2_, w_not, w_ife, w_sub, w_sl1, w_sl2, w_sl3, w_attr, w_call, w_callK, w_new, w_meth, w_cmeth, w_bf, w_bm, w_isi, w_fstr, w_comp, w_dcomp, w_nil, w_cons, w_ie, w_rng, w_enum, w_zip, w_tnil, w_tcons, Fl.go_next, Fl.go_ret, Fl.go_brk, Fl.go_cnt, List.map_cons, List.map_nil, List.cons_append, List.nil_append, List.replicate, List.length_cons, List.length_nil, Nat.sub_self, Nat.reduceSub, Nat.reduceAdd, List.getElem?_cons_zero, List.getElem?_cons_succ, List.set_cons_zero, List.set_cons_succ, setAll, wipeP, Option.some.injEq, exists_eq_left', exists_eq_left, Res.sat_ok, Res.sat_guard, finF_ret, finF_next, finT_ret, finT_next, cTest_nil, cTest_nm, cElt_nm, fBody_nm, t_bl, m_lst, m_ref, m_dct, m_dref, b_add, b_sub, b_mul, b_div, b_mod, b_cat, c_eqI, c_neI, c_ltI, c_leI, c_gtI, c_geI, c_eqS, c_neS, f_int, f_lenL, f_lenT, f_lenS, f_lenC, f_tupL, PV.tup.injEq, PV.lst.injEq, decide_eq_true_eq, decide_eq_false_iff_not, Bool.and_eq_true, Bool.not_eq_true', Bool.not_true, Bool.not_false, true_and, and_true]
      rw [f_reprV few (small 0 (by omega))]
      simp only [x_cons, x_nil, x_asg, x_asgT, x_asgS, x_asgA, x_aug, x_ex, x_ret, x_retN, x_if, x_for, x_pass, x_brk, x_cnt, x_try, w_var, w_cst, w_glb, w_tup, w_lst, w_dct0, w_neg, w_bin, w_cmp, w_chain, w_and_, w_or_, w_and1_, w_and2_, w_or1_, w_or2_, w_not, w_ife, w_sub, w_sl1, w_sl2, w_sl3, w_attr, w_call, w_callK, w_new, w_meth, w_cmeth, w_bf, w_bm, w_isi, w_fstr, w_comp, w_dcomp, w_nil, w_cons, w_ie, w_rng, w_enum, w_zip, w_tnil, w_tcons, Fl.go_next, Fl.go_ret, Fl.go_brk, Fl.go_cnt, List.map_cons, List.map_nil, List.cons_append, List.nil_append, List.replicate, List.length_cons, List.length_nil, Nat.sub_self, Nat.reduceSub, Nat.reduceAdd, List.getElem?_cons_zero, List.getElem?_cons_succ, List.set_cons_zero, List.set_cons_succ, setAll, wipeP, Option.some.injEq, exists_eq_left', exists_eq_left, Res.sat_ok, Res.sat_guard, finF_ret, finF_next, finT_ret, finT_next, cTest_nil, cTest_nm, cElt_nm, fBody_nm, t_bl, m_lst, m_ref, m_dct, m_dref, b_add, b_sub, b_mul, b_div, b_mod, b_cat, c_eqI, c_neI, c_ltI, c_leI, c_gtI, c_geI, c_eqS, c_neS, f_int, f_lenL, f_lenT, f_lenS, f_lenC, f_tupL, PV.tup.injEq, PV.lst.injEq, decide_eq_true_eq, decide_eq_false_iff_not, Bool.and_eq_true, Bool.not_eq_true', Bool.not_true, Bool.not_false, true_and, and_true]
      refine ⟨_, rfl, ?_⟩
      refine ind_ok (R := R) (x := s0.nm) (own := []) g (fun _ => rfl) (fun _ => rfl) ?_
      refine (show ((bfunR D.G (callN D.G 8) .repr true [vecV L (cnt R 0 s0.nm)] S').sat _) from ?_)
      rw [f_reprV few (small 0 (by omega))]
      simp only [x_cons, x_nil, x_asg, x_asgT, x_asgS, x_asgA, x_aug, x_ex, x_ret, x_retN, x_if, x_for, x_pass, x_brk, x_cnt, x_try, w_var, w_cst, w_glb, w_tup, w_lst, w_dct0, w_neg, w_bin, w_cmp, w_chain, w_and_, w_or_, w_and1_, w_and2_, w_or1_, w_or2_, w_not, w_ife, w_sub, w_sl1, w_sl2, w_sl3, w_attr, w_call, w_callK, w_new, w_meth, w_cmeth, w_bf, w_bm, w_isi, w_fstr, w_comp, w_dcomp, w_nil, w_cons, w_ie, w_rng, w_enum, w_zip, w_tnil, w_tcons, Fl.go_next, Fl.go_ret, Fl.go_brk, Fl.go_cnt, List.map_cons, List.map_nil, List.cons_append, List.nil_append, List.replicate, List.length_cons, List.length_nil, Nat.sub_self, Nat.reduceSub, Nat.reduceAdd, List.getElem?_cons_zero, List.getElem?_cons_succ, List.set_cons_zero, List.set_cons_succ, setAll, wipeP, Option.some.injEq, exists_eq_left', exists_eq_left, Res.sat_ok, Res.sat_guard, finF_ret, finF_next, finT_ret, finT_next, cTest_nil, cTest_nm, cElt_nm, fBody_nm, t_bl, m_lst, m_ref, m_dct, m_dref, b_add, b_sub, b_mul, b_div, b_mod, b_cat, c_eqI, c_neI, c_ltI, c_leI, c_gtI, c_geI, c_eqS, c_neS, f_int, f_lenL, f_lenT, f_lenS, f_lenC, f_tupL, PV.tup.injEq, PV.lst.injEq, decide_eq_true_eq, decide_eq_false_iff_not, Bool.and_eq_true, Bool.not_eq_true', Bool.not_true, Bool.not_false, true_and, and_true]
      refine ⟨_, fz_rf rfl, ?_⟩
      simp only [decide_true]
      refine hP _ ?_
      rw [List.length_take, l3]; omega
  -- the factor, the kinds
  cases big with
  | true =>
    simp only [x_cons, x_nil, x_asg, x_asgT, x_asgS, x_asgA, x_aug, x_ex, x_ret, x_retN, x_if, x_for, x_pass, x_brk, x_cnt, x_try, w_var, w_cst, w_glb, w_tup, w_lst, w_dct0, w_neg, w_bin, w_cmp, w_chain, w_and_, w_or_, w_and1_, w_and2_, w_or1_, w_or2_, w_not, w_ife, w_sub, w_sl1, w_sl2, w_sl3, w_attr, w_call, w_callK, w_new, w_meth, w_cmeth, w_bf, w_bm, w_isi, w_fstr, w_comp, w_dcomp, w_nil, w_cons, w_ie, w_rng, w_enum, w_zip, w_tnil, w_tcons, Fl.go_next, Fl.go_ret, Fl.go_brk, Fl.go_cnt, List.map_cons, List.map_nil, List.cons_append, List.nil_append, List.replicate, List.length_cons, List.length_nil, Nat.sub_self, Nat.reduceSub, Nat.reduceAdd, List.getElem?_cons_zero, List.getElem?_cons_succ, List.set_cons_zero, List.set_cons_succ, setAll, wipeP, Option.some.injEq, exists_eq_left', exists_eq_left, Res.sat_ok, Res.sat_guard, finF_ret, finF_next, finT_ret, finT_next, cTest_nil, cTest_nm, cElt_nm, fBody_nm, t_bl, m_lst, m_ref, m_dct, m_dref, b_add, b_sub, b_mul, b_div, b_mod, b_cat, c_eqI, c_neI, c_ltI, c_leI, c_gtI, c_geI, c_eqS, c_neS, f_int, f_lenL, f_lenT, f_lenS, f_lenC, f_tupL, PV.tup.injEq, PV.lst.injEq, decide_eq_true_eq, decide_eq_false_iff_not, Bool.and_eq_true, Bool.not_eq_true', Bool.not_true, Bool.not_false, true_and, and_true]
    refine ⟨(fun _ => ?_), (fun h => by cases h)⟩
    refine factor_ok (fd := 0) (by rfl) (by rfl) (by decide) l1 fun q S2 p2 q2 q9 => ⟨(fun _ => ?_), (fun h => by cases h)⟩
    refine sorts_ok (fd := 0) (ff := 3) (fl := 2) (fn := 4) (by rfl) (by rfl) (by rfl) (by rfl) (by rfl) (by decide) ⟨q2, q9⟩ ⟨by decide, by decide⟩ ⟨by decide, by decide⟩ (p2.has l1) fun W L S3 p3 g => ?_
    have z := mid q W L S3 (by rw [p3.len, p2.len, p1.len]) (p3.has (p2.has l1)) g
    simp only [x_cons, x_nil, x_asg, x_asgT, x_asgS, x_asgA, x_aug, x_ex, x_ret, x_retN, x_if, x_for, x_pass, x_brk, x_cnt, x_try, w_var, w_cst, w_glb, w_tup, w_lst, w_dct0, w_neg, w_bin, w_cmp, w_chain, w_and_, w_or_, w_and1_, w_and2_, w_or1_, w_or2_, w_not, w_ife, w_sub, w_sl1, w_sl2, w_sl3, w_attr, w_call, w_callK, w_new, w_meth, w_cmeth, w_bf, w_bm, w_isi, w_fstr, w_comp, w_dcomp, w_nil, w_cons, w_ie, w_rng, w_enum, w_zip, w_tnil, w_tcons, Fl.go_next, Fl.go_ret, Fl.go_brk, Fl.go_cnt, List.map_cons, List.map_nil, List.cons_append, List.nil_append, List.replicate, List.length_cons, List.length_nil, Nat.sub_self, Nat.reduceSub, Nat.reduceAdd, List.getElem?_cons_zero, List.getElem?_cons_succ, List.set_cons_zero, List.set_cons_succ, setAll, wipeP, Option.some.injEq, exists_eq_left', exists_eq_left, Res.sat_ok, Res.sat_guard, finF_ret, finF_next, finT_ret, finT_next, cTest_nil, cTest_nm, cElt_nm, fBody_nm, t_bl, m_lst, m_ref, m_dct, m_dref, b_add, b_sub, b_mul, b_div, b_mod, b_cat, c_eqI, c_neI, c_ltI, c_leI, c_gtI, c_geI, c_eqS, c_neS, f_int, f_lenL, f_lenT, f_lenS, f_lenC, f_tupL, PV.tup.injEq, PV.lst.injEq, decide_eq_true_eq, decide_eq_false_iff_not, Bool.and_eq_true, Bool.not_eq_true', Bool.not_true, Bool.not_false, true_and, and_true] at z ⊢
    exact z
  | false =>
    simp only [x_cons, x_nil, x_asg, x_asgT, x_asgS, x_asgA, x_aug, x_ex, x_ret, x_retN, x_if, x_for, x_pass, x_brk, x_cnt, x_try, w_var, w_cst, w_glb, w_tup, w_lst, w_dct0, w_neg, w_bin, w_cmp, w_chain, w_and_, w_or_, w_and1_, w_and2_, w_or1_, w_or2_, w_not, w_ife, w_sub, w_sl1, w_sl2, w_sl3, w_attr, w_call, w_callK, w_new, w_meth, w_cmeth, w_bf, w_bm, w_isi, w_fstr, w_comp, w_dcomp, w_nil, w_cons, w_ie, w_rng, w_enum, w_zip, w_tnil, w_tcons, Fl.go_next, Fl.go_ret, Fl.go_brk, Fl.go_cnt, List.map_cons, List.map_nil, List.cons_append, List.nil_append, List.replicate, List.length_cons, List.length_nil, Nat.sub_self, Nat.reduceSub, Nat.reduceAdd, List.getElem?_cons_zero, List.getElem?_cons_succ, List.set_cons_zero, List.set_cons_succ, setAll, wipeP, Option.some.injEq, exists_eq_left', exists_eq_left, Res.sat_ok, Res.sat_guard, finF_ret, finF_next, finT_ret, finT_next, cTest_nil, cTest_nm, cElt_nm, fBody_nm, t_bl, m_lst, m_ref, m_dct, m_dref, b_add, b_sub, b_mul, b_div, b_mod, b_cat, c_eqI, c_neI, c_ltI, c_leI, c_gtI, c_geI, c_eqS, c_neS, f_int, f_lenL, f_lenT, f_lenS, f_lenC, f_tupL, PV.tup.injEq, PV.lst.injEq, decide_eq_true_eq, decide_eq_false_iff_not, Bool.and_eq_true, Bool.not_eq_true', Bool.not_true, Bool.not_false, true_and, and_true]
    refine ⟨(fun h => by cases h), (fun _ => ?_)⟩
    refine draw (by rfl) (by decide) l1 (by decide) (by decide) fun r S2 p2 r0 r1 => ⟨(fun h => by cases h), (fun _ => ?_)⟩
    refine sorts_ok (fd := 0) (ff := 3) (fl := 2) (fn := 4) (by rfl) (by rfl) (by rfl) (by rfl) (by rfl) (by decide) ⟨by omega, by omega⟩ ⟨by decide, by decide⟩ ⟨by decide, by decide⟩ (p2.has l1) fun W L S3 p3 g => ?_
    have z := mid (2 + r) W L S3 (by rw [p3.len, p2.len, p1.len]) (p3.has (p2.has l1)) g
    simp only [x_cons, x_nil, x_asg, x_asgT, x_asgS, x_asgA, x_aug, x_ex, x_ret, x_retN, x_if, x_for, x_pass, x_brk, x_cnt, x_try, w_var, w_cst, w_glb, w_tup, w_lst, w_dct0, w_neg, w_bin, w_cmp, w_chain, w_and_, w_or_, w_and1_, w_and2_, w_or1_, w_or2_, w_not, w_ife, w_sub, w_sl1, w_sl2, w_sl3, w_attr, w_call, w_callK, w_new, w_meth, w_cmeth, w_bf, w_bm, w_isi, w_fstr, w_comp, w_dcomp, w_nil, w_cons, w_ie, w_rng, w_enum, w_zip, w_tnil, w_tcons, Fl.go_next, Fl.go_ret, Fl.go_brk, Fl.go_cnt, List.map_cons, List.map_nil, List.cons_append, List.nil_append, List.replicate, List.length_cons, List.length_nil, Nat.sub_self, Nat.reduceSub, Nat.reduceAdd, List.getElem?_cons_zero, List.getElem?_cons_succ, List.set_cons_zero, List.set_cons_succ, setAll, wipeP, Option.some.injEq, exists_eq_left', exists_eq_left, Res.sat_ok, Res.sat_guard, finF_ret, finF_next, finT_ret, finT_next, cTest_nil, cTest_nm, cElt_nm, fBody_nm, t_bl, m_lst, m_ref, m_dct, m_dref, b_add, b_sub, b_mul, b_div, b_mod, b_cat, c_eqI, c_neI, c_ltI, c_leI, c_gtI, c_geI, c_eqS, c_neS, f_int, f_lenL, f_lenT, f_lenS, f_lenC, f_tupL, PV.tup.injEq, PV.lst.injEq, decide_eq_true_eq, decide_eq_false_iff_not, Bool.and_eq_true, Bool.not_eq_true', Bool.not_true, Bool.not_false, true_and, and_true] at z ⊢
    exact z
end
theorem law_true (ns : List Int) (hn : ns.length ≤ 63) : ∃ S', callN D.G fn33.lv 33 0 [.scr ns] [] = .ok (.bl true) S' := by
  have main : (callN D.G 10 33 ([] : Store).length [.scr ns] []).sat fun v _ => v = .bl true := by
    refine callF (np := 1) (nl := 2) (lv := 10) (body := Lib.law_v1 32 31 30) rfl (by decide) (by decide) rfl (by decide) ?_
    unfold Lib.law_v1
    simp only [x_cons, x_nil, x_asg, x_asgT, x_asgS, x_asgA, x_aug, x_ex, x_ret, x_retN, x_if, x_for, x_pass, x_brk, x_cnt, x_try, w_var, w_cst, w_glb, w_tup, w_lst, w_dct0, w_neg, w_bin, w_cmp, w_chain, w_and_, w_or_, w_and1_, w_and2_, w_or1_, w_or2_, w_not, w_ife, w_sub, w_sl1, w_sl2, w_sl3, w_attr, w_call, w_callK, w_new, w_meth, w_cmeth, w_bf, w_bm, w_isi, w_fstr, w_comp, w_dcomp, w_nil, w_cons, w_ie, w_rng, w_enum, w_zip, w_tnil, w_tcons, Fl.go_next, Fl.go_ret, Fl.go_brk, Fl.go_cnt, List.map_cons, List.map_nil, List.cons_append, List.nil_append, List.replicate, List.length_cons, List.length_nil, Nat.sub_self, Nat.reduceSub, Nat.reduceAdd, List.getElem?_cons_zero, List.getElem?_cons_succ, List.set_cons_zero, List.set_cons_succ, setAll, wipeP, Option.some.injEq, exists_eq_left', exists_eq_left, Res.sat_ok, Res.sat_guard, finF_ret, finF_next, finT_ret, finT_next, cTest_nil, cTest_nm, cElt_nm, fBody_nm, t_bl, m_lst, m_ref, m_dct, m_dref, b_add, b_sub, b_mul, b_div, b_mod, b_cat, c_eqI, c_neI, c_ltI, c_leI, c_gtI, c_geI, c_eqS, c_neS, f_int, f_lenL, f_lenT, f_lenS, f_lenC, f_tupL, PV.tup.injEq, PV.lst.injEq, decide_eq_true_eq, decide_eq_false_iff_not, Bool.and_eq_true, Bool.not_eq_true', Bool.not_true, Bool.not_false, true_and, and_true, f_max, f_min]
    refine ⟨_, r_rng ?_ ?_, ?_⟩
    · split <;> (try split) <;> omega
    · split <;> (try split) <;> omega
    obtain ⟨m, hm, hm6⟩ : ∃ m : Nat, (if (if (4 : Int) < (ns.length : Int) then 4 else (ns.length : Int)) > 2 then (if (4 : Int) < (ns.length : Int) then 4 else (ns.length : Int)) else 2) = (m : Int) ∧ m ≤ 4 := by
      by_cases h : (4 : Int) < (ns.length : Int)
      · exact ⟨4, by simp [h], by decide⟩
      · rw [if_neg h]
        by_cases h2 : (ns.length : Int) > 2
        · exact ⟨ns.length, by rw [if_pos h2], by omega⟩
        · exact ⟨2, by rw [if_neg h2]; rfl, by decide⟩
    rw [hm]
    refine for_inv (k := 0) (fun j ps S' => ∃ v2 : Option PV, ps = [some (.scr ns), v2]) ⟨_, rfl⟩ (fun _ _ _ _ => stay_nil _) (fun j x ps S' ex h => ?_) fun ps S' h => ?_
    · obtain ⟨v2, rfl⟩ := h
      rw [rangeL_nat, List.getElem?_map, Option.map_eq_some_iff] at ex
      obtain ⟨i, e2, rfl⟩ := ex
      have hi : i < m := by
        have := List.mem_of_getElem? e2
        simpa using this
      simp only [x_cons, x_nil, x_asg, x_asgT, x_asgS, x_asgA, x_aug, x_ex, x_ret, x_retN, x_if, x_for, x_pass, x_brk, x_cnt, x_try, w_var, w_cst, w_glb, w_tup, w_lst, w_dct0, w_neg, w_bin, w_cmp, w_chain, w_and_, w_or_, w_and1_, w_and2_, w_or1_, w_or2_, w_not, w_ife, w_sub, w_sl1, w_sl2, w_sl3, w_attr, w_call, w_callK, w_new, w_meth, w_cmeth, w_bf, w_bm, w_isi, w_fstr, w_comp, w_dcomp, w_nil, w_cons, w_ie, w_rng, w_enum, w_zip, w_tnil, w_tcons, Fl.go_next, Fl.go_ret, Fl.go_brk, Fl.go_cnt, List.map_cons, List.map_nil, List.cons_append, List.nil_append, List.replicate, List.length_cons, List.length_nil, Nat.sub_self, Nat.reduceSub, Nat.reduceAdd, List.getElem?_cons_zero, List.getElem?_cons_succ, List.set_cons_zero, List.set_cons_succ, setAll, wipeP, Option.some.injEq, exists_eq_left', exists_eq_left, Res.sat_ok, Res.sat_guard, finF_ret, finF_next, finT_ret, finT_next, cTest_nil, cTest_nm, cElt_nm, fBody_nm, t_bl, m_lst, m_ref, m_dct, m_dref, b_add, b_sub, b_mul, b_div, b_mod, b_cat, c_eqI, c_neI, c_ltI, c_leI, c_gtI, c_geI, c_eqS, c_neS, f_int, f_lenL, f_lenT, f_lenS, f_lenC, f_tupL, PV.tup.injEq, PV.lst.injEq, decide_eq_true_eq, decide_eq_false_iff_not, Bool.and_eq_true, Bool.not_eq_true', Bool.not_true, Bool.not_false, true_and, and_true]
      refine cell_ok rfl (by decide) (by omega) fun z => ?_
      refine pool_ok rfl (by decide) fun a b c => ?_
      refine right_ok (l := S'.length) (by decide) ⟨a, b, c, by simp⟩ fun S2 _ => ?_
      simp only [x_cons, x_nil, x_asg, x_asgT, x_asgS, x_asgA, x_aug, x_ex, x_ret, x_retN, x_if, x_for, x_pass, x_brk, x_cnt, x_try, w_var, w_cst, w_glb, w_tup, w_lst, w_dct0, w_neg, w_bin, w_cmp, w_chain, w_and_, w_or_, w_and1_, w_and2_, w_or1_, w_or2_, w_not, w_ife, w_sub, w_sl1, w_sl2, w_sl3, w_attr, w_call, w_callK, w_new, w_meth, w_cmeth, w_bf, w_bm, w_isi, w_fstr, w_comp, w_dcomp, w_nil, w_cons, w_ie, w_rng, w_enum, w_zip, w_tnil, w_tcons, Fl.go_next, Fl.go_ret, Fl.go_brk, Fl.go_cnt, List.map_cons, List.map_nil, List.cons_append, List.nil_append, List.replicate, List.length_cons, List.length_nil, Nat.sub_self, Nat.reduceSub, Nat.reduceAdd, List.getElem?_cons_zero, List.getElem?_cons_succ, List.set_cons_zero, List.set_cons_succ, setAll, wipeP, Option.some.injEq, exists_eq_left', exists_eq_left, Res.sat_ok, Res.sat_guard, finF_ret, finF_next, finT_ret, finT_next, cTest_nil, cTest_nm, cElt_nm, fBody_nm, t_bl, m_lst, m_ref, m_dct, m_dref, b_add, b_sub, b_mul, b_div, b_mod, b_cat, c_eqI, c_neI, c_ltI, c_leI, c_gtI, c_geI, c_eqS, c_neS, f_int, f_lenL, f_lenT, f_lenS, f_lenC, f_tupL, PV.tup.injEq, PV.lst.injEq, decide_eq_true_eq, decide_eq_false_iff_not, Bool.and_eq_true, Bool.not_eq_true', Bool.not_true, Bool.not_false, true_and, and_true]
      exact ⟨(fun h => by cases h), fun _ => ⟨_, rfl⟩⟩
    · obtain ⟨v2, rfl⟩ := h
      simp only [x_cons, x_nil, x_asg, x_asgT, x_asgS, x_asgA, x_aug, x_ex, x_ret, x_retN, x_if, x_for, x_pass, x_brk, x_cnt, x_try, w_var, w_cst, w_glb, w_tup, w_lst, w_dct0, w_neg, w_bin, w_cmp, w_chain, w_and_, w_or_, w_and1_, w_and2_, w_or1_, w_or2_, w_not, w_ife, w_sub, w_sl1, w_sl2, w_sl3, w_attr, w_call, w_callK, w_new, w_meth, w_cmeth, w_bf, w_bm, w_isi, w_fstr, w_comp, w_dcomp, w_nil, w_cons, w_ie, w_rng, w_enum, w_zip, w_tnil, w_tcons, Fl.go_next, Fl.go_ret, Fl.go_brk, Fl.go_cnt, List.map_cons, List.map_nil, List.cons_append, List.nil_append, List.replicate, List.length_cons, List.length_nil, Nat.sub_self, Nat.reduceSub, Nat.reduceAdd, List.getElem?_cons_zero, List.getElem?_cons_succ, List.set_cons_zero, List.set_cons_succ, setAll, wipeP, Option.some.injEq, exists_eq_left', exists_eq_left, Res.sat_ok, Res.sat_guard, finF_ret, finF_next, finT_ret, finT_next, cTest_nil, cTest_nm, cElt_nm, fBody_nm, t_bl, m_lst, m_ref, m_dct, m_dref, b_add, b_sub, b_mul, b_div, b_mod, b_cat, c_eqI, c_neI, c_ltI, c_leI, c_gtI, c_geI, c_eqS, c_neS, f_int, f_lenL, f_lenT, f_lenS, f_lenC, f_tupL, PV.tup.injEq, PV.lst.injEq, decide_eq_true_eq, decide_eq_false_iff_not, Bool.and_eq_true, Bool.not_eq_true', Bool.not_true, Bool.not_false, true_and, and_true]
      exact ⟨_, fz_rf rfl, rfl⟩
  obtain ⟨v, S', e, hv⟩ := Res.sat_ex main
  exact ⟨S', by rw [← hv]; exact e⟩
end K14
set_option Elab.async false
set_option linter.all false
set_option maxRecDepth 100000
set_option maxHeartbeats 0
open PySem PySem.W PySem.Calls PyProof.Rows PyI
theorem PySem.Challenge.cw_cutfiner_k14_whole_counts_at_all_depths_holds : PySem.Challenge.rw_cutfiner_k14_whole_counts_at_all_depths.Holds := by
  w_on; o_law
  refine HandSHeadRun.head_any (r := OpenLaw.row PySem.Challenge.rw_cutfiner_k14_whole_counts_at_all_depths) (q := view (OpenLaw.row PySem.Challenge.rw_cutfiner_k14_whole_counts_at_all_depths).prog [51]) (H := K14.hk) (ob := K14.ob) (M := 8000) (loose := K14.nms) (d := HandSHeadRun.topDef (OpenLaw.row PySem.Challenge.rw_cutfiner_k14_whole_counts_at_all_depths).prog 51) (kwd := []) K14.ob_eq
    (by kernel_rfl) (fun s => by kernel_rfl) K14.run (by kernel_rfl) (by kernel_rfl) (by kernel_rfl) (by rfl) (by first | assumption | decide +kernel) (by decide +kernel) ⟨rfl, rfl, rfl, rfl, rfl, by decide +kernel⟩ ?hw ?hc
  case hw => w_witness2
  case hc =>
    refine PyI.walkG (l := PySem.Challenge.rw_cutfiner_k14_whole_counts_at_all_depths) (n := 63) (k := 20) (nm := "_law_cells") rfl (by decide) (by kernel_rfl) ⟨rfl, by decide, by decide⟩ ?F
    intro w mg fz h Y Gn hm0
    obtain ⟨K, KX, c⟩ := Y
    have hm : mg ("law" : PySem.Str) = some (.ref fz) := by
      have e : (HandSHeadRun.topDef (OpenLaw.row PySem.Challenge.rw_cutfiner_k14_whole_counts_at_all_depths).prog 51).name = ("law" : PySem.Str) := by kernel_rfl
      rw [← e]
      exact hm0
    obtain ⟨fd, at_, pr⟩ := PyI.Data.prog K14.text c K14.binds K14.kws KX Gn K14.fln
    have ef : K14.D.fa K 33 = fz := by
      have q : mg ("law" : PySem.Str) = some (.ref (K14.D.fa K 33)) := PySem.W.mg_of KX Gn (PyI.Data.law_at c (x := "law") (f := 33) rfl)
      rw [hm] at q
      exact (PySem.Value.ref.inj (Option.some.inj q)).symm
    have hd : K14.D.G.fns[33]? = some K14.fn33 := rfl
    have R := at_ 33 K14.row33 rfl
    refine ⟨K, fd 33, PyI.spF (K14.D.nm K14.fln K) K14.D.G 33 K14.fn33, KX, fun s u => ?_, PyI.law_sp (N := K14.D.nm K14.fln K) rfl (by decide) rfl (K14.law_true), fun b kb nb => ?_⟩
    · have P0 := pr PySem.Challenge.rw_cutfiner_k14_whole_counts_at_all_depths.prog w h
      exact .of_eq (P0.bind 33 _ hd [u] rfl)
    · have P0 := pr PySem.Challenge.rw_cutfiner_k14_whole_counts_at_all_depths.prog w b
      have al := P0.all 10
      have F := (al.T []).fn 33 _ hd (by decide) (by decide)
      rw [ef] at F
      exact F
