import PyProof.Rows.All
import Wide.All
import OpenK.AllK
import Wide.FinOn
import HandS.Base
import HandS.Call
import HandS.List
import HandS.Exc
import HandS.ExcOwn
import HandS.Flow
import HandS.Comp
import HandS.Words
import HandS.IsInst
import HandS.Dict
import HandS.Iter
import HandS.Strs
import HandS.RaiseMore
import HandS.HeadHook2
import HandS.Style
import HandS.CallRecv
import HandS.Defaults
import HandS.Head0
import HandS.Head1
import HandS.Head2
import HandS.HeadEnd
import HandS.HeadHook1
import KE.KStateDown
import Lean
import HandS.More
import HandS.WordsExc
import PySem.Challenge.RW_roundticks_k05_whole_rounding
set_option Elab.async false
set_option linter.all false
set_option maxRecDepth 100000
set_option maxHeartbeats 0
namespace Rt
open PySem PySem.Spec PyProof.Rows L2

/-- a value as a tree; `ref a` is an owned (mutable) object of the owned heap -/
inductive D where
  | non | bl (b : Bool) | int (i : Int) | str (s : Str)
  | tup (xs : List D) | lst (xs : List D)
  | dK (kvs : List (Key × D)) | dT (kvs : List (List Key × D))
  | ins (c : Nat) (fs : List (Str × D))
  | ref (a : Addr) | ty (n : String) | cls (c : Nat)
  | scr (xs : List D)
  deriving Inhabited

inductive O where
  | lst (xs : List D) | dK (kvs : List (Key × D)) | dT (kvs : List (List Key × D)) | ins (c : Nat) (fs : List (Str × D))

abbrev Hd := Addr → Option O
def hup (h : Hd) (a : Addr) (o : O) : Hd := fun b => if b = a then some o else h b
def hdel (h : Hd) (a : Addr) : Hd := fun b => if b = a then none else h b
theorem hup_same {h : Hd} {a : Addr} {o : O} : hup h a o a = some o := if_pos rfl
theorem hup_ne {h : Hd} {a b : Addr} {o : O} (e : b ≠ a) : hup h a o b = h b := if_neg e
theorem hdel_same {h : Hd} {a : Addr} : hdel h a a = none := if_pos rfl
theorem hdel_ne {h : Hd} {a b : Addr} (e : b ≠ a) : hdel h a b = h b := if_neg e

/-- the object at a of the written part is a list, a tuple of vs -/
def KL (K : PySem.W.Frag) (a : Addr) (xs : List V) : Prop :=
  ∃ (o : Obj) (its : Array Value) (n : Nat), K.lookup a = some o ∧ o.cls = .type "list" ∧ o.dict = none ∧ o.data = .seq its n ∧ its.size ≤ sizeLine ∧ Vals xs its.toList
def KT (K : PySem.W.Frag) (a : Addr) (xs : List V) : Prop :=
  ∃ (o : Obj) (its : Array Value) (n : Nat), K.lookup a = some o ∧ o.cls = .type "tuple" ∧ o.data = .seq its n ∧ its.size ≤ sizeLine ∧ Vals xs its.toList
/-- neither owned nor kept back -/
def Fre (Z : Addr → Prop) (h : Hd) (a : Addr) : Prop := h a = none ∧ ¬ Z a
def FzL (K : PySem.W.Frag) (Z : Addr → Prop) (H : Hp) (h : Hd) (a : Addr) (xs : List V) : Prop := (Fre Z h a ∧ Rd H a (.lst xs)) ∨ KL K a xs
def FzT (K : PySem.W.Frag) (Z : Addr → Prop) (H : Hp) (h : Hd) (a : Addr) (xs : List V) : Prop := (Fre Z h a ∧ Rd H a (.tup xs)) ∨ KT K a xs
theorem FzL.sq {K : PySem.W.Frag} {Z : Addr → Prop} {H : Hp} {h : Hd} {a : Addr} {xs : List V} (x : FzL K Z H h a xs) : SqL K H a xs := x.elim (fun y => .inl y.2) .inr
theorem FzT.sq {K : PySem.W.Frag} {Z : Addr → Prop} {H : Hp} {h : Hd} {a : Addr} {xs : List V} (x : FzT K Z H h a xs) : SqT K H a xs := x.elim (fun y => .inl y.2) .inr

mutual
inductive RD (ca : Nat → Addr) (K : PySem.W.Frag) (Z : Addr → Prop) (H : Hp) (h : Hd) : V → D → Prop
  | non : RD ca K Z H h .non .non
  | bl (b : Bool) : RD ca K Z H h (.bl b) (.bl b)
  | int (i : Int) : RD ca K Z H h (.int i) (.int i)
  | str (s : Str) : RD ca K Z H h (.str s) (.str s)
  | ty (n : String) : RD ca K Z H h (.ty n) (.ty n)
  | ref (a : Addr) : RD ca K Z H h (.ref a) (.ref a)
  | cls (c : Nat) : RD ca K Z H h (.ref (ca c)) (.cls c)
  | tup {a : Addr} {vs : List V} {ds : List D} : FzT K Z H h a vs → RDs ca K Z H h vs ds → RD ca K Z H h (.ref a) (.tup ds)
  | lst {a : Addr} {vs : List V} {ds : List D} : Fre Z h a → H a = some (.lst vs) → RDs ca K Z H h vs ds → RD ca K Z H h (.ref a) (.lst ds)
  | scr {a : Addr} {vs : List V} {ds : List D} : FzL K Z H h a vs → RDs ca K Z H h vs ds → RD ca K Z H h (.ref a) (.scr ds)
  | dK {a : Addr} {kvs : List (Key × V)} {kds : List (Key × D)} : Fre Z h a → Rd H a (.dK kvs) → RDp ca K Z H h kvs kds → RD ca K Z H h (.ref a) (.dK kds)
  | dT {a : Addr} {kvs : List (List Key × V)} {kds : List (List Key × D)} : Fre Z h a → Rd H a (.dT kvs) → RDp ca K Z H h kvs kds → RD ca K Z H h (.ref a) (.dT kds)
  | ins {a dx : Addr} {c : Nat} {fvs : List (Str × V)} {fds : List (Str × D)} : Fre Z h a → H a = some (.ins (ca c) dx fvs) → RDp ca K Z H h fvs fds → RD ca K Z H h (.ref a) (.ins c fds)
inductive RDs (ca : Nat → Addr) (K : PySem.W.Frag) (Z : Addr → Prop) (H : Hp) (h : Hd) : List V → List D → Prop
  | nil : RDs ca K Z H h [] []
  | cons {v : V} {d : D} {vs : List V} {ds : List D} : RD ca K Z H h v d → RDs ca K Z H h vs ds → RDs ca K Z H h (v :: vs) (d :: ds)
inductive RDp (ca : Nat → Addr) (K : PySem.W.Frag) (Z : Addr → Prop) (H : Hp) (h : Hd) : {κ : Type} → List (κ × V) → List (κ × D) → Prop
  | nil {κ : Type} : RDp ca K Z H h ([] : List (κ × V)) ([] : List (κ × D))
  | cons {κ : Type} {k : κ} {v : V} {d : D} {vs : List (κ × V)} {ds : List (κ × D)} : RD ca K Z H h v d → RDp ca K Z H h vs ds → RDp ca K Z H h ((k, v) :: vs) ((k, d) :: ds)
end

/-- what is neither owned nor kept back stands -/
structure Tr (Z : Addr → Prop) (H : Hp) (h : Hd) (Z' : Addr → Prop) (H' : Hp) (h' : Hd) : Prop where
  keep : ∀ a o, Fre Z h a → H a = some o → Fre Z' h' a ∧ H' a = some o
/-- .. and what was kept back too -/
structure Mv (Z : Addr → Prop) (H : Hp) (h : Hd) (Z' : Addr → Prop) (H' : Hp) (h' : Hd) : Prop where
  keep : ∀ a o, Fre Z h a → H a = some o → Fre Z' h' a ∧ H' a = some o
  res : ∀ a, Z a → H' a = H a
abbrev Stp (Z : Addr → Prop) (H : Hp) (h : Hd) (H' : Hp) (h' : Hd) : Prop := Mv Z H h Z H' h'
theorem Stp.refl {Z : Addr → Prop} {H : Hp} {h : Hd} : Stp Z H h H h := ⟨fun _ _ hn ho => ⟨hn, ho⟩, fun _ _ => rfl⟩
theorem Mv.thn {Z Z1 Z2 : Addr → Prop} {H H1 H2 : Hp} {h h1 h2 : Hd} (x : Mv Z H h Z1 H1 h1) (hz : ∀ a, Z a → Z1 a) (y : Mv Z1 H1 h1 Z2 H2 h2) : Mv Z H h Z2 H2 h2 := ⟨fun a o hn ho => by
  obtain ⟨hn1, ho1⟩ := x.keep a o hn ho
  exact y.keep a o hn1 ho1, fun a z => (y.res a (hz a z)).trans (x.res a z)⟩
theorem Stp.trans {Z : Addr → Prop} {H H1 H2 : Hp} {h h1 h2 : Hd} (x : Stp Z H h H1 h1) (y : Stp Z H1 h1 H2 h2) : Stp Z H h H2 h2 := Mv.thn x (fun _ z => z) y
section
variable {ca : Nat → Addr} {K : PySem.W.Frag} {Z Z' : Addr → Prop} {H H' : Hp} {h h' : Hd}
theorem Tr.rd (s : Tr Z H h Z' H' h') {a : Addr} {u : HO} (hn : Fre Z h a) (x : Rd H a u) : Fre Z' h' a ∧ Rd H' a u := by
  rcases x with x | ⟨ob, x⟩
  · exact ⟨(s.keep a _ hn x).1, .inl (s.keep a _ hn x).2⟩
  · exact ⟨(s.keep a _ hn x).1, .inr ⟨ob, (s.keep a _ hn x).2⟩⟩
theorem Tr.fzL (s : Tr Z H h Z' H' h') {a : Addr} {xs : List V} (x : FzL K Z H h a xs) : FzL K Z' H' h' a xs := x.elim (fun y => .inl (s.rd y.1 y.2)) .inr
theorem Tr.fzT (s : Tr Z H h Z' H' h') {a : Addr} {xs : List V} (x : FzT K Z H h a xs) : FzT K Z' H' h' a xs := x.elim (fun y => .inl (s.rd y.1 y.2)) .inr
mutual
theorem RD.tr (s : Tr Z H h Z' H' h') : ∀ {v : V} {d : D}, RD ca K Z H h v d → RD ca K Z' H' h' v d
  | _, _, .non => .non
  | _, _, .bl _ => .bl _
  | _, _, .int _ => .int _
  | _, _, .str _ => .str _
  | _, _, .ty _ => .ty _
  | _, _, .ref _ => .ref _
  | _, _, .cls _ => .cls _
  | _, _, .tup a b => .tup (s.fzT a) (RDs.tr s b)
  | _, _, .lst a b c => .lst (s.keep _ _ a b).1 (s.keep _ _ a b).2 (RDs.tr s c)
  | _, _, .scr a b => .scr (s.fzL a) (RDs.tr s b)
  | _, _, .dK a b c => .dK (s.rd a b).1 (s.rd a b).2 (RDp.tr s c)
  | _, _, .dT a b c => .dT (s.rd a b).1 (s.rd a b).2 (RDp.tr s c)
  | _, _, .ins a b c => .ins (s.keep _ _ a b).1 (s.keep _ _ a b).2 (RDp.tr s c)
theorem RDs.tr (s : Tr Z H h Z' H' h') : ∀ {vs : List V} {ds : List D}, RDs ca K Z H h vs ds → RDs ca K Z' H' h' vs ds
  | _, _, .nil => .nil
  | _, _, .cons a b => .cons (RD.tr s a) (RDs.tr s b)
theorem RDp.tr (s : Tr Z H h Z' H' h') : ∀ {κ : Type} {vs : List (κ × V)} {ds : List (κ × D)}, RDp ca K Z H h vs ds → RDp ca K Z' H' h' vs ds
  | _, _, _, .nil => .nil
  | _, _, _, .cons a b => .cons (RD.tr s a) (RDp.tr s b)
end
theorem Mv.tr (s : Mv Z H h Z' H' h') : Tr Z H h Z' H' h' := ⟨s.keep⟩
theorem Mv.rd (s : Mv Z H h Z' H' h') {a : Addr} {u : HO} (hn : Fre Z h a) (x : Rd H a u) : Fre Z' h' a ∧ Rd H' a u := s.tr.rd hn x
theorem Mv.fzL (s : Mv Z H h Z' H' h') {a : Addr} {xs : List V} (x : FzL K Z H h a xs) : FzL K Z' H' h' a xs := s.tr.fzL x
theorem Mv.fzT (s : Mv Z H h Z' H' h') {a : Addr} {xs : List V} (x : FzT K Z H h a xs) : FzT K Z' H' h' a xs := s.tr.fzT x
theorem RD.stp (s : Mv Z H h Z' H' h') {v : V} {d : D} (x : RD ca K Z H h v d) : RD ca K Z' H' h' v d := RD.tr s.tr x
theorem RDs.stp (s : Mv Z H h Z' H' h') {v : List V} {d : List D} (x : RDs ca K Z H h v d) : RDs ca K Z' H' h' v d := RDs.tr s.tr x
theorem RDp.stp (s : Mv Z H h Z' H' h') {κ : Type} {v : List (κ × V)} {d : List (κ × D)} (x : RDp ca K Z H h v d) : RDp ca K Z' H' h' v d := RDp.tr s.tr x
end
end Rt

namespace Rt
open PySem L2

abbrev Sg := List (Option D)
abbrev VS := List (Option V)
abbrev PQ := D → Hd → Prop
abbrev PX := Nat → List (Str × D) → Hd → Prop
/-- the promises: a def's number, its arguments, the owned heap, what follows, what follows an exception -/
abbrev Spc := Nat → List D → Hd → PQ → PX → Prop
/-- what is known of the text: promises, constants, classes (their makers, methods, fields), which exception class is caught by which -/
structure Tb where
  spc : Spc
  glo : Nat → D
  init : Nat → Option Nat
  meth : Nat → Str → Option Nat
  isF : Nat → Str → Bool
  exk : Nat → Option (Option (Str × Bool))
  sub : Nat → Nat → Bool

inductive Cn where
  | non | bl (b : Bool) | int (i : Int) | str (s : Str)
def Cn.d : Cn → D
  | .non => .non
  | .bl b => .bl b
  | .int i => .int i
  | .str s => .str s
/-- a built-in class in isinstance -/
inductive Bt where
  | int | bool | str | list | tuple | dict
  deriving DecidableEq
def Bt.nm : Bt → String
  | .int => "int" | .bool => "bool" | .str => "str" | .list => "list" | .tuple => "tuple" | .dict => "dict"
inductive Cl where
  | b (n : Bt) | c (k : Nat)
inductive Bf where
  | abs | int | len | repr | str | max2 | min2 | max1 | min1 | sum | all | any | list | tuple | divmod | sorted
inductive Bm where
  | append | pop | popAt | get1 | get2 | clear | extend

mutual
inductive Ex where
  | v (i : Nat)
  | k (c : Cn)
  | glo (n : Nat)
  | bin (o : Operator) (a b : Ex)
  | neg (a : Ex)
  | not (a : Ex)
  | bop (o : BoolOp) (es : Exs)
  | cmp (o : CmpOp) (a b : Ex)
  | chain (o o' : CmpOp) (a b c : Ex)
  | ife (c a b : Ex)
  | call (f : Nat) (es : Exs)
  | mk (c : Nat) (es : Exs)
  | meth (m : Str) (o : Ex) (es : Exs)
  | bif (f : Bf) (es : Exs)
  | bme (m : Bm) (o : Ex) (es : Exs)
  | isi (e : Ex) (cs : List Cl)
  | tup (es : Exs)
  | lst (own : Bool) (es : Exs)
  | dct (own : Bool) (ks : List Key) (vs : Exs)
  | idx (a b : Ex)
  | sl (a : Ex) (lo hi : Exs)
  | rev (own : Bool) (a : Ex)
  | tst (e : Ex)
  | lc (own : Bool) (ws : List Nat) (t : Tg) (it : Iw) (cs : Exs) (e : Ex)
  | fld (o : Ex) (f : Str)
  | fz (a : Ex)
inductive Exs where
  | nil
  | cons (e : Ex) (es : Exs)
inductive Tg where
  | n (i : Nat)
  | t (ts : Tgs)
  | sub (o i : Ex)
  | fld (o : Ex) (f : Str)
inductive Tgs where
  | nil
  | cons (t : Tg) (ts : Tgs)
inductive Iw where
  | seq (e : Ex)
  | rng (es : Exs)
  | enum (e : Ex)
  | zip (a b : Ex)
end
inductive Hn where
  | mk (c : Nat) (slot : Option Nat) (e : Ex)
mutual
inductive Sm where
  | ex (e : Ex)
  | asg (t : Tg) (e : Ex)
  | aug (i : Nat) (o : Operator) (e : Ex)
  | par (i j : Nat) (a b : Ex)
  | ife (c : Ex) (a b : Sms)
  | whl (c : Ex) (b : Sms)
  | for_ (t : Tg) (it : Iw) (b : Sms)
  | ret (e : Ex)
  | retN
  | raise (c : Nat) (es : Exs)
  | try_ (b : Sms) (hs : List Hn)
  | pass | brk | cnt
inductive Sms where
  | nil
  | cons (s : Sm) (ss : Sms)
end

/-- both ways of a test -/
def br (b : Bool) (A B : Prop) : Prop := (b = true → A) ∧ (b = false → B)

/-! ### data -/
mutual
def toP : D → PyData
  | .non => .none
  | .bl b => .bool b
  | .int i => .int i
  | .str s => .str s
  | .tup xs => .tuple (toPs xs)
  | .lst xs => .list (toPs xs)
  | _ => .none
def toPs : List D → List PyData
  | [] => []
  | x :: xs => toP x :: toPs xs
end
mutual
/-- None, bools, ints, texts, lists and tuples of such -/
def isP : D → Bool
  | .non => true
  | .bl _ => true
  | .int _ => true
  | .str _ => true
  | .tup xs => isPs xs
  | .lst xs => isPs xs
  | _ => false
def isPs : List D → Bool
  | [] => true
  | x :: xs => isP x && isPs xs
end
/-- an owned list as it stands -/
def rdO (x : D) (h : Hd) : D := match x with
  | .ref a => (match h a with
    | some (.lst xs) => .lst xs
    | _ => .ref a)
  | x => x

def dget {κ : Type} [DecidableEq κ] (kvs : List (κ × D)) (k : κ) : Option D := (kvs.find? fun kv => decide (kv.1 = k)).map (·.2)
def dput {κ : Type} [DecidableEq κ] (kvs : List (κ × D)) (k : κ) (v : D) : List (κ × D) :=
  if kvs.any (fun kv => decide (kv.1 = k)) then kvs.map (fun kv => if kv.1 = k then (kv.1, v) else kv) else kvs ++ [(k, v)]

def optP {α : Type} (o : Option α) (R : α → Prop) : Prop := match o with
  | some a => R a
  | none => False
/-- a list as it stands, owned or not; a dict -/
def asL (x : D) (h : Hd) : Option (List D) := match x with
  | .lst xs => some xs
  | .ref a => (match h a with
    | some (.lst xs) => some xs
    | _ => none)
  | _ => none
def asK (x : D) (h : Hd) : Option (List (Key × D)) := match x with
  | .dK kvs => some kvs
  | .ref a => (match h a with
    | some (.dK kvs) => some kvs
    | _ => none)
  | _ => none
def keyO (x : D) : Option Key := match x with
  | .int i => some (.inl i)
  | .str s => some (.inr s)
  | _ => none

/-! ### operations -/
def truP (x : D) (h : Hd) (R : Bool → Prop) : Prop := match x with
  | .non => R false
  | .bl b => R b
  | .int i => R (i != 0)
  | .str y => y.length ≤ sizeLine ∧ R ((y.length : Int) != 0)
  | .tup xs => R (!xs.isEmpty)
  | x => optP (asL x h) fun xs => R (!xs.isEmpty)
def catP (xs ys : List D) (R : D → Prop) : Prop := xs.length + ys.length ≤ sizeLine ∧ R (.lst (xs ++ ys))
def binP (o : Operator) (x y : D) (h : Hd) (R : D → Prop) : Prop := match o with
  | .Add => (match x, y with
    | .int i, .int j => R (.int (i + j))
    | .str s, .str t => s.length + t.length ≤ sizeLine ∧ R (.str (s ++ t))
    | x, y => optP (asL x h) fun xs => optP (asL y h) fun ys => catP xs ys R)
  | .Sub => (match x, y with
    | .int i, .int j => R (.int (i - j))
    | _, _ => False)
  | .Mult => (match x, y with
    | .int i, .int j => CMul i j ∧ R (.int (i * j))
    | _, _ => False)
  | .FloorDiv => (match x, y with
    | .int i, .int j => (0 < j ∧ j < 1073741824) ∧ R (.int (i / j))
    | _, _ => False)
  | .Mod => (match x, y with
    | .int i, .int j => 0 < j ∧ R (.int (i % j))
    | _, _ => False)
  | .Pow => (match x, y with
    | .int i, .int j => CPow i j ∧ R (.int (i ^ j.toNat))
    | _, _ => False)
  | _ => False
/-- x op= y -/
def augP (o : Operator) (x y : D) (R : D → Prop) : Prop := match o, x, y with
  | .Add, .int i, .int j => R (.int (i + j))
  | .Sub, .int i, .int j => R (.int (i - j))
  | _, _, _ => False
def negP (x : D) (R : D → Prop) : Prop := match x with
  | .int i => R (.int (-i))
  | _ => False
def okEq (d : D) : Prop := isP d = true ∧ SeqAt.shaped (toP d) = true
def fastEq (x y : D) : Option Bool := match x, y with
  | .int i, .int j => some (decide (i = j))
  | .str s, .str t => some (decide (s = t))
  | .bl a, .bl b => some (decide (a = b))
  | .non, .non => some true
  | _, _ => none
def eqP (x y : D) (h : Hd) (R : Bool → Prop) : Prop := match fastEq x y with
  | some b => R b
  | none => okEq (rdO x h) ∧ okEq (rdO y h) ∧ R (PyData.eqv (toP (rdO x h)) (toP (rdO y h)))
def ordE (o : CmpOp) (x y : D) : Option Bool := match x, y with
  | .int i, .int j => (match o with
    | .Lt => some (decide (i < j))
    | .LtE => some (decide (i ≤ j))
    | .Gt => some (decide (j < i))
    | .GtE => some (decide (j ≤ i))
    | _ => none)
  | _, _ => none
def isE (x y : D) : Option Bool := match x, y with
  | .non, .non => some true
  | .bl _, .non => some false
  | .int _, .non => some false
  | .str _, .non => some false
  | .tup _, .non => some false
  | .lst _, .non => some false
  | .dK _, .non => some false
  | .dT _, .non => some false
  | .ins _ _, .non => some false
  | .ref _, .non => some false
  | _, _ => none
def cmpP (o : CmpOp) (x y : D) (h : Hd) (R : Bool → Prop) : Prop := match o with
  | .Eq => eqP x y h R
  | .NotEq => eqP x y h fun b => R (!b)
  | .Is => optP (isE x y) R
  | .IsNot => optP (isE x y) fun b => R (!b)
  | o => optP (ordE o x y) R
def idxP (x y : D) (h : Hd) (R : D → Prop) : Prop := match x with
  | .tup xs => (match y with
    | .int i => optP (atI xs i) R
    | _ => False)
  | .str z => (match y with
    | .int i => z.length ≤ sizeLine ∧ optP (atI z.cps.toList i) fun c => R (.str ⟨#[c]⟩)
    | _ => False)
  | x => (match asL x h with
    | some xs => (match y with
      | .int i => optP (atI xs i) R
      | _ => False)
    | none => (match asK x h with
      | some kvs => optP (keyO y) fun k => optP (dget kvs k) R
      | none => False))
def strP (x : D) (h : Hd) (R : D → Prop) : Prop := isP (rdO x h) = true ∧ (toP (rdO x h)).showable = true ∧ (toP (rdO x h)).depth ≤ 64 ∧ (toP (rdO x h)).shown.length ≤ sizeLine ∧ R (.str (toP (rdO x h)).shown)
def bifP (f : Bf) (xs : List D) (h : Hd) (R : D → Prop) : Prop := match f, xs with
  | .abs, [.int i] => R (.int i.natAbs)
  | .int, [.int i] => R (.int i)
  | .int, [.bl b] => R (.int (if b then 1 else 0))
  | .len, [.str s] => s.length ≤ sizeLine ∧ R (.int s.length)
  | .len, [.tup xs] => R (.int xs.length)
  | .len, [x] => optP (asL x h) fun xs => R (.int xs.length)
  | .repr, [x] => strP x h R
  | .str, [.int i] => i.natAbs.log2 < 1920 ∧ R (.str (toString i))
  | .max2, [.int i, .int j] => R (.int (if j ≤ i then i else j))
  | .min2, [.int i, .int j] => R (.int (if j < i then j else i))
  | _, _ => False
/-- methods: the receiver, arguments; the receiver may change -/
def appP (x : D) (xs : List D) (h : Hd) (Q : D → Hd → Prop) : Prop := match x, xs with
  | .ref a, [d] => (match h a with
    | some (.lst ds) => ds.length < sizeLine ∧ Q .non (hup h a (.lst (ds ++ [d])))
    | _ => False)
  | _, _ => False
def popP (x : D) (xs : List D) (h : Hd) (Q : D → Hd → Prop) : Prop := match x, xs with
  | .ref a, [] => (match h a with
    | some (.lst ds) => optP ds.getLast? fun d => Q d (hup h a (.lst ds.dropLast))
    | _ => False)
  | _, _ => False
/-- the receiver's kind is known ahead of the arguments -/
def recP (m : Bm) (x : D) (h : Hd) : Prop := match m with
  | .append => (asL x h).isSome = true
  | .pop => (asL x h).isSome = true
  | _ => False
def bmeP (m : Bm) (x : D) (xs : List D) (h : Hd) (Q : D → Hd → Prop) : Prop := match m with
  | .append => appP x xs h Q
  | .pop => popP x xs h Q
  | _ => False
/-- the built-in type of a value; none: not told -/
inductive Vt where
  | non | bool | int | str | tuple | list | dict
def Vt.nm : Vt → String
  | .non => "NoneType" | .bool => "bool" | .int => "int" | .str => "str" | .tuple => "tuple" | .list => "list" | .dict => "dict"
def vtO : O → Option Vt
  | .lst _ => some .list
  | .dK _ => some .dict
  | .dT _ => some .dict
  | .ins _ _ => none
def vtD (d : D) (h : Hd) : Option Vt := match d with
  | .non => some .non
  | .bl _ => some .bool
  | .int _ => some .int
  | .str _ => some .str
  | .tup _ => some .tuple
  | .lst _ => some .list
  | .dK _ => some .dict
  | .ref a => (match h a with
    | some o => vtO o
    | none => none)
  | _ => none
def isaB : Vt → Bt → Bool
  | .bool, .bool => true
  | .bool, .int => true
  | .int, .int => true
  | .str, .str => true
  | .tuple, .tuple => true
  | .list, .list => true
  | .dict, .dict => true
  | _, _ => false
def isi1 (c : Cl) (d : D) (h : Hd) : Option Bool := match c with
  | .b n => (vtD d h).map (isaB · n)
  | .c _ => none
def isiP (d : D) (cs : List Cl) (h : Hd) (R : Bool → Prop) : Prop := match cs with
  | [] => R false
  | c :: r => (match isi1 c d h with
    | some true => R true
    | some false => isiP d r h R
    | none => False)
/-- o[i] = v -/
def setP (o i v : D) (h : Hd) (Q : Hd → Prop) : Prop := match o with
  | .ref a => (match h a, i with
    | some (.dK kvs), i => kvs.length < 100000 ∧ optP (keyO i) fun k => Q (hup h a (.dK (dput kvs k v)))
    | some (.lst xs), .int j => (match ixN xs.length j with
      | some n => Q (hup h a (.lst (xs.set n v)))
      | none => False)
    | _, _ => False)
  | _ => False
/-- an owned object is let go as a value -/
def fzP (d : D) (h : Hd) (Q : D → Hd → Prop) : Prop := match d with
  | .ref a => (match h a with
    | some (.lst xs) => Q (.lst xs) (hdel h a)
    | some (.dK kvs) => Q (.dK kvs) (hdel h a)
    | some (.dT kvs) => Q (.dT kvs) (hdel h a)
    | some (.ins c fs) => Q (.ins c fs) (hdel h a)
    | none => False)
  | d => Q d h
def newL (own : Bool) (xs : List D) (h : Hd) (Q : D → Hd → Prop) : Prop :=
  match own with
  | true => ∀ p, h p = none → Q (.ref p) (hup h p (.lst xs))
  | false => Q (.lst xs) h
@[irreducible] def rangeL (lo c : Int) (n : Nat) : List D := (List.range n).map fun i => .int (lo + (i : Nat) * c)
def sWipe (σ : Sg) : List Nat → Sg
  | [] => σ
  | v :: vs => (sWipe σ vs).set v none
/-- what is walked: its items -/
def seqP (x : D) (h : Hd) (R : List D → Prop) : Prop := match x with
  | .tup xs => R xs
  | .lst xs => R xs
  | .scr xs => R xs
  | _ => False
def rngP (xs : List D) (R : List D → Prop) : Prop := match xs with
  | [.int n] => R (rangeL 0 1 n.toNat)
  | [.int a, .int b] => R (rangeL a 1 (b - a).toNat)
  | _ => False

mutual
/-- names and tuples of names take a value -/
def bndN : Tg → D → Sg → Option Sg
  | .n i, x, σ => some (σ.set i (some x))
  | .t ts, x, σ => (match x with
    | .tup xs => bndNs ts xs σ
    | _ => none)
  | .sub _ _, _, _ => none
  | .fld _ _, _, _ => none
def bndNs : Tgs → List D → Sg → Option Sg
  | .nil, xs, σ => (match xs with
    | [] => some σ
    | _ :: _ => none)
  | .cons t ts, xs, σ => (match xs with
    | [] => none
    | x :: xs => (bndN t x σ).bind fun σ1 => bndNs ts xs σ1)
end
/-- the turns of a comprehension -/
def lcP (step : D → Hd → (Option D → Hd → Prop) → Prop) : List D → List D → Hd → (List D → Hd → Prop) → Prop
  | [], acc, h, K => K acc h
  | x :: xs, acc, h, K => step x h fun o h1 => lcP step xs (match o with | some y => acc ++ [y] | none => acc) h1 K
/-- what is wanted behind a statement -/
structure Kt where
  nx : Sg → Hd → Prop
  rt : D → Hd → Prop
  bk : Sg → Hd → Prop
  ct : Sg → Hd → Prop
  ex : Nat → List (Str × D) → Sg → Hd → Prop
/-- the turns of a for -/
def forP (step : D → Sg → Hd → Kt → Prop) : List D → Sg → Hd → Kt → Prop
  | [], σ, h, K => K.nx σ h
  | x :: xs, σ, h, K => step x σ h { K with nx := fun σ1 h1 => forP step xs σ1 h1 K, ct := fun σ1 h1 => forP step xs σ1 h1 K, bk := K.nx }
def noX : PX := fun _ _ _ => False
/-- C(..): an owned instance -/
def mkP (T : Tb) (c : Nat) (xs : List D) (h : Hd) (Q : PQ) (E : PX) : Prop := match T.init c with
  | some f => ∀ p, h p = none → T.spc f (.ref p :: xs) (hup h p (.ins c [])) (fun d h2 => match d with
    | .non => Q (.ref p) h2
    | _ => False) E
  | none => False
/-- the class and the fields of an instance -/
def insO (x : D) (h : Hd) : Option (Nat × List (Str × D)) := match x with
  | .ins c fs => some (c, fs)
  | .ref a => (match h a with
    | some (.ins c fs) => some (c, fs)
    | _ => none)
  | _ => none
def methP (T : Tb) (m : Str) (x : D) (h : Hd) (R : Nat → Prop) : Prop := match insO x h with
  | some (c, fs) => (dget fs m).isSome = false ∧ (match T.meth c m with
    | some f => R f
    | none => False)
  | none => False
def fldP (T : Tb) (f : Str) (x : D) (h : Hd) (R : D → Prop) : Prop := match insO x h with
  | some (c, fs) => T.isF c f = true ∧ (match dget fs f with
    | some d => R d
    | none => False)
  | none => False
def setfP (T : Tb) (f : Str) (x v : D) (h : Hd) (Q : Hd → Prop) : Prop := match x with
  | .ref a => (match h a with
    | some (.ins c fs) => T.isF c f = true ∧ fs.length < 1000 ∧ Q (hup h a (.ins c (dput fs f v)))
    | _ => False)
  | _ => False
/-- an exception of the class c is made of xs -/
def excP (T : Tb) (c : Nat) (xs : List D) (R : List (Str × D) → Prop) : Prop := match T.exk c, xs with
  | some none, [] => R []
  | some (some (f, false)), [x] => R [(f, x)]
  | some (some (f, true)), [.tup xs] => R [(f, .tup xs)]
  | some (some (f, true)), [.lst xs] => R [(f, .tup xs)]
  | _, _ => False

/-! ### tests, expressions -/
mutual
def wpE (T : Tb) : Ex → Sg → Hd → PQ → PX → Prop
  | .v i, σ, h, Q, _ => (match σ[i]? with
    | some (some d) => Q d h
    | _ => False)
  | .k c, _, h, Q, _ => Q c.d h
  | .glo n, _, h, Q, _ => Q (T.glo n) h
  | .bin o a b, σ, h, Q, E => wpE T a σ h (fun x h1 => wpE T b σ h1 (fun y h2 => binP o x y h2 fun z => Q z h2) E) E
  | .neg a, σ, h, Q, E => wpE T a σ h (fun x h1 => negP x fun z => Q z h1) E
  | .not a, σ, h, Q, E => wpE T a σ h (fun x h1 => truP x h1 fun b => Q (.bl (!b)) h1) E
  | .bop o es, σ, h, Q, E => wpB T o es σ h Q E
  | .cmp o a b, σ, h, Q, E => wpE T a σ h (fun x h1 => wpE T b σ h1 (fun y h2 => cmpP o x y h2 fun z => Q (.bl z) h2) E) E
  | .chain o o' a b c, σ, h, Q, E => wpE T a σ h (fun x h1 => wpE T b σ h1 (fun y h2 => cmpP o x y h2 fun z =>
      br z (wpE T c σ h2 (fun w h3 => cmpP o' y w h3 fun z' => Q (.bl z') h3) E) (Q (.bl false) h2)) E) E
  | .ife c a b, σ, h, Q, E => wpT T c σ h (fun z h1 => br z (wpE T a σ h1 Q E) (wpE T b σ h1 Q E)) E
  | .call f es, σ, h, Q, E => wpEs T es σ h (fun xs h1 => T.spc f xs h1 Q E) E
  | .mk c es, σ, h, Q, E => wpEs T es σ h (fun xs h1 => mkP T c xs h1 Q E) E
  | .meth m o es, σ, h, Q, E => wpE T o σ h (fun x h1 => methP T m x h1 fun f => wpEs T es σ h1 (fun xs h2 => T.spc f (x :: xs) h2 Q E) E) E
  | .bif f es, σ, h, Q, E => wpEs T es σ h (fun xs h1 => bifP f xs h1 fun z => Q z h1) E
  | .bme m o es, σ, h, Q, E => wpE T o σ h (fun x h1 => recP m x h1 ∧ wpEs T es σ h1 (fun xs h2 => bmeP m x xs h2 Q) E) E
  | .isi e cs, σ, h, Q, E => wpE T e σ h (fun x h1 => isiP x cs h1 fun z => Q (.bl z) h1) E
  | .tup es, σ, h, Q, E => wpEs T es σ h (fun xs h1 => Q (.tup xs) h1) E
  | .lst own es, σ, h, Q, E => wpEs T es σ h (fun xs h1 => newL own xs h1 Q) E
  | .dct own ks vs, σ, h, Q, E => wpEs T vs σ h (fun xs h1 => match own with
      | true => ∀ p, h1 p = none → Q (.ref p) (hup h1 p (.dK (ks.zip xs)))
      | false => Q (.dK (ks.zip xs)) h1) E
  | .idx a b, σ, h, Q, E => wpE T a σ h (fun x h1 => wpE T b σ h1 (fun y h2 => idxP x y h2 fun z => Q z h2) E) E
  | .sl _ _ _, _, _, _, _ => False
  | .rev own a, σ, h, Q, E => wpE T a σ h (fun x h1 => optP (asL x h1) fun xs => newL own xs.reverse h1 Q) E
  | .lc own ws t it cs e, σ, h, Q, E => wpI T it σ h (fun items h1 => items.length < sizeLine ∧
      lcP (fun x h2 R => optP (bndN t x (sWipe σ ws)) fun σ1 => wpC T cs σ1 h2 fun b h4 => br b (wpE T e σ1 h4 (fun y h5 => R (some y) h5) noX) (R none h4))
        items [] h1 fun ys h2 => newL own ys h2 Q) E
  | .fld o f, σ, h, Q, E => wpE T o σ h (fun x h1 => fldP T f x h1 fun d => Q d h1) E
  | .tst _, _, _, _, _ => False
  | .fz a, σ, h, Q, E => wpE T a σ h (fun x h1 => fzP x h1 Q) E
/-- and, or as values -/
def wpB (T : Tb) (o : BoolOp) : Exs → Sg → Hd → PQ → PX → Prop
  | .nil, _, _, _, _ => False
  | .cons e es, σ, h, Q, E => (match es with
    | .nil => wpE T e σ h Q E
    | .cons _ _ => wpE T e σ h (fun x h1 => truP x h1 fun b => match o with
      | .And => br b (wpB T o es σ h1 Q E) (Q x h1)
      | .Or => br b (Q x h1) (wpB T o es σ h1 Q E)) E)
/-- a test -/
def wpT (T : Tb) : Ex → Sg → Hd → (Bool → Hd → Prop) → PX → Prop
  | .not a, σ, h, Q, E => wpT T a σ h (fun b h1 => Q (!b) h1) E
  | .bop o es, σ, h, Q, E => wpTB T o es σ h Q E
  | .cmp o a b, σ, h, Q, E => wpE T a σ h (fun x h1 => wpE T b σ h1 (fun y h2 => cmpP o x y h2 fun z => Q z h2) E) E
  | .chain o o' a b c, σ, h, Q, E => wpE T a σ h (fun x h1 => wpE T b σ h1 (fun y h2 => cmpP o x y h2 fun z =>
      br z (wpE T c σ h2 (fun w h3 => cmpP o' y w h3 fun z' => Q z' h3) E) (Q false h2)) E) E
  | .tst e, σ, h, Q, E => wpE T e σ h (fun x h1 => truP x h1 fun b => Q b h1) E
  | _, _, _, _, _ => False
def wpTB (T : Tb) (o : BoolOp) : Exs → Sg → Hd → (Bool → Hd → Prop) → PX → Prop
  | .nil, _, _, _, _ => False
  | .cons e es, σ, h, Q, E => (match es with
    | .nil => wpT T e σ h Q E
    | .cons _ _ => wpT T e σ h (fun b h1 => match o with
      | .And => br b (wpTB T o es σ h1 Q E) (Q false h1)
      | .Or => br b (Q true h1) (wpTB T o es σ h1 Q E)) E)
def wpEs (T : Tb) : Exs → Sg → Hd → (List D → Hd → Prop) → PX → Prop
  | .nil, _, h, Q, _ => Q [] h
  | .cons e es, σ, h, Q, E => wpE T e σ h (fun x h1 => wpEs T es σ h1 (fun xs h2 => Q (x :: xs) h2) E) E
/-- a comprehension's test: none or one -/
def wpC (T : Tb) : Exs → Sg → Hd → (Bool → Hd → Prop) → Prop
  | .nil, _, h, Q => Q true h
  | .cons e es, σ, h, Q => (match es with
    | .nil => wpT T e σ h Q noX
    | .cons _ _ => False)
/-- what is walked -/
def wpI (T : Tb) : Iw → Sg → Hd → (List D → Hd → Prop) → PX → Prop
  | .seq e, σ, h, Q, E => wpE T e σ h (fun x h1 => seqP x h1 fun ys => Q ys h1) E
  | .rng es, σ, h, Q, E => wpEs T es σ h (fun xs h1 => rngP xs fun ys => Q ys h1) E
  | .enum _, _, _, _, _ => False
  | .zip _ _, _, _, _, _ => False
/-- a target takes a value -/
def wpG (T : Tb) : Tg → D → Sg → Hd → (Sg → Hd → Prop) → PX → Prop
  | .n i, x, σ, h, K, _ => K (σ.set i (some x)) h
  | .t ts, x, σ, h, K, _ => optP (bndN (.t ts) x σ) fun σ1 => K σ1 h
  | .sub o i, x, σ, h, K, E => wpE T o σ h (fun y h1 => wpE T i σ h1 (fun z h2 => setP y z x h2 fun h3 => K σ h3) E) E
  | .fld o f, x, σ, h, K, E => wpE T o σ h (fun y h1 => setfP T f y x h1 fun h2 => K σ h2) E
end
/-- an exception of the class c with the fields fs meets the handlers: the first that fits -/
def hnP (T : Tb) (c : Nat) (fs : List (Str × D)) : List Hn → Sg → Hd → Kt → Prop
  | [], σ, h, K => K.ex c fs σ h
  | .mk k sl e :: hs, σ, h, K => (match T.sub c k with
    | true => wpE T e (match sl with | some i => σ.set i (some (.ins c fs)) | none => σ) h K.rt noX
    | false => hnP T c fs hs σ h K)
mutual
def wpS (T : Tb) : Sm → Sg → Hd → Kt → Prop
  | .ex e, σ, h, K => wpE T e σ h (fun _ h1 => K.nx σ h1) (fun c fs h1 => K.ex c fs σ h1)
  | .asg t e, σ, h, K => wpE T e σ h (fun x h1 => wpG T t x σ h1 K.nx (fun c fs h1 => K.ex c fs σ h1)) (fun c fs h1 => K.ex c fs σ h1)
  | .aug i o e, σ, h, K => (match σ[i]? with
    | some (some x) => wpE T e σ h (fun y h1 => augP o x y fun z => K.nx (σ.set i (some z)) h1) (fun c fs h1 => K.ex c fs σ h1)
    | _ => False)
  | .par i j a b, σ, h, K => wpEs T (.cons a (.cons b .nil)) σ h (fun xs h2 => match xs with
      | [x, y] => K.nx ((σ.set i (some x)).set j (some y)) h2
      | _ => False) (fun c fs h1 => K.ex c fs σ h1)
  | .ife c a b, σ, h, K => wpT T c σ h (fun z h1 => br z (wpSs T a σ h1 K) (wpSs T b σ h1 K)) (fun c fs h1 => K.ex c fs σ h1)
  | .whl c b, σ, h, K => ∃ W : Nat → Sg → Hd → Prop, (∃ m, W m σ h) ∧ ∀ m σ h, W m σ h →
      wpT T c σ h (fun z h1 => br z (wpSs T b σ h1 { K with nx := fun σ' h' => ∃ m', m' < m ∧ W m' σ' h', ct := fun σ' h' => ∃ m', m' < m ∧ W m' σ' h', bk := K.nx }) (K.nx σ h1)) (fun c fs h1 => K.ex c fs σ h1)
  | .for_ t it b, σ, h, K => wpI T it σ h (fun items h1 => forP (fun x σ h K' => wpG T t x σ h (fun σ1 h2 => wpSs T b σ1 h2 K') (fun c fs h1 => K'.ex c fs σ h1)) items σ h1 K) (fun c fs h1 => K.ex c fs σ h1)
  | .ret e, σ, h, K => wpE T e σ h K.rt (fun c fs h1 => K.ex c fs σ h1)
  | .retN, _, h, K => K.rt .non h
  | .raise c es, σ, h, K => wpEs T es σ h (fun xs h1 => excP T c xs fun fs => K.ex c fs σ h1) (fun c fs h1 => K.ex c fs σ h1)
  | .try_ b hs, σ, h, K => wpSs T b σ h { K with ex := fun c fs σ1 h1 => hnP T c fs hs σ1 h1 K }
  | .pass, σ, h, K => K.nx σ h
  | .brk, σ, h, K => K.bk σ h
  | .cnt, σ, h, K => K.ct σ h
def wpSs (T : Tb) : Sms → Sg → Hd → Kt → Prop
  | .nil, σ, h, K => K.nx σ h
  | .cons s ss, σ, h, K => wpS T s σ h { K with nx := fun σ1 h1 => wpSs T ss σ1 h1 K }
end
end Rt

namespace Rt
open PySem PySem.Spec PyProof.Rows L2

inductive RO (ca : Nat → Addr) (K : PySem.W.Frag) (Z : Addr → Prop) (H : Hp) (h : Hd) : HO → O → Prop
  | lst {vs : List V} {ds : List D} : RDs ca K Z H h vs ds → RO ca K Z H h (.lst vs) (.lst ds)
  | dK {kvs : List (Key × V)} {kds : List (Key × D)} : RDp ca K Z H h kvs kds → RO ca K Z H h (.dK kvs) (.dK kds)
  | dT {kvs : List (List Key × V)} {kds : List (List Key × D)} : RDp ca K Z H h kvs kds → RO ca K Z H h (.dT kvs) (.dT kds)
  | ins {dx : Addr} {c : Nat} {fvs : List (Str × V)} {fds : List (Str × D)} : RDp ca K Z H h fvs fds → RO ca K Z H h (.ins (ca c) dx fvs) (.ins c fds)
theorem RO.stp {ca : Nat → Addr} {K : PySem.W.Frag} {Z Z' : Addr → Prop} {H H' : Hp} {h h' : Hd} (s : Mv Z H h Z' H' h') {ho : HO} {o : O} (x : RO ca K Z H h ho o) : RO ca K Z' H' h' ho o := by
  cases x with
  | lst a => exact .lst (RDs.stp s a)
  | dK a => exact .dK (RDp.stp s a)
  | dT a => exact .dT (RDp.stp s a)
  | ins a => exact .ins (RDp.stp s a)
/-- the owned objects stand -/
structure Own (ca : Nat → Addr) (K : PySem.W.Frag) (Z : Addr → Prop) (H : Hp) (h : Hd) : Prop where
  obj : ∀ a o, h a = some o → ∃ ho, H a = some ho ∧ RO ca K Z H h ho o
  res : ∀ a, Z a → h a = none ∧ H a ≠ none
/-- the slots -/
inductive RDo (ca : Nat → Addr) (K : PySem.W.Frag) (Z : Addr → Prop) (H : Hp) (h : Hd) : Option V → Option D → Prop
  | none {x : Option V} : RDo ca K Z H h x none
  | some {v : V} {d : D} : RD ca K Z H h v d → RDo ca K Z H h (some v) (some d)
inductive Slots (ca : Nat → Addr) (K : PySem.W.Frag) (Z : Addr → Prop) (H : Hp) (h : Hd) : VS → Sg → Prop
  | nil : Slots ca K Z H h [] []
  | cons {x : Option V} {y : Option D} {τ : VS} {σ : Sg} : RDo ca K Z H h x y → Slots ca K Z H h τ σ → Slots ca K Z H h (x :: τ) (y :: σ)
structure Rel (ca : Nat → Addr) (K : PySem.W.Frag) (Z : Addr → Prop) (H : Hp) (h : Hd) (τ : VS) (σ : Sg) : Prop where
  own : Own ca K Z H h
  env : Slots ca K Z H h τ σ
section
variable {ca : Nat → Addr} {K : PySem.W.Frag} {Z : Addr → Prop} {H H' : Hp} {h h' : Hd} {τ : VS} {σ : Sg} {a : Addr}
theorem RDo.stp {Z' : Addr → Prop} (s : Mv Z H h Z' H' h') {x : Option V} {y : Option D} (r : RDo ca K Z H h x y) : RDo ca K Z' H' h' x y := by
  cases r with
  | none => exact .none
  | some r => exact .some (RD.stp s r)
theorem Slots.stp {Z' : Addr → Prop} (s : Mv Z H h Z' H' h') : ∀ {τ : VS} {σ : Sg}, Slots ca K Z H h τ σ → Slots ca K Z' H' h' τ σ
  | _, _, .nil => .nil
  | _, _, .cons a b => .cons (a.stp s) (Slots.stp s b)
theorem Slots.get : ∀ {τ : VS} {σ : Sg} {i : Nat} {d : D}, Slots ca K Z H h τ σ → σ[i]? = some (some d) → ∃ v, τ[i]? = some (some v) ∧ RD ca K Z H h v d
  | _, _, _, _, .nil, e => by simp at e
  | _, _, 0, _, .cons r _, e => by
    simp at e; subst e
    cases r with
    | some r => exact ⟨_, rfl, r⟩
  | _, _, i + 1, _, .cons _ t, e => by
    obtain ⟨v, h1, h2⟩ := Slots.get (i := i) t (by simpa using e)
    exact ⟨v, by simpa using h1, h2⟩
theorem Slots.set {v : V} {d : D} (r : RD ca K Z H h v d) : ∀ {τ : VS} {σ : Sg} (i : Nat), Slots ca K Z H h τ σ → Slots ca K Z H h (τ.set i (some v)) (σ.set i (some d))
  | _, _, _, .nil => .nil
  | _, _, 0, .cons _ t => .cons (.some r) t
  | _, _, i + 1, .cons q t => .cons q (Slots.set r i t)
theorem Slots.clr : ∀ {τ : VS} {σ : Sg} (i : Nat), Slots ca K Z H h τ σ → Slots ca K Z H h (τ.set i none) (σ.set i none)
  | _, _, _, .nil => .nil
  | _, _, 0, .cons _ t => .cons .none t
  | _, _, i + 1, .cons q t => .cons q (Slots.clr i t)
theorem Slots.wipe (r : Slots ca K Z H h τ σ) : ∀ ws : List Nat, Slots ca K Z H h (L2.wipe τ ws) (sWipe σ ws)
  | [] => r
  | w :: ws => by
    unfold L2.wipe sWipe
    exact (Slots.wipe r ws).clr w
theorem Rel.stp {Z' : Addr → Prop} (R : Rel ca K Z H h τ σ) (s : Mv Z H h Z' H' h') (o : Own ca K Z' H' h') : Rel ca K Z' H' h' τ σ := ⟨o, R.env.stp s⟩
theorem Own.none_of (o : Own ca K Z H h) (e : H a = none) : Fre Z h a := by
  refine ⟨?_, fun z => (o.res a z).2 e⟩
  cases q : h a with
  | none => rfl
  | some u =>
    obtain ⟨ho, e', _⟩ := o.obj a u q
    rw [e] at e'; cases e'
theorem Own.nz (x : Own ca K Z H h) {o : O} (e : h a = some o) : ¬ Z a := fun z => by
  rw [(x.res a z).1] at e; cases e
/-- a new object that is not owned -/
theorem Stp.fresh {o : HO} (x : Own ca K Z H h) (hn : H a = none) : Stp Z H h (upd H a o) h :=
  ⟨fun b u hb e => ⟨hb, by rw [upd_ne (ne_of_none e hn)]; exact e⟩, fun b z => upd_ne fun q => by
    subst q
    exact (x.res _ z).2 hn⟩
theorem Own.fresh {o : HO} (x : Own ca K Z H h) (hn : H a = none) : Own ca K Z (upd H a o) h := by
  refine ⟨fun b u e => ?_, fun b z => ?_⟩
  · obtain ⟨ho, e1, r⟩ := x.obj b u e
    exact ⟨ho, by rw [upd_ne (ne_of_none e1 hn)]; exact e1, r.stp (Stp.fresh x hn)⟩
  · obtain ⟨h1, h2⟩ := x.res b z
    refine ⟨h1, ?_⟩
    rw [upd_ne fun q => by subst q; exact h2 hn]
    exact h2
/-- a new owned object -/
theorem Stp.newO {o : HO} {o' : O} (x : Own ca K Z H h) (hn : H a = none) : Stp Z H h (upd H a o) (hup h a o') :=
  ⟨fun b u hb e => by
    have nb : b ≠ a := ne_of_none e hn
    exact ⟨⟨by rw [hup_ne nb]; exact hb.1, hb.2⟩, by rw [upd_ne nb]; exact e⟩, fun b z => upd_ne fun q => by
    subst q
    exact (x.res _ z).2 hn⟩
theorem Own.newO {o : HO} {o' : O} (x : Own ca K Z H h) (hn : H a = none) (r : RO ca K Z H h o o') : Own ca K Z (upd H a o) (hup h a o') := by
  have s : Stp Z H h (upd H a o) (hup h a o') := Stp.newO x hn
  refine ⟨fun b u e => ?_, fun b z => ?_⟩
  · by_cases hb : b = a
    · subst hb
      rw [hup_same] at e; cases e
      exact ⟨o, upd_same, r.stp s⟩
    · rw [hup_ne hb] at e
      obtain ⟨ho, e1, r1⟩ := x.obj b u e
      exact ⟨ho, by rw [upd_ne hb]; exact e1, r1.stp s⟩
  · obtain ⟨h1, h2⟩ := x.res b z
    have nb : b ≠ a := fun q => by subst q; exact h2 hn
    rw [hup_ne nb, upd_ne nb]
    exact ⟨h1, h2⟩
/-- an owned object is changed -/
theorem Stp.put {o : HO} {o' u : O} (x : Own ca K Z H h) (ha : h a = some u) : Stp Z H h (upd H a o) (hup h a o') :=
  ⟨fun b w hb e => by
    have nb : b ≠ a := fun z => by rw [z, Fre, ha] at hb; cases hb.1
    exact ⟨⟨by rw [hup_ne nb]; exact hb.1, hb.2⟩, by rw [upd_ne nb]; exact e⟩, fun b z => upd_ne fun q => by
    subst q
    exact x.nz ha z⟩
theorem Own.put {o : HO} {o' u : O} (x : Own ca K Z H h) (ha : h a = some u) (r : RO ca K Z H h o o') : Own ca K Z (upd H a o) (hup h a o') := by
  have s : Stp Z H h (upd H a o) (hup h a o') := Stp.put x ha
  refine ⟨fun b w e => ?_, fun b z => ?_⟩
  · by_cases hb : b = a
    · subst hb
      rw [hup_same] at e; cases e
      exact ⟨o, upd_same, r.stp s⟩
    · rw [hup_ne hb] at e
      obtain ⟨ho, e1, r1⟩ := x.obj b w e
      exact ⟨ho, by rw [upd_ne hb]; exact e1, r1.stp s⟩
  · obtain ⟨h1, h2⟩ := x.res b z
    have nb : b ≠ a := fun q => by subst q; rw [h1] at ha; cases ha
    rw [hup_ne nb, upd_ne nb]
    exact ⟨h1, h2⟩
/-- an owned object is let go -/
theorem Stp.del : Stp Z H h H (hdel h a) := ⟨fun b w hb e => by
  refine ⟨⟨?_, hb.2⟩, e⟩
  unfold hdel
  split
  · rfl
  · exact hb.1, fun _ _ => rfl⟩
theorem Own.del (x : Own ca K Z H h) : Own ca K Z H (hdel h a) := by
  refine ⟨fun b w e => ?_, fun b z => ?_⟩
  · have nb : b ≠ a := fun z => by rw [z, hdel_same] at e; cases e
    rw [hdel_ne nb] at e
    obtain ⟨ho, e1, r1⟩ := x.obj b w e
    exact ⟨ho, e1, r1.stp Stp.del⟩
  · obtain ⟨h1, h2⟩ := x.res b z
    refine ⟨?_, h2⟩
    unfold hdel
    split
    · rfl
    · exact h1
/-- a new object is kept back -/
def Zp (Z : Addr → Prop) (a : Addr) : Addr → Prop := fun b => Z b ∨ b = a
theorem Mv.hold {o : HO} (x : Own ca K Z H h) (hn : H a = none) : Mv Z H h (Zp Z a) (upd H a o) h :=
  ⟨fun b u hb e => by
    have nb : b ≠ a := ne_of_none e hn
    exact ⟨⟨hb.1, fun z => z.elim hb.2 nb⟩, by rw [upd_ne nb]; exact e⟩, fun b z => upd_ne fun q => by
    subst q
    exact (x.res _ z).2 hn⟩
theorem Own.hold {o : HO} (x : Own ca K Z H h) (hn : H a = none) : Own ca K (Zp Z a) (upd H a o) h := by
  refine ⟨fun b u e => ?_, fun b z => ?_⟩
  · obtain ⟨ho, e1, r⟩ := x.obj b u e
    exact ⟨ho, by rw [upd_ne (ne_of_none e1 hn)]; exact e1, r.stp (Mv.hold x hn)⟩
  · rcases z with z | z
    · obtain ⟨h1, h2⟩ := x.res b z
      refine ⟨h1, ?_⟩
      rw [upd_ne fun q => by subst q; exact h2 hn]
      exact h2
    · subst z
      exact ⟨(x.none_of hn).1, by rw [upd_same]; simp⟩
theorem Tr.tip {o : HO} : Tr (Zp Z a) H h (Zp Z a) (upd H a o) h := ⟨fun b u hb e => ⟨hb, by
  rw [upd_ne fun q => hb.2 (.inr q)]
  exact e⟩⟩
theorem RO.tr {Z' : Addr → Prop} (s : Tr Z H h Z' H' h') {ho : HO} {o : O} (x : RO ca K Z H h ho o) : RO ca K Z' H' h' ho o := by
  cases x with
  | lst a => exact .lst (RDs.tr s a)
  | dK a => exact .dK (RDp.tr s a)
  | dT a => exact .dT (RDp.tr s a)
  | ins a => exact .ins (RDp.tr s a)
theorem RDo.tr {Z' : Addr → Prop} (s : Tr Z H h Z' H' h') {x : Option V} {y : Option D} (r : RDo ca K Z H h x y) : RDo ca K Z' H' h' x y := by
  cases r with
  | none => exact .none
  | some r => exact .some (RD.tr s r)
theorem Slots.tr {Z' : Addr → Prop} (s : Tr Z H h Z' H' h') : ∀ {τ : VS} {σ : Sg}, Slots ca K Z H h τ σ → Slots ca K Z' H' h' τ σ
  | _, _, .nil => .nil
  | _, _, .cons a b => .cons (RDo.tr s a) (Slots.tr s b)
theorem Own.tip {o : HO} (x : Own ca K (Zp Z a) H h) : Own ca K (Zp Z a) (upd H a o) h := by
  refine ⟨fun b u e => ?_, fun b z => ?_⟩
  · obtain ⟨ho, e1, r⟩ := x.obj b u e
    have nb : b ≠ a := fun q => by
      subst q
      rw [(x.res b (.inr rfl)).1] at e; cases e
    exact ⟨ho, by rw [upd_ne nb]; exact e1, r.tr Tr.tip⟩
  · obtain ⟨h1, h2⟩ := x.res b z
    refine ⟨h1, ?_⟩
    by_cases hb : b = a
    · subst hb; rw [upd_same]; simp
    · rw [upd_ne hb]; exact h2
/-- what was kept back is owned, or let go -/
theorem Tr.outO {o' : O} : Tr (Zp Z a) H h Z H (hup h a o') := ⟨fun b u hb e => ⟨⟨by rw [hup_ne fun q => hb.2 (.inr q)]; exact hb.1, fun z => hb.2 (.inl z)⟩, e⟩⟩
theorem Tr.outF : Tr (Zp Z a) H h Z H h := ⟨fun b u hb e => ⟨⟨hb.1, fun z => hb.2 (.inl z)⟩, e⟩⟩
theorem Own.outO {o : HO} {o' : O} (x : Own ca K (Zp Z a) H h) (hz : ¬ Z a) (e : H a = some o) (r : RO ca K (Zp Z a) H h o o') : Own ca K Z H (hup h a o') := by
  refine ⟨fun b u e1 => ?_, fun b z => ?_⟩
  · by_cases hb : b = a
    · subst hb
      rw [hup_same] at e1; cases e1
      exact ⟨o, e, r.tr Tr.outO⟩
    · rw [hup_ne hb] at e1
      obtain ⟨ho, e2, r2⟩ := x.obj b u e1
      exact ⟨ho, e2, r2.tr Tr.outO⟩
  · rw [hup_ne fun q => by subst q; exact hz z]
    exact x.res b (.inl z)
theorem Own.outF (x : Own ca K (Zp Z a) H h) : Own ca K Z H h :=
  ⟨fun b u e => let ⟨ho, e2, r2⟩ := x.obj b u e; ⟨ho, e2, r2.tr Tr.outF⟩, fun b z => x.res b (.inl z)⟩
theorem RDs.length : ∀ {vs : List V} {ds : List D}, RDs ca K Z H h vs ds → vs.length = ds.length
  | _, _, .nil => rfl
  | _, _, .cons _ b => congrArg (· + 1) (RDs.length b)
theorem RDs.get : ∀ {vs : List V} {ds : List D} {i : Nat} {d : D}, RDs ca K Z H h vs ds → ds[i]? = some d → ∃ v, vs[i]? = some v ∧ RD ca K Z H h v d
  | _, _, _, _, .nil, e => by simp at e
  | _, _, 0, _, .cons r _, e => by simp at e; subst e; exact ⟨_, rfl, r⟩
  | _, _, i + 1, _, .cons _ t, e => by
    obtain ⟨v, h1, h2⟩ := RDs.get (i := i) t (by simpa using e)
    exact ⟨v, by simpa using h1, h2⟩
theorem RDs.append : ∀ {vs ws : List V} {ds es : List D}, RDs ca K Z H h vs ds → RDs ca K Z H h ws es → RDs ca K Z H h (vs ++ ws) (ds ++ es)
  | _, _, _, _, .nil, s => s
  | _, _, _, _, .cons r t, s => .cons r (RDs.append t s)
theorem RDs.set {v : V} {d : D} (r : RD ca K Z H h v d) : ∀ {vs : List V} {ds : List D} (i : Nat), RDs ca K Z H h vs ds → RDs ca K Z H h (vs.set i v) (ds.set i d)
  | _, _, _, .nil => .nil
  | _, _, 0, .cons _ t => .cons r t
  | _, _, i + 1, .cons q t => .cons q (RDs.set r i t)
theorem RDs.rev : ∀ {vs : List V} {ds : List D}, RDs ca K Z H h vs ds → RDs ca K Z H h vs.reverse ds.reverse
  | _, _, .nil => .nil
  | _, _, .cons a b => by
    rw [List.reverse_cons, List.reverse_cons]
    exact (RDs.rev b).append (.cons a .nil)
theorem RDs.take : ∀ {vs : List V} {ds : List D} (n : Nat), RDs ca K Z H h vs ds → RDs ca K Z H h (vs.take n) (ds.take n)
  | _, _, 0, _ => .nil
  | _, _, _ + 1, .nil => .nil
  | _, _, n + 1, .cons r t => .cons r (RDs.take n t)
theorem RDs.drop : ∀ {vs : List V} {ds : List D} (n : Nat), RDs ca K Z H h vs ds → RDs ca K Z H h (vs.drop n) (ds.drop n)
  | _, _, 0, r => r
  | _, _, _ + 1, .nil => .nil
  | _, _, n + 1, .cons _ t => RDs.drop n t
/-- an owned list -/
theorem Own.lst (x : Own ca K Z H h) {ds : List D} (e : h a = some (.lst ds)) : ∃ vs, H a = some (.lst vs) ∧ RDs ca K Z H h vs ds := by
  obtain ⟨ho, e1, r⟩ := x.obj a _ e
  cases r with
  | lst r => exact ⟨_, e1, r⟩
theorem Own.dK (x : Own ca K Z H h) {ds : List (Key × D)} (e : h a = some (.dK ds)) : ∃ vs, H a = some (.dK vs) ∧ RDp ca K Z H h vs ds := by
  obtain ⟨ho, e1, r⟩ := x.obj a _ e
  cases r with
  | dK r => exact ⟨_, e1, r⟩
theorem Own.ins (x : Own ca K Z H h) {c : Nat} {ds : List (Str × D)} (e : h a = some (.ins c ds)) : ∃ dx vs, H a = some (.ins (ca c) dx vs) ∧ RDp ca K Z H h vs ds := by
  obtain ⟨ho, e1, r⟩ := x.obj a _ e
  cases r with
  | ins r => exact ⟨_, _, e1, r⟩
/-- a list that is read, owned or not; a dict -/
theorem asL_ok (x : Own ca K Z H h) {v : V} {d : D} {ds : List D} (r : RD ca K Z H h v d) (e : asL d h = some ds) : ∃ p vs, v = .ref p ∧ H p = some (.lst vs) ∧ RDs ca K Z H h vs ds := by
  cases r with
  | ref p =>
    unfold asL at e
    dsimp only at e
    split at e
    · rename_i xs hx
      cases e
      obtain ⟨vs, h1, h2⟩ := x.lst hx
      exact ⟨_, vs, rfl, h1, h2⟩
    · cases e
  | lst a b c =>
    cases e
    exact ⟨_, _, rfl, b, c⟩
  | _ => cases e
theorem asK_ok (x : Own ca K Z H h) {v : V} {d : D} {ds : List (Key × D)} (r : RD ca K Z H h v d) (e : asK d h = some ds) : ∃ p vs, v = .ref p ∧ Rd H p (.dK vs) ∧ RDp ca K Z H h vs ds := by
  cases r with
  | ref p =>
    unfold asK at e
    dsimp only at e
    split at e
    · rename_i xs hx
      cases e
      obtain ⟨vs, h1, h2⟩ := x.dK hx
      exact ⟨_, vs, rfl, .inl h1, h2⟩
    · cases e
  | dK a b c =>
    cases e
    exact ⟨_, _, rfl, b, c⟩
  | _ => cases e
theorem optP_some {α : Type} {o : Option α} {R : α → Prop} (p : optP o R) : ∃ a, o = some a ∧ R a := by
  cases o with
  | none => exact p.elim
  | some a => exact ⟨a, rfl, p⟩
end

/-- an exception of the class c with the fields fs -/
def XR (ca : Nat → Addr) (K : PySem.W.Frag) (Z : Addr → Prop) (H : Hp) (h : Hd) (cls : Value) (dd : Option Addr) (c : Nat) (fs : List (Str × D)) : Prop :=
  cls = .ref (ca c) ∧ match dd with
    | none => fs = []
    | some d => ∃ fvs, H d = some (.xd fvs) ∧ RDp ca K Z H h fvs fs

theorem XR.tr {ca : Nat → Addr} {K : PySem.W.Frag} {Z Z' : Addr → Prop} {H : Hp} {h : Hd} {cls : Value} {dd : Option Addr} {c : Nat} {fs : List (Str × D)} (s : Tr Z H h Z' H h) (x : XR ca K Z H h cls dd c fs) : XR ca K Z' H h cls dd c fs := by
  obtain ⟨e, x⟩ := x
  refine ⟨e, ?_⟩
  cases dd with
  | none => exact x
  | some d =>
    obtain ⟨fvs, h1, h2⟩ := x
    exact ⟨fvs, h1, RDp.tr s h2⟩
section
variable {ca : Nat → Addr} {K : PySem.W.Frag} {Z : Addr → Prop} {H H' H2 : Hp} {h h' h2 : Hd} {τ : VS} {σ : Sg} {a : Addr}
theorem Mv.fin (m : Mv Z H h (Zp Z a) H' h') (t : Tr (Zp Z a) H' h' Z H2 h2) (r : ∀ b, Z b → H2 b = H' b) : Stp Z H h H2 h2 :=
  ⟨fun b o hb e => by
    obtain ⟨f1, e1⟩ := m.keep b o hb e
    exact t.keep b o f1 e1, fun b z => (r b z).trans (m.res b z)⟩
theorem Mv.on (m : Mv Z H h (Zp Z a) H' h') (s : Stp (Zp Z a) H' h' H2 h2) : Mv Z H h (Zp Z a) H2 h2 := m.thn (fun _ z => .inl z) s
theorem Rel.outF (R : Rel ca K (Zp Z a) H h τ σ) : Rel ca K Z H h τ σ := ⟨R.own.outF, R.env.tr Tr.outF⟩
end
/-- an expression's reading -/
def tX (T : Tb) (ca : Nat → Addr) (K : PySem.W.Frag) (W : WX) (ir : Ex) : TE := fun τ H Q => ∃ (σ : Sg) (h : Hd) (Z : Addr → Prop) (QD : PQ) (ED : PX), Rel ca K Z H h τ σ ∧ wpE T ir σ h QD ED ∧
  (∀ v d H' h', Rel ca K Z H' h' τ σ → Stp Z H h H' h' → RD ca K Z H' h' v d → QD d h' → Q v H') ∧
  (∀ cls dd c fs H' h', Rel ca K Z H' h' τ σ → Stp Z H h H' h' → XR ca K Z H' h' cls dd c fs → ED c fs h' → W cls dd τ H')
/-- a test's reading -/
def tXT (T : Tb) (ca : Nat → Addr) (K : PySem.W.Frag) (W : WX) (ir : Ex) : TT := fun τ H Q => ∃ (σ : Sg) (h : Hd) (Z : Addr → Prop) (QD : Bool → Hd → Prop) (ED : PX), Rel ca K Z H h τ σ ∧ wpT T ir σ h QD ED ∧
  (∀ b H' h', Rel ca K Z H' h' τ σ → Stp Z H h H' h' → QD b h' → Q b H') ∧
  (∀ cls dd c fs H' h', Rel ca K Z H' h' τ σ → Stp Z H h H' h' → XR ca K Z H' h' cls dd c fs → ED c fs h' → W cls dd τ H')
def Exs.len : Exs → Nat
  | .nil => 0
  | .cons _ es => es.len + 1
/-- an argument list's reading -/
def tXs (T : Tb) (ca : Nat → Addr) (K : PySem.W.Frag) (W : WX) (ir : Exs) : TA := fun τ H Q => ∃ (σ : Sg) (h : Hd) (Z : Addr → Prop) (QD : List D → Hd → Prop) (ED : PX), Rel ca K Z H h τ σ ∧ wpEs T ir σ h QD ED ∧
  (∀ vs ds H' h', Rel ca K Z H' h' τ σ → Stp Z H h H' h' → RDs ca K Z H' h' vs ds → ds.length = ir.len → QD ds h' → Q vs H') ∧
  (∀ cls dd c fs H' h', Rel ca K Z H' h' τ σ → Stp Z H h H' h' → XR ca K Z H' h' cls dd c fs → ED c fs h' → W cls dd τ H')
theorem pe_weak {X : Cx} {e : Expr} {t t' : TE} (p : PE X e t) (w : ∀ τ H Q, t' τ H Q → t τ H Q) : PE X e t' := ⟨fun pins s σ H Q I q => p.run pins s σ H Q I (w _ _ _ q)⟩
theorem pt_weak {X : Cx} {e : Expr} {t t' : TT} (p : PT X e t) (w : ∀ τ H Q, t' τ H Q → t τ H Q) : PT X e t' := ⟨fun pins s σ H Q I q => p.run pins s σ H Q I (w _ _ _ q)⟩
theorem pw_weak {X : Cx} {e : Expr} {t t' : TT} (p : PW X e t) (w : ∀ τ H Q, t' τ H Q → t τ H Q) : PW X e t' := ⟨fun wh pins s σ H Q I q => p.run wh pins s σ H Q I (w _ _ _ q)⟩
theorem pa_weak {X : Cx} {e : List Expr} {t t' : TA} (p : PA X e t) (w : ∀ τ H Q, t' τ H Q → t τ H Q) : PA X e t' := ⟨fun pos pins s σ H Q I q => p.run pos pins s σ H Q I (w _ _ _ q)⟩
section
variable {T : Tb} {ca : Nat → Addr} {K : PySem.W.Frag} {W : WX} {Z : Addr → Prop} {H : Hp} {h : Hd} {τ : VS} {σ : Sg}
/-- two expressions, one after the other -/
theorem two {a b : Ex} {P : D → D → Hd → Prop} {ED : PX} {R : V → V → Hp → Prop} (r : Rel ca K Z H h τ σ) (w : wpE T a σ h (fun x h1 => wpE T b σ h1 (fun y h2 => P x y h2) ED) ED)
    (k : ∀ x y v u H2 h2, Rel ca K Z H2 h2 τ σ → Stp Z H h H2 h2 → RD ca K Z H2 h2 v x → RD ca K Z H2 h2 u y → P x y h2 → R v u H2)
    (ke : ∀ cls dd c fs H' h', Rel ca K Z H' h' τ σ → Stp Z H h H' h' → XR ca K Z H' h' cls dd c fs → ED c fs h' → W cls dd τ H') :
    tX T ca K W a τ H fun v H1 => tX T ca K W b τ H1 fun u H2 => R v u H2 := by
  refine ⟨σ, h, Z, _, ED, r, w, fun v x H1 h1 r1 s1 rx q => ⟨σ, h1, Z, _, ED, r1, q, fun u y H2 h2 r2 s2 ry q2 => ?_, fun cls dd c fs H2 h2 r2 s2 => ke cls dd c fs H2 h2 r2 (s1.trans s2)⟩, ke⟩
  exact k x y v u H2 h2 r2 (s1.trans s2) (rx.stp s2) ry q2
theorem one {a : Ex} {P : D → Hd → Prop} {ED : PX} {R : V → Hp → Prop} (r : Rel ca K Z H h τ σ) (w : wpE T a σ h P ED)
    (k : ∀ x v H1 h1, Rel ca K Z H1 h1 τ σ → Stp Z H h H1 h1 → RD ca K Z H1 h1 v x → P x h1 → R v H1)
    (ke : ∀ cls dd c fs H' h', Rel ca K Z H' h' τ σ → Stp Z H h H' h' → XR ca K Z H' h' cls dd c fs → ED c fs h' → W cls dd τ H') : tX T ca K W a τ H R :=
  ⟨σ, h, Z, P, ED, r, w, fun v x H1 h1 r1 s1 rx q => k x v H1 h1 r1 s1 rx q, ke⟩
end
end Rt

namespace Rt
open PySem PySem.Spec PyProof.Rows L2

section
variable {ca : Nat → Addr} {K : PySem.W.Frag} {Z : Addr → Prop}
/-- an operation of two values that leaves the owned heap as it is -/
def rB (ca : Nat → Addr) (K : PySem.W.Frag) (P : D → D → Hd → (D → Prop) → Prop) : R2 := fun v u H Q => ∃ (h : Hd) (Z : Addr → Prop) (x y : D) (R : D → Prop), Own ca K Z H h ∧ RD ca K Z H h v x ∧ RD ca K Z H h u y ∧ P x y h R ∧
  ∀ z w H', Stp Z H h H' h → Own ca K Z H' h → RD ca K Z H' h w z → R z → Q w H'
theorem okB {X : Cx} {f : Value → Value → Sem Value} {P : D → D → Hd → (D → Prop) → Prop}
    (go : ∀ (pins : List (Addr × Obj)) (s : Shared) (τ : VS) (H : Hp) (h : Hd) (Z : Addr → Prop) (x y : D) (v u : V) (v' u' : Value) (R : D → Prop) (Q : VK), Inv X pins τ H s → RelV v v' → RelV u u' → Own ca X.K Z H h → RD ca X.K Z H h v x → RD ca X.K Z H h u y → P x y h R →
      (∀ z w H', Stp Z H h H' h → Own ca X.K Z H' h → RD ca X.K Z H' h w z → R z → Q w H') → wpAny (model X.prog X.w) X.A (f v' u') (EP X pins τ Q) X.xe s) :
    OpR X f (rB ca X.K P) := by
  intro pins s τ H v u v' u' Q I rv ru hq
  obtain ⟨h, Z, x, y, R, o, rx, ry, p, k⟩ := hq
  exact go pins s τ H h Z x y v u v' u' R Q I rv ru o rx ry p k
theorem op_bin {X : Cx} (o : Operator) : OpR X (binaryOp o) (rB ca X.K (binP o)) := okB fun pins s τ H h Z x y v u v' u' R Q I rv ru own rx ry p k => by
  have id2 : ∀ z w, RD ca X.K Z H h w z → R z → Q w H := fun z w r q => k z w H Stp.refl own r q
  cases o with
  | Sub =>
    dsimp only [binP] at p
    split at p
    · cases rx; cases ry
      exact op_sub pins s τ H _ _ v' u' Q I rv ru ⟨_, _, rfl, rfl, id2 _ _ (.int _) p⟩
    · exact p.elim
  | Mult =>
    dsimp only [binP] at p
    split at p
    · cases rx; cases ry
      exact op_mul pins s τ H _ _ v' u' Q I rv ru ⟨_, _, rfl, rfl, p.1, id2 _ _ (.int _) p.2⟩
    · exact p.elim
  | FloorDiv =>
    dsimp only [binP] at p
    split at p
    · cases rx; cases ry
      exact op_fdiv pins s τ H _ _ v' u' Q I rv ru ⟨_, _, rfl, rfl, p.1, id2 _ _ (.int _) p.2⟩
    · exact p.elim
  | Mod =>
    dsimp only [binP] at p
    split at p
    · cases rx; cases ry
      exact op_mod pins s τ H _ _ v' u' Q I rv ru ⟨_, _, rfl, rfl, p.1, id2 _ _ (.int _) p.2⟩
    · exact p.elim
  | Pow =>
    dsimp only [binP] at p
    split at p
    · cases rx; cases ry
      exact op_pow pins s τ H _ _ v' u' Q I rv ru ⟨_, _, rfl, rfl, p.1, id2 _ _ (.int _) p.2⟩
    · exact p.elim
  | Add =>
    dsimp only [binP] at p
    split at p
    · cases rx; cases ry
      exact op_add pins s τ H _ _ v' u' Q I rv ru ⟨_, _, rfl, rfl, id2 _ _ (.int _) p⟩
    · cases rx; cases ry
      exact op_add_str pins s τ H _ _ v' u' Q I rv ru ⟨_, _, rfl, rfl, p.1, id2 _ _ (.str _) p.2⟩
    · obtain ⟨xs, ex, p⟩ := optP_some p
      obtain ⟨ys, ey, p⟩ := optP_some p
      · obtain ⟨a, vs, rfl, sa, ra⟩ := asL_ok own rx ex
        obtain ⟨b, us, rfl, sb, rb⟩ := asL_ok own ry ey
        refine op_cat pins s τ H _ _ v' u' Q I rv ru ⟨_, _, _, _, rfl, rfl, sa, sb, by rw [ra.length, rb.length]; exact p.1, fun q hq => ?_⟩
        have st : Stp Z H h (upd H q (.lst (vs ++ us))) h := Stp.fresh own hq
        exact k _ _ _ st (own.fresh hq) (.lst (own.none_of hq) upd_same ((ra.append rb).stp st)) p.2
  | _ => exact p.elim

/-! ### data as the layer's data -/
mutual
theorem dp_of {H : Hp} {h : Hd} : ∀ (d : D) {v : V}, RD ca K Z H h v d → isP d = true → Dp K H v (toP d)
  | .non, _, r, _ => by cases r; exact .non
  | .bl b, _, r, _ => by cases r; exact .bl b
  | .int i, _, r, _ => by cases r; exact .int i
  | .str s, _, r, _ => by cases r; exact .str s
  | .tup ds, _, r, e => by
    cases r with
    | tup a b => exact .tup a.sq (dps_of ds b e)
  | .lst ds, _, r, e => by
    cases r with
    | lst n a b => exact .lst (SqL.of a) (dps_of ds b e)
  | .dK _, _, _, e => nomatch e
  | .dT _, _, _, e => nomatch e
  | .ins _ _, _, _, e => nomatch e
  | .ref _, _, _, e => nomatch e
  | .ty _, _, _, e => nomatch e
  | .cls _, _, _, e => nomatch e
  | .scr _, _, _, e => nomatch e
theorem dps_of {H : Hp} {h : Hd} : ∀ (ds : List D) {vs : List V}, RDs ca K Z H h vs ds → isPs ds = true → DpAll K H vs (toPs ds)
  | [], _, r, _ => by cases r; exact .nil
  | d :: ds, _, r, e => by
    cases r with
    | cons a b =>
      have e' : (isP d && isPs ds) = true := e
      rw [Bool.and_eq_true] at e'
      exact .cons (dp_of d a e'.1) (dps_of ds b e'.2)
end
theorem dp_rd {H : Hp} {h : Hd} (own : Own ca K Z H h) {v : V} {d : D} (r : RD ca K Z H h v d) (e : isP (rdO d h) = true) : Dp K H v (toP (rdO d h)) := by
  cases r with
  | ref p =>
    unfold rdO at e ⊢
    split at e
    · rename_i q heq
      cases heq
      split at e
      · rename_i xs hx
        obtain ⟨vs, h1, h2⟩ := own.lst hx
        exact .lst (SqL.of h1) (dps_of _ h2 e)
      · cases e
    · rename_i hne
      exact absurd rfl (hne _)
  | non => exact .non
  | bl b => exact .bl b
  | int i => exact .int i
  | str s => exact .str s
  | tup a b => exact dp_of _ (.tup a b) e
  | lst a b c => exact dp_of _ (.lst a b c) e
  | _ => cases e
/-- a comparison that leaves the owned heap as it is -/
theorem eq_go {X : Cx} (hu : X.A.units + 64 < cLine) (neg : Bool) {pins : List (Addr × Obj)} {s : Shared} {τ : VS} {H : Hp} {h : Hd} {x y : D} {v u : V} {v' u' : Value} {R : Bool → Prop} {Q : VK} (I : Inv X pins τ H s) (rv : RelV v v') (ru : RelV u u')
    (own : Own ca X.K Z H h) (rx : RD ca X.K Z H h v x) (ry : RD ca X.K Z H h u y) (p : eqP x y h R) (k : ∀ b, R b → Q (.bl (if neg then !b else b)) H) :
    wpAny (model X.prog X.w) X.A (compareOp (if neg then .NotEq else .Eq) v' u') (EP X pins τ Q) X.xe s := by
  have gen : okEq (rdO x h) → okEq (rdO y h) → R (PyData.eqv (toP (rdO x h)) (toP (rdO y h))) → wpAny (model X.prog X.w) X.A (compareOp (if neg then .NotEq else .Eq) v' u') (EP X pins τ Q) X.xe s := fun o1 o2 q => by
    cases neg with
    | true => exact op_neD hu pins s τ H _ _ v' u' Q I rv ru ⟨_, _, dp_rd own rx o1.1, dp_rd own ry o2.1, o1.2, o2.2, k _ q⟩
    | false => exact op_eqD hu pins s τ H _ _ v' u' Q I rv ru ⟨_, _, dp_rd own rx o1.1, dp_rd own ry o2.1, o1.2, o2.2, k _ q⟩
  unfold eqP at p
  split at p
  · rename_i bb eb
    unfold fastEq at eb
    split at eb <;> first | cases eb | skip
    · cases rx; cases ry
      cases neg with
      | true =>
        refine op_ne pins s τ H _ _ v' u' Q I rv ru ⟨rfl, ?_⟩
        have q := k _ p
        rwa [dec_int, Bool.beq_eq_decide_eq]
      | false =>
        refine op_eq pins s τ H _ _ v' u' Q I rv ru ⟨rfl, ?_⟩
        have q := k _ p
        rwa [dec_int, Bool.beq_eq_decide_eq]
    · cases rx; cases ry
      cases neg with
      | true =>
        refine op_ne pins s τ H _ _ v' u' Q I rv ru ⟨rfl, ?_⟩
        have q := k _ p
        rwa [dec_str, Bool.beq_eq_decide_eq]
      | false =>
        refine op_eq pins s τ H _ _ v' u' Q I rv ru ⟨rfl, ?_⟩
        have q := k _ p
        rwa [dec_str, Bool.beq_eq_decide_eq]
    · cases rx; cases ry
      cases neg with
      | true =>
        refine op_ne pins s τ H _ _ v' u' Q I rv ru ⟨rfl, ?_⟩
        have q := k _ p
        rwa [dec_bl, Bool.beq_eq_decide_eq]
      | false =>
        refine op_eq pins s τ H _ _ v' u' Q I rv ru ⟨rfl, ?_⟩
        have q := k _ p
        rwa [dec_bl, Bool.beq_eq_decide_eq]
    · cases rx; cases ry
      cases neg with
      | true => exact op_ne pins s τ H _ _ v' u' Q I rv ru ⟨rfl, by simpa using k _ p⟩
      | false => exact op_eq pins s τ H _ _ v' u' Q I rv ru ⟨rfl, by simpa using k _ p⟩
  · exact gen p.1 p.2.1 p.2.2
theorem optP_mono {α : Type} {o : Option α} {R R' : α → Prop} (p : optP o R) (k : ∀ a, R a → R' a) : optP o R' := by
  cases o with
  | none => exact p.elim
  | some a => exact k a p
theorem eqP_mono {x y : D} {h : Hd} {R R' : Bool → Prop} (p : eqP x y h R) (k : ∀ b, R b → R' b) : eqP x y h R' := by
  unfold eqP at p ⊢
  split at p
  · exact k _ p
  · exact ⟨p.1, p.2.1, k _ p.2.2⟩
theorem cmpP_mono {o : CmpOp} {x y : D} {h : Hd} {R R' : Bool → Prop} (p : cmpP o x y h R) (k : ∀ b, R b → R' b) : cmpP o x y h R' := by
  cases o with
  | Eq => exact eqP_mono p k
  | NotEq => exact eqP_mono p fun b => k _
  | Is => exact optP_mono p k
  | IsNot => exact optP_mono p fun b => k _
  | _ => exact optP_mono p k
theorem isE_ok {H : Hp} {h : Hd} {v u : V} {x y : D} {b : Bool} (rx : RD ca K Z H h v x) (ry : RD ca K Z H h u y) (e : isE x y = some b) : u = .non ∧ decide (v = .non) = b := by
  unfold isE at e
  split at e <;> first | cases e | skip
  all_goals (cases ry; cases rx <;> exact ⟨rfl, by simp⟩)
/-- the comparison's answer is a bool -/
def cP (o : CmpOp) : D → D → Hd → (D → Prop) → Prop := fun x y h R => cmpP o x y h fun b => R (.bl b)
theorem op_cmp {X : Cx} (hu : X.A.units + 64 < cLine) (o : CmpOp) : OpR X (compareOp o) (rB ca X.K (cP o)) := okB fun pins s τ H h Z x y v u v' u' R Q I rv ru own rx ry p k => by
  have id2 : ∀ b, R (.bl b) → Q (.bl b) H := fun b q => k (.bl b) (.bl b) H Stp.refl own (.bl b) q
  cases o with
  | Eq => exact eq_go hu false (R := fun b => R (.bl b)) I rv ru own rx ry p fun b q => id2 b q
  | NotEq => exact eq_go hu true (R := fun b => R (.bl (!b))) I rv ru own rx ry p fun b q => id2 _ q
  | Lt =>
    obtain ⟨b, e, p⟩ := optP_some (show optP (ordE .Lt x y) (fun b => R (.bl b)) from p)
    unfold ordE at e
    split at e <;> cases e
    cases rx; cases ry
    exact op_lt pins s τ H _ _ v' u' Q I rv ru ⟨_, _, rfl, rfl, id2 _ p⟩
  | LtE =>
    obtain ⟨b, e, p⟩ := optP_some (show optP (ordE .LtE x y) (fun b => R (.bl b)) from p)
    unfold ordE at e
    split at e <;> cases e
    cases rx; cases ry
    exact op_le pins s τ H _ _ v' u' Q I rv ru ⟨_, _, rfl, rfl, id2 _ p⟩
  | Gt =>
    obtain ⟨b, e, p⟩ := optP_some (show optP (ordE .Gt x y) (fun b => R (.bl b)) from p)
    unfold ordE at e
    split at e <;> cases e
    cases rx; cases ry
    exact op_gt pins s τ H _ _ v' u' Q I rv ru ⟨_, _, rfl, rfl, id2 _ p⟩
  | GtE =>
    obtain ⟨b, e, p⟩ := optP_some (show optP (ordE .GtE x y) (fun b => R (.bl b)) from p)
    unfold ordE at e
    split at e <;> cases e
    cases rx; cases ry
    exact op_ge pins s τ H _ _ v' u' Q I rv ru ⟨_, _, rfl, rfl, id2 _ p⟩
  | Is =>
    obtain ⟨b, e, p⟩ := optP_some (show optP (isE x y) (fun b => R (.bl b)) from p)
    obtain ⟨h1, h2⟩ := isE_ok rx ry e
    subst h1
    cases (show u' = Value.none from ru)
    refine is_none_gen ⟨.bl _, H, I, by rw [rv.none_iff]; rfl, ?_⟩
    rw [h2]
    exact id2 _ p
  | IsNot =>
    obtain ⟨b, e, p⟩ := optP_some (show optP (isE x y) (fun b => R (.bl (!b))) from p)
    obtain ⟨h1, h2⟩ := isE_ok rx ry e
    subst h1
    cases (show u' = Value.none from ru)
    refine isnot_none_gen ⟨.bl _, H, I, by rw [rv.none_iff]; rfl, ?_⟩
    rw [h2]
    exact id2 _ p
  | In =>
    obtain ⟨b, e, p⟩ := optP_some (show optP (ordE .In x y) (fun b => R (.bl b)) from p)
    unfold ordE at e
    split at e <;> cases e
  | NotIn =>
    obtain ⟨b, e, p⟩ := optP_some (show optP (ordE .NotIn x y) (fun b => R (.bl b)) from p)
    unfold ordE at e
    split at e <;> cases e

/-! ### dicts -/
theorem RDp.get {H : Hp} {h : Hd} {κ : Type} [DecidableEq κ] {k : κ} {d : D} : ∀ {vs : List (κ × V)} {ds : List (κ × D)}, RDp ca K Z H h vs ds → dget ds k = some d → ∃ v, valV vs k = some v ∧ RD ca K Z H h v d
  | _, _, .nil, e => by simp [dget] at e
  | (q, v) :: vs, (_, d') :: ds, .cons a b, e => by
    by_cases hk : q = k
    · rw [valV_pos (p := (q, v)) hk]
      have e' : dget ((q, d') :: ds) k = some d' := by simp [dget, List.find?_cons, hk]
      rw [e'] at e; cases e
      exact ⟨v, rfl, a⟩
    · rw [valV_neg (p := (q, v)) hk]
      have e' : dget ((q, d') :: ds) k = dget ds k := by simp [dget, List.find?_cons, hk]
      rw [e'] at e
      exact RDp.get b e
theorem RDp.length {H : Hp} {h : Hd} {κ : Type} : ∀ {vs : List (κ × V)} {ds : List (κ × D)}, RDp ca K Z H h vs ds → vs.length = ds.length
  | _, _, .nil => rfl
  | _, _, .cons _ b => congrArg (· + 1) (RDp.length b)
theorem RDp.any {H : Hp} {h : Hd} {κ : Type} {p : κ → Bool} : ∀ {vs : List (κ × V)} {ds : List (κ × D)}, RDp ca K Z H h vs ds → vs.any (fun kv => p kv.1) = ds.any (fun kv => p kv.1)
  | _, _, .nil => rfl
  | (q, v) :: vs, (_, d') :: ds, .cons a b => by
    rw [List.any_cons, List.any_cons, RDp.any b]
theorem RDp.upd {H : Hp} {h : Hd} {κ : Type} [DecidableEq κ] {k : κ} {d : D} {v : V} (r : RD ca K Z H h v d) : ∀ {vs : List (κ × V)} {ds : List (κ × D)}, RDp ca K Z H h vs ds →
    RDp ca K Z H h (vs.map fun kv => if kv.1 = k then (kv.1, v) else kv) (ds.map fun kv => if kv.1 = k then (kv.1, d) else kv)
  | _, _, .nil => .nil
  | (q, v') :: vs, (_, d') :: ds, .cons a b => by
    rw [List.map_cons, List.map_cons]
    by_cases hk : q = k
    · simp only [hk, if_true]
      exact .cons r (RDp.upd r b)
    · simp only [hk, if_false]
      exact .cons a (RDp.upd r b)
theorem RDp.snoc {H : Hp} {h : Hd} {κ : Type} {k : κ} {d : D} {v : V} (r : RD ca K Z H h v d) : ∀ {vs : List (κ × V)} {ds : List (κ × D)}, RDp ca K Z H h vs ds → RDp ca K Z H h (vs ++ [(k, v)]) (ds ++ [(k, d)])
  | _, _, .nil => .cons r .nil
  | _, _, .cons a b => .cons a (RDp.snoc r b)
theorem RDp.put {H : Hp} {h : Hd} {κ : Type} [DecidableEq κ] {k : κ} {d : D} {v : V} (r : RD ca K Z H h v d) {vs : List (κ × V)} {ds : List (κ × D)} (x : RDp ca K Z H h vs ds) : RDp ca K Z H h (putK vs k v) (dput ds k d) := by
  unfold putK dput
  rw [RDp.any (p := fun q => decide (q = k)) x]
  split
  · exact x.upd r
  · exact x.snoc r

/-! ### subscripts -/
theorem ix_dct {X : Cx} (hu : X.A.units + 1 < cLine) : IxR X (fun x y H Q => ∃ a v, x = .ref a ∧ DGet H a y (some v) ∧ Q v H) := by
  intro value slice pins s τ H x y v u Q I rx ry hq hs
  obtain ⟨a, z, rfl, g, q⟩ := hq
  cases (show v = Value.ref a from rx)
  exact tail_any (dict_typeIs I g) slot_dict_getitem.lookup (d_getItem hu I g ry fun w' s' I' r' => ⟨z, H, I', r', q⟩) hs
theorem getAt {H : Hp} {h : Hd} {vs : List V} {ds : List D} {i : Int} {d : D} (r : RDs ca K Z H h vs ds) (e : atI ds i = some d) : ∃ v, atI vs i = some v ∧ RD ca K Z H h v d := by
  unfold atI at e ⊢
  rw [r.length]
  cases q : ixN ds.length i with
  | none => rw [q] at e; cases e
  | some j =>
    rw [q] at e
    exact r.get e
theorem keyO_ok {H : Hp} {h : Hd} {v : V} {d : D} {k : Key} (r : RD ca K Z H h v d) (e : keyO d = some k) : v = kV k := by
  cases r <;> cases e <;> rfl
theorem ix_all {X : Cx} (hu : X.A.units + 1 < cLine) : IxR X (rB ca X.K idxP) := by
  intro value slice pins s τ H v u v' u' Q I rv ru hq hs
  obtain ⟨h, Z, x, y, R, own, rx, ry, p, k⟩ := hq
  have id2 : ∀ z w, RD ca X.K Z H h w z → R z → Q w H := fun z w r q => k z w H Stp.refl own r q
  unfold idxP at p
  split at p
  · split at p
    · obtain ⟨d, e, p⟩ := optP_some p
      cases ry
      cases rx with
      | tup a b =>
        obtain ⟨w, e1, r1⟩ := getAt b e
        exact ix_tup value slice pins s τ H _ _ v' u' Q I rv ru ⟨_, _, _, _, rfl, rfl, a.sq, e1, id2 _ _ r1 p⟩ hs
    · exact p.elim
  · split at p
    · obtain ⟨hz, p⟩ := p
      obtain ⟨c, e, p⟩ := optP_some p
      cases ry
      cases rx
      exact ix_str value slice pins s τ H _ _ v' u' Q I rv ru ⟨_, _, _, rfl, rfl, hz, e, id2 _ _ (.str _) p⟩ hs
    · exact p.elim
  · split at p
    · rename_i xs e0
      split at p
      · obtain ⟨d, e, p⟩ := optP_some p
        cases ry
        obtain ⟨q, vs, rfl, hl, rl⟩ := asL_ok own rx e0
        obtain ⟨w, e1, r1⟩ := getAt rl e
        exact ix_list value slice pins s τ H _ _ v' u' Q I rv ru ⟨_, _, _, _, rfl, rfl, SqL.of hl, e1, id2 _ _ r1 p⟩ hs
      · exact p.elim
    · split at p
      · rename_i kvs e0
        obtain ⟨ky, ek, p⟩ := optP_some p
        obtain ⟨d, e, p⟩ := optP_some p
        obtain ⟨q, vs, rfl, hl, rl⟩ := asK_ok own rx e0
        obtain ⟨w, e1, r1⟩ := RDp.get rl e
        exact ix_dct hu value slice pins s τ H _ _ v' u' Q I rv ru ⟨_, w, rfl, .inl ⟨_, ky, hl, keyO_ok ry ek, e1.symm⟩, id2 _ _ r1 p⟩ hs
      · exact p.elim

/-! ### truth -/
theorem RDs.empty {H : Hp} {h : Hd} {vs : List V} {ds : List D} (r : RDs ca K Z H h vs ds) : vs.isEmpty = ds.isEmpty := by
  cases r <;> rfl
theorem tru_all {H : Hp} {h : Hd} (own : Own ca K Z H h) {x : D} {v : V} {R : Bool → Prop} (r : RD ca K Z H h v x) (p : truP x h R) : ∃ b, TruV K v H b ∧ R b := by
  unfold truP at p
  split at p
  · cases r; exact ⟨_, rfl, p⟩
  · cases r; exact ⟨_, rfl, p⟩
  · cases r; exact ⟨_, rfl, p⟩
  · cases r; exact ⟨_, ⟨p.1, rfl⟩, p.2⟩
  · cases r with
    | tup a b => exact ⟨_, .inr (.inl ⟨_, a.sq, rfl⟩), by rw [b.empty]; exact p⟩
  · obtain ⟨xs, e, p⟩ := optP_some p
    obtain ⟨q, vs, rfl, hl, rl⟩ := asL_ok own r e
    exact ⟨_, .inl ⟨_, SqL.of hl, rfl⟩, by rw [rl.empty]; exact p⟩

/-! ### calls of built-ins, by values -/
/-- a call of a built-in that leaves the owned heap as it is -/
def rC (ca : Nat → Addr) (K : PySem.W.Frag) (P : List D → Hd → (D → Prop) → Prop) : List V → Hp → VK → Prop := fun vs H Q => ∃ (h : Hd) (Z : Addr → Prop) (xs : List D) (R : D → Prop), Own ca K Z H h ∧ RDs ca K Z H h vs xs ∧ P xs h R ∧
  ∀ z w H', Stp Z H h H' h → Own ca K Z H' h → RD ca K Z H' h w z → R z → Q w H'
theorem okC {X : Cx} {f : Value} {P : List D → Hd → (D → Prop) → Prop}
    (go : ∀ (pins : List (Addr × Obj)) (s : Shared) (τ : VS) (H : Hp) (h : Hd) (Z : Addr → Prop) (xs : List D) (vs : List V) (us : List Value) (R : D → Prop) (Q : VK), Inv X pins τ H s → Vals vs us → Own ca X.K Z H h → RDs ca X.K Z H h vs xs → P xs h R →
      (∀ z w H', Stp Z H h H' h → Own ca X.K Z H' h → RD ca X.K Z H' h w z → R z → Q w H') → wpAny (model X.prog X.w) X.A (call f us) (EP X pins τ Q) X.xe s) :
    CallR X f (rC ca X.K P) := by
  intro pins s τ H vs us Q I rv hq
  obtain ⟨h, Z, xs, R, o, rx, p, k⟩ := hq
  exact go pins s τ H h Z xs vs us R Q I rv o rx p k
/-- repr, of data -/
theorem repr_dp {X : Cx} (hg : X.A.guards = some []) (hu : X.A.units + 70 < cLine) {pins : List (Addr × Obj)} {s : Shared} {τ : VS} {H : Hp} {v : V} {u : Value} {d : PyData} {Q : VK} (I : Inv X pins τ H s) (rv : RelV v u) (r : Dp X.K H v d) (hs : d.showable = true) (hd : d.depth ≤ 64)
    (hz : d.shown.length ≤ sizeLine) (nd : d.hasDict = false) (q : Q (.str d.shown) H) : wpAny (model X.prog X.w) X.A (call (.builtin "repr") [u]) (EP X pins τ Q) X.xe s := by
  have big : ∀ {a : Addr} {d : PyData} {as : List Addr}, Reads s.heap (.ref a) d as → d.showable = true → d.depth ≤ 64 → d.shown.length ≤ sizeLine → d.hasDict = false → Q (.str d.shown) H → wpAny (model X.prog X.w) X.A (call (.builtin "repr") [.ref a]) (EP X pins τ Q) X.xe s :=
    fun {a d as} rd hs hd hz nd q => repr_of_reads' rd hs (PyData.noDict_hsm nd) hg (by omega) (fun _ _ e => e) (fun h' w' tk hk => ⟨.str d.shown, H, I.kept hk, ⟨_, rfl⟩, q⟩) hz
  obtain ⟨as, rd⟩ := Dp.reads I d v u r rv
  cases r with
  | non =>
    cases rv
    exact PySem.P.repr_of_none ⟨.str _, H, I.tok _, ⟨_, rfl⟩, by simpa only [PyData.shown] using q⟩
  | bl b =>
    cases rv
    refine PySem.P.repr_of_bool ⟨.str _, H, I.tok _, ⟨_, rfl⟩, ?_⟩
    have e : (PyData.bool b).shown = (if b then "True" else "False" : Str) := by simp only [PyData.shown]
    rw [e] at q
    exact q
  | int i =>
    obtain ⟨t, rfl⟩ := rv
    refine PySem.P.repr_of_int (by simpa [PyData.showable] using hs) ⟨.str _, H, I.tok _, ⟨_, rfl⟩, by simpa only [PyData.shown] using q⟩
  | str x =>
    obtain ⟨t, rfl⟩ := rv
    exact PySem.P.repr_of_str ⟨.str _, H, I.tok _, ⟨_, rfl⟩, by simpa only [PyData.shown] using q⟩ (by simpa only [PyData.shown] using hz)
  | lst a b =>
    cases rv
    exact big rd hs hd hz nd q
  | tup a b =>
    cases rv
    exact big rd hs hd hz nd q
mutual
theorem noDict_of : ∀ d : D, isP d = true → (toP d).hasDict = false
  | .non, _ => by simp only [toP, PyData.hasDict]
  | .bl _, _ => by simp only [toP, PyData.hasDict]
  | .int _, _ => by simp only [toP, PyData.hasDict]
  | .str _, _ => by simp only [toP, PyData.hasDict]
  | .tup xs, h => by
    simp only [toP, PyData.hasDict]
    exact noDicts_of xs h
  | .lst xs, h => by
    simp only [toP, PyData.hasDict]
    exact noDicts_of xs h
  | .dK _, h => nomatch h
  | .dT _, h => nomatch h
  | .ins _ _, h => nomatch h
  | .ref _, h => nomatch h
  | .ty _, h => nomatch h
  | .cls _, h => nomatch h
  | .scr _, h => nomatch h
theorem noDicts_of : ∀ ds : List D, isPs ds = true → PyData.hasDictAll (toPs ds) = false
  | [], _ => by simp only [toPs, PyData.hasDictAll]
  | d :: ds, h => by
    have e' : (isP d && isPs ds) = true := h
    rw [Bool.and_eq_true] at e'
    simp only [toPs, PyData.hasDictAll, noDict_of d e'.1, noDicts_of ds e'.2, Bool.or_self]
end
theorem RDs.one {H : Hp} {h : Hd} {vs : List V} {x : D} (r : RDs ca K Z H h vs [x]) : ∃ v, vs = [v] ∧ RD ca K Z H h v x := by
  cases r with
  | cons a b => cases b; exact ⟨_, rfl, a⟩
theorem RDs.two {H : Hp} {h : Hd} {vs : List V} {x y : D} (r : RDs ca K Z H h vs [x, y]) : ∃ v u, vs = [v, u] ∧ RD ca K Z H h v x ∧ RD ca K Z H h u y := by
  cases r with
  | cons a b =>
    obtain ⟨u, e, b'⟩ := b.one
    subst e
    exact ⟨_, _, rfl, a, b'⟩
def bfV : Bf → Value
  | .abs => .builtin "abs" | .int => .type "int" | .len => .builtin "len" | .repr => .builtin "repr" | .str => .type "str" | .max2 => .builtin "max" | .min2 => .builtin "min"
  | .max1 => .builtin "max" | .min1 => .builtin "min" | .sum => .builtin "sum" | .all => .builtin "all" | .any => .builtin "any" | .list => .type "list" | .tuple => .type "tuple" | .divmod => .builtin "divmod" | .sorted => .builtin "sorted"
theorem call_bf {X : Cx} (hc : X.calm = true) (hg : X.A.guards = some []) (hu : X.A.units + 70 < cLine) (f : Bf) : CallR X (bfV f) (rC ca X.K (bifP f)) := okC fun pins s τ H h Z xs vs us R Q I rv own rx p k => by
  have id2 : ∀ z w, RD ca X.K Z H h w z → R z → Q w H := fun z w r q => k z w H Stp.refl own r q
  unfold bifP at p
  split at p
  · obtain ⟨v, rfl, r⟩ := rx.one
    cases r
    refine call_abs pins s τ H _ us Q I rv ⟨_, rfl, ?_⟩
    have q := id2 _ _ (.int _) p
    rename_i i
    have e : ((i.natAbs : Nat) : Int) = if i < 0 then -i else i := by split <;> omega
    rw [e] at q
    exact q
  · obtain ⟨v, rfl, r⟩ := rx.one
    cases r
    exact call_int1 pins s τ H _ us Q I rv (.inl ⟨_, rfl, id2 _ _ (.int _) p⟩)
  · obtain ⟨v, rfl, r⟩ := rx.one
    cases r
    exact call_int1 pins s τ H _ us Q I rv (.inr ⟨_, rfl, id2 _ _ (.int _) p⟩)
  · obtain ⟨v, rfl, r⟩ := rx.one
    cases r
    exact call_len pins s τ H _ us Q I rv ⟨_, _, rfl, ⟨p.1, rfl⟩, id2 _ _ (.int _) p.2⟩
  · obtain ⟨v, rfl, r⟩ := rx.one
    cases r with
    | tup a b => exact call_len pins s τ H _ us Q I rv ⟨_, _, rfl, .inr ⟨_, a.sq, rfl⟩, by rw [b.length]; exact id2 _ _ (.int _) p⟩
  · obtain ⟨v, rfl, r⟩ := rx.one
    obtain ⟨ds, e, p⟩ := optP_some p
    obtain ⟨q, ws, rfl, hl, rl⟩ := asL_ok own r e
    exact call_len pins s τ H _ us Q I rv ⟨_, _, rfl, .inl ⟨_, SqL.of hl, rfl⟩, by rw [rl.length]; exact id2 _ _ (.int _) p⟩
  · obtain ⟨v, rfl, r⟩ := rx.one
    obtain ⟨p1, p2, p3, p4, p5⟩ := p
    obtain ⟨u, rfl, ru⟩ := vals1 rv
    exact repr_dp hg hu I ru (dp_rd own r p1) p2 p3 p4 (noDict_of _ p1) (id2 _ _ (.str _) p5)
  · obtain ⟨v, rfl, r⟩ := rx.one
    cases r
    exact call_str_int pins s τ H _ us Q I rv ⟨_, rfl, p.1, id2 _ _ (.str _) p.2⟩
  · obtain ⟨v, u, rfl, r, r'⟩ := rx.two
    cases r; cases r'
    refine call_max2 hc pins s τ H _ us Q I rv ⟨_, _, rfl, ?_⟩
    have q := id2 _ _ (.int _) p
    rename_i i j
    have e : (if j ≤ i then i else j) = if j > i then j else i := by split <;> split <;> omega
    rw [e] at q
    exact q
  · obtain ⟨v, u, rfl, r, r'⟩ := rx.two
    cases r; cases r'
    exact call_min2 hc pins s τ H _ us Q I rv ⟨_, _, rfl, id2 _ _ (.int _) p⟩
  · exact p.elim

/-! ### isinstance -/
theorem ty_of {H : Hp} {h : Hd} (own : Own ca K Z H h) {v : V} {d : D} {t : Vt} (r : RD ca K Z H h v d) (e : vtD d h = some t) : TyX K H v (.type t.nm) := by
  cases r with
  | non => cases e; exact .base .non
  | bl b => cases e; exact .base (.bl b)
  | int i => cases e; exact .base (.int i)
  | str s => cases e; exact .base (.str s)
  | tup a b =>
    cases e
    rcases a with ⟨_, a | ⟨o, a⟩⟩ | ⟨o, its, n, k1, k2, _⟩
    · exact .base (.tup a)
    · exact .fTuple a
    · exact .kTuple k1 k2
  | lst n a b => cases e; exact .base (.lst a)
  | dK n a b =>
    cases e
    rcases a with a | ⟨o, a⟩
    · exact .base (.dK a)
    · exact .fDict a
  | ref p =>
    unfold vtD at e
    dsimp only at e
    split at e
    · rename_i o ho
      obtain ⟨q, h1, r1⟩ := own.obj _ _ ho
      cases r1 with
      | lst _ => cases e; exact .base (.lst h1)
      | dK _ => cases e; exact .base (.dK h1)
      | dT _ => cases e; exact .base (.dT h1)
      | ins _ => cases e
    · cases e
  | _ => cases e
theorem kit_b (t : Vt) (n : Bt) : PySem.W.kitOne K (.type t.nm) (.type n.nm) = some (isaB t n) := kit_ty (by cases t <;> cases n <;> decide +kernel)
theorem kits_b {t : Vt} : ∀ (ns : List Bt), PySem.W.kitAny K (.type t.nm) (ns.map fun n => .type n.nm) = some (ns.any (isaB t))
  | [] => kitAny_nil
  | n :: ns => by
    rw [List.map_cons, List.any_cons]
    refine kitAny_cons (kit_b t n) (fun e => ?_) fun e => ?_
    · rw [e, Bool.false_or]
      exact kits_b ns
    · rw [e, Bool.true_or]

/-! ### methods -/
theorem vals_tail {v : V} {vs : List V} {us : List Value} (r : Vals (v :: vs) us) : ∃ u us', us = u :: us' ∧ RelV v u ∧ Vals vs us' := by
  cases r with
  | cons a b => exact ⟨_, _, rfl, a, b⟩
theorem RDs.last {H : Hp} {h : Hd} : ∀ {vs : List V} {ds : List D} {d : D}, RDs ca K Z H h vs ds → ds.getLast? = some d → ∃ v, vs[vs.length - 1]? = some v ∧ RD ca K Z H h v d
  | vs, ds, d, r, e => by
    rw [List.getLast?_eq_getElem?] at e
    rw [r.length]
    exact r.get e
theorem RDs.dropLast {H : Hp} {h : Hd} {vs : List V} {ds : List D} (r : RDs ca K Z H h vs ds) : RDs ca K Z H h vs.dropLast ds.dropLast := by
  rw [List.dropLast_eq_take, List.dropLast_eq_take, r.length]
  exact r.take _
/-- a method's call: the owned heap may change -/
def rM (ca : Nat → Addr) (K : PySem.W.Frag) (P : D → List D → Hd → (D → Hd → Prop) → Prop) : V → List V → Hp → VK → Prop := fun v vs H Q => ∃ (h : Hd) (Z : Addr → Prop) (x : D) (xs : List D) (R : D → Hd → Prop), Own ca K Z H h ∧ RD ca K Z H h v x ∧ RDs ca K Z H h vs xs ∧ P x xs h R ∧
  ∀ z w H' h', Stp Z H h H' h' → Own ca K Z H' h' → RD ca K Z H' h' w z → R z h' → Q w H'
theorem mt_app {X : Cx} : MtR X "list.append" (rM ca X.K appP) := by
  intro pins s τ H v vs v' us Q I rv rvs hq
  obtain ⟨h, Z, x, xs, R, own, rx, rxs, p, k⟩ := hq
  unfold appP at p
  split at p
  · split at p
    · rename_i a d _ ds hd
      obtain ⟨hz, p⟩ := p
      obtain ⟨w, rfl, rw1⟩ := rxs.one
      cases rx
      obtain ⟨ws, hl, rl⟩ := own.lst hd
      have st : Stp Z H h (upd H _ (.lst (ws ++ [w]))) (hup h _ (.lst (ds ++ [d]))) := Stp.put own hd
      exact mt_append pins s τ H _ _ v' us Q I rv rvs ⟨_, _, _, rfl, rfl, hl, by rw [rl.length]; exact hz, k _ _ _ _ st (own.put hd (.lst (rl.append (.cons rw1 .nil)))) .non p⟩
    · exact p.elim
  · exact p.elim
theorem mt_pop1 {X : Cx} : MtR X "list.pop" (rM ca X.K popP) := by
  intro pins s τ H v vs v' us Q I rv rvs hq
  obtain ⟨h, Z, x, xs, R, own, rx, rxs, p, k⟩ := hq
  unfold popP at p
  split at p
  · split at p
    · rename_i a _ ds hd
      obtain ⟨d, e, p⟩ := optP_some p
      cases rxs
      cases rx
      obtain ⟨ws, hl, rl⟩ := own.lst hd
      obtain ⟨w, h1, r1⟩ := rl.last e
      have st : Stp Z H h (upd H _ (.lst ws.dropLast)) (hup h _ (.lst ds.dropLast)) := Stp.put own hd
      exact mt_pop pins s τ H _ _ v' us Q I rv rvs ⟨_, _, _, rfl, rfl, hl, h1, k _ _ _ _ st (own.put hd (.lst rl.dropLast)) (r1.stp st) p⟩
    · exact p.elim
  · exact p.elim

/-! ### stores -/
theorem set_all {X : Cx} (hu : X.A.units + 1 < cLine) {pins : List (Addr × Obj)} {s : Shared} {τ : VS} {H : Hp} {h : Hd} {vo vi vv : V} {ov iv uv : Value} {o i d : D} {R : Hd → Prop} {Q : Hp → Prop} (I : Inv X pins τ H s) (ro : RelV vo ov) (ri : RelV vi iv) (rv : RelV vv uv)
    (own : Own ca X.K Z H h) (do_ : RD ca X.K Z H h vo o) (di : RD ca X.K Z H h vi i) (dd : RD ca X.K Z H h vv d) (p : setP o i d h R) (k : ∀ H' h', Stp Z H h H' h' → Own ca X.K Z H' h' → R h' → Q H') :
    wpAny (model X.prog X.w) X.A (setItem ov iv uv) (fun _ s' => ∃ H', Inv X pins τ H' s' ∧ Q H') X.xe s := by
  unfold setP at p
  split at p
  · split at p
    · rename_i kvs hk
      obtain ⟨hz, p⟩ := p
      obtain ⟨z, ez, p⟩ := optP_some p
      cases do_
      have ei := keyO_ok di ez
      subst ei
      obtain ⟨vs, h1, r1⟩ := own.dK hk
      cases (show ov = Value.ref _ from ro)
      have st := Stp.put own (H := H) (o := .dK (putK vs z vv)) (o' := .dK (dput kvs z d)) hk
      refine d_setItem hu I (DPut.k h1 (by rw [r1.length]; rw [sizeLine_eq]; omega)) ri rv fun s' I' => ⟨_, I', k _ _ st (own.put hk (.dK (r1.put dd))) p⟩
    · rename_i xs j hk
      split at p
      · rename_i n e
        cases do_; cases di
        obtain ⟨vs, h1, r1⟩ := own.lst hk
        have st := Stp.put own (H := H) (o := .lst (vs.set n vv)) (o' := .lst (xs.set n d)) hk
        exact set_list pins s τ H _ _ _ ov iv uv Q I ro ri rv ⟨_, _, _, n, rfl, rfl, h1, by rw [r1.length]; exact e, k _ _ st (own.put hk (.lst (r1.set dd n))) p⟩
      · exact p.elim
    · exact p.elim
  · exact p.elim
end
end Rt

namespace Rt
open PySem PySem.Spec PyProof.Rows L2

structure FnG (P : Program) (w : World) (K : PySem.W.Frag) (mg : Str → Option Value) (base : Heap) (k : Nat) (f : Addr) (fd : FuncData) (ps : List Str) (sp : Sp) : Prop where
  len : ∀ vs H Q E, sp vs H Q E → vs.length = ps.length
  run : ∀ (A : Around) (outer : List Env) (s : Shared) (H : Hp) (args : Args) (us : List Value) (vs : List V) (Q : VK) (E : XK), Room k A → A.guards = some [] → Env0 P w K mg base A outer s H → BindsTo s fd args (ps.zip us) → Vals vs us → sp vs H Q E →
    codeAny (model P w) A (.call (.ref f) args) (CR (L2.CX P w) outer P w H s Q E) s
theorem FnG.mono {P : Program} {w : World} {K : PySem.W.Frag} {mg : Str → Option Value} {base : Heap} {j k : Nat} {f : Addr} {fd : FuncData} {ps : List Str} {sp : Sp} (F : FnG P w K mg base j f fd ps sp) (h : j ≤ k) : FnG P w K mg base k f fd ps sp :=
  ⟨F.len, fun A outer s H args us vs Q E hr => F.run A outer s H args us vs Q E (hr.mono h)⟩

/-- a def by its body -/
theorem fnG_of {P : Program} {w : World} {K : PySem.W.Frag} {mg : Str → Option Value} {base : Heap} {k : Nat} {f : Addr} {name qual : Str} {params : Arguments} {body : List Stmt} {scope : Scope} {dV kV doc pm cdv ct oc : Value} {an od : Option Addr}
    {osl : Array (Option Value)} {N ps : List Str} {sp : Sp} (lk : K.lookup f = some ⟨oc, od, .func (PySem.W.fnOf name qual params body scope dV kV doc pm an cdv ct), osl⟩) (hcd : PySem.W.codeIn K cdv qual = true) (S : FnScope N ps scope)
    (len : ∀ vs H Q E, sp vs H Q E → vs.length = ps.length)
    (hb : ∀ (A : Around) (outer : List Env) (s : Shared) (H : Hp) (vs : List V) (Q : VK) (E : XK), Room k (A.deeper (envOfC qual scope s.heap.objs.size f cdv)) → A.guards = some [] → sp vs H Q E →
      ∃ t, PSs (cxOf (L2.CX P w) P w K mg base N qual scope f cdv A outer s H E) body t ∧ t { nx := fun _ H' => Q .non H', rt := Q } (start N vs) H) :
    FnG P w K mg base (k + 1) f (PySem.W.fnOf name qual params body scope dV kV doc pm an cdv ct) ps sp where
  len := len
  run := by
    intro A outer s H args us vs Q E room gd e0 bnd rv prom
    have le := len _ _ _ _ prom
    have inK : K.In s.heap := e0.mod.kin.keeps fun b o e => (e0.bs b o e).1
    have nolim : s.heap.NoLimit := e0.mod.nolimit.keeps fun b o e => (e0.bs b o e).1
    have kinds : ∀ y ∈ ps.zip us, scope.names.lookup y.1 = some .local ∨ (scope.names.lookup y.1 = some .cell ∧ ((cellsFrom (s.heap.objs.size + 1) scope.names []).lookup y.1).isSome = true) := by
      rintro ⟨n, v⟩ hy
      cases S.par n (List.of_mem_zip hy).1 with
      | inl q => exact .inl q
      | inr q => exact .inr ⟨q, PySem.W.cellsFrom_some _ _ _ (.inl q)⟩
    refine codeAny_call_function room.depth (inK _ _ lk) rfl S.co S.gen rfl (PySem.W.codeRec_of inK hcd) (bnd _ _ _ _ ?_)
    refine wpAny_newFunctionEnv_cells S.kind kinds fun env he s1 x => ?_
    subst he
    obtain ⟨t, ht, hq⟩ := hb A outer s H vs Q E (room.deeper _) gd prom
    have I0 : Inv (cxOf (L2.CX P w) P w K mg base N qual scope f cdv A outer s H E) [] (start N vs) H s1 := inv_start S room.hd e0 le rv x
    refine ⟨nolim.keeps x.toInCall.keep, codeAny_func (wpAny_mono (ht.run [] s1 (start N vs) H _ I0 hq) (fun fl s' hs => ?_) fun _ _ z => z)⟩
    cases fl with
    | next =>
      obtain ⟨τ, H', J, q⟩ := hs
      exact ⟨V.non, H', J.os, J.bare, J.base, J.hok, rfl, q⟩
    | ret u =>
      obtain ⟨v, τ, H', J, r, q⟩ := hs
      exact ⟨v, H', J.os, J.bare, J.base, J.hok, r, q⟩
    | brk => obtain ⟨_, _, _, q⟩ := hs; exact q.elim
    | cont => obtain ⟨_, _, _, q⟩ := hs; exact q.elim

section
variable {X : Cx} {W : WX} {k : Nat} {f C : Addr} {fd : FuncData} {ps : List Str} {sp : Sp}
/-- a callee runs; its exception is taken at the slots as they are -/
theorem run_g {pins : List (Addr × Obj)} {τ : VS} {H : Hp} {s : Shared} {Q : VK} {us : List Value} {vs : List V} (F : FnG X.prog X.w X.K X.mg X.base k f fd ps sp) (room : Room k X.A) (gd : X.A.guards = some []) (tk : Takes X W) (bnd : Binds X.K fd ps [])
    (I : Inv X pins τ H s) (r : Vals vs us) (h : sp vs H Q fun cls d H' => W cls d τ H') : wpAny (model X.prog X.w) X.A (call (.ref f) us) (EP X pins τ Q) X.xe s := by
  have e1 : us.length = ps.length := r.length.symm.trans (F.len _ _ _ _ h)
  have b1 := bnd s us I.kIn (by rw [List.append_nil]; exact e1)
  rw [List.append_nil] at b1
  refine wpAny_call (codeAny_mono (F.run X.A X.stack s H ⟨us, []⟩ us vs Q (fun cls d H' => W cls d τ H') room gd I.env0 b1 r h) fun res s' hq => ?_)
  match res, hq with
  | .error e, hq => exact tk e s' (XE.of_call I (fun _ _ _ z => z) hq)
  | .ok (.ret u), hq => exact I.after hq
  | .ok .next, hq => exact hq.elim
  | .ok .brk, hq => exact hq.elim
  | .ok .cont, hq => exact hq.elim
/-- the reading of f(..) -/
def tCal (sp : Sp) (W : WX) (t : TA) : TE := fun τ H Q => t τ H fun vs H1 => sp vs H1 Q fun cls d H' => W cls d τ H'
theorem pe_cal {x : Str} {p pos : Pos} {e : Expr} {es : List Expr} {t : TA} (F : FnG X.prog X.w X.K X.mg X.base k f fd ps sp) (room : Room k X.A) (gd : X.A.guards = some []) (tk : Takes X W) (hg : Gl X x) (hm : X.mg x = some (.ref f)) (hk : PySem.W.keepIn X.K (.ref f) = true)
    (bnd : Binds X.K fd ps []) (ha : PA X (e :: es) t) (hdb : (x == ("__debug__" : Str)) = false) (h1 : starEach (e :: es) X.env = (false, eval e X.env) :: starEach es X.env) (h2 : (backTo pos (starEach es X.env)).any (·.1) = false) :
    PE X (.Call (.Name x p) (e :: es) [] pos) (tCal sp W t) := by
  refine ⟨fun pins s τ H Q I h => ?_⟩
  refine wpAny_Call_Name_kw (ld_glob I hg hm ?_ hdb)
  exact PySem.W.callWith_K (h₀ := X.base) I.ok.mod.kin hk (thn (ha.run pos pins s τ H _ I h) fun us s1 ⟨vs, H1, I1, rv, q⟩ => ⟨I1.kIn, run_g F room gd tk bnd I1 rv q⟩) h1 h2
theorem pe_cal0 {x : Str} {p pos : Pos} (F : FnG X.prog X.w X.K X.mg X.base k f fd ps sp) (room : Room k X.A) (gd : X.A.guards = some []) (tk : Takes X W) (hg : Gl X x) (hm : X.mg x = some (.ref f)) (hk : PySem.W.keepIn X.K (.ref f) = true)
    (bnd : Binds X.K fd ps []) (hdb : (x == ("__debug__" : Str)) = false) : PE X (.Call (.Name x p) [] [] pos) (tCal sp W fun _ H Q => Q [] H) := by
  refine ⟨fun pins s τ H Q I h => ?_⟩
  refine wpAny_Call_Name_kw (ld_glob I hg hm ?_ hdb)
  exact PySem.W.callWith_K0 I.kIn hk (run_g (us := []) F room gd tk bnd I .nil h)
end
/-- the promise of def number i, of n parameters -/
def spOf (T : Tb) (ca : Nat → Addr) (K : PySem.W.Frag) (i n : Nat) : Sp := fun vs H Q E => ∃ (xs : List D) (h : Hd) (Z : Addr → Prop) (QD : PQ) (ED : PX), Own ca K Z H h ∧ RDs ca K Z H h vs xs ∧ xs.length = n ∧ T.spc i xs h QD ED ∧
  (∀ v d H' h', Own ca K Z H' h' → Stp Z H h H' h' → RD ca K Z H' h' v d → QD d h' → Q v H') ∧
  (∀ cls dd c fs H' h', Own ca K Z H' h' → Stp Z H h H' h' → XR ca K Z H' h' cls dd c fs → ED c fs h' → E cls dd H')
end Rt

namespace Rt
open PySem PySem.Spec PyProof.Rows L2

def bltNames : Bf → Str
  | .abs => "abs" | .int => "int" | .len => "len" | .repr => "repr" | .str => "str" | .max2 => "max" | .min2 => "min" | .max1 => "max" | .min1 => "min" | .sum => "sum" | .all => "all" | .any => "any"
  | .list => "list" | .tuple => "tuple" | .divmod => "divmod" | .sorted => "sorted"
/-- what the check knows: the defs by number (name, level, parameters), the built-in names that the text leaves alone -/
structure Gs where
  fn : Nat → Option (Str × Nat × Nat)
  free : Str → Bool
/-- where the check stands: the slots' names, the block's scope, the names whose cells are the block's own, the room -/
structure Sx where
  N : List Str
  sc : Scope
  fl : Str → Bool
  k : Nat

def sane : Expr → Bool
  | .Starred _ _ => false
  | .Slice _ _ _ _ => false
  | .Set _ _ _ => false
  | .Call (.Name x _) [] [] _ => x != "super"
  | _ => true
def noComp : Expr → Bool
  | .ListComp _ _ _ _ => false
  | .SetComp _ _ _ _ => false
  | .DictComp _ _ _ _ _ => false
  | _ => true
def plainT : Expr → Bool
  | .UnaryOp _ _ _ => false
  | .BoolOp _ _ _ => false
  | .IfExp _ _ _ _ => false
  | .Compare _ _ _ _ => false
  | _ => true
def visB (sc : Scope) (x : Str) : Bool := match sc.names.lookup x with
  | some .local => true
  | some .cell => true
  | some .free => true
  | _ => false
def glB (sc : Scope) (x : Str) : Bool := match sc.names.lookup x with
  | some .globalImplicit => true
  | _ => false
def locB (S : Sx) (x : Str) : Bool := match S.sc.names.lookup x with
  | some .local => true
  | some .cell => S.fl x
  | _ => false
def dbg (x : Str) : Bool := x == ("__debug__" : Str) || x == ("__classdict__" : Str) || x == ("__name__" : Str)
def ckC : Cn → Const → Bool
  | .non, .none => true
  | .bl b, .bool b' => b == b'
  | .int i, .int i' => i == i'
  | .str s, .str s' => s == s'
  | _, _ => false
def ckBt (sc : Scope) (fr : Str → Bool) (n : Bt) (e : Expr) : Bool := match e with
  | .Name x _ => x == Str.ofString n.nm && glB sc x && fr x
  | _ => false
def ckBts (sc : Scope) (fr : Str → Bool) : List Cl → List Expr → Bool
  | [], [] => true
  | .b n :: cs, e :: es => ckBt sc fr n e && ckBts sc fr cs es
  | _, _ => false
def ckKeys : List Key → List (Option Expr) → Bool
  | [], [] => true
  | .inr s :: ks, some (.Constant (.str s') _ _) :: es => s == s' && ckKeys ks es
  | .inl i :: ks, some (.Constant (.int i') _ _) :: es => i == i' && ckKeys ks es
  | _, _ => false
mutual
/-- the slots that a target stores -/
def Tg.slots : Tg → List Nat
  | .n i => [i]
  | .t ts => ts.slots
  | _ => []
def Tgs.slots : Tgs → List Nat
  | .nil => []
  | .cons t ts => t.slots ++ ts.slots
end
def slotsIn (ws : List Nat) (t : Tg) : Bool := t.slots.all fun i => ws.contains i
mutual
def ckN (S : Sx) : Tg → Expr → Bool
  | .n i, e => (match e with
    | .Name x _ => S.N[i]? == some x && locB S x
    | _ => false)
  | .t ts, e => (match e with
    | .Tuple xs _ _ => ckNs S ts xs
    | _ => false)
  | _, _ => false
def ckNs (S : Sx) : Tgs → List Expr → Bool
  | .nil, xs => xs.isEmpty
  | .cons a as, xs => (match xs with
    | [] => false
    | x :: xs => sane x && ckN S a x && ckNs S as xs)
end
mutual
def ckE (G : Gs) (S : Sx) : Ex → Expr → Bool
  | .v i, e => (match e with
    | .Name x _ => S.N[i]? == some x && visB S.sc x && !dbg x
    | _ => false)
  | .k c, e => (match e with
    | .Constant c' _ _ => ckC c c'
    | _ => false)
  | .bin o a b, e => (match e with
    | .BinOp x o' y _ => o == o' && ckE G S a x && ckE G S b y
    | _ => false)
  | .neg a, e => (match e with
    | .UnaryOp .USub x _ => ckE G S a x
    | _ => false)
  | .not a, e => (match e with
    | .UnaryOp .Not x _ => ckE G S a x
    | _ => false)
  | .bop o es, e => (match e with
    | .BoolOp o' xs _ => o == o' && ckB G S es xs
    | _ => false)
  | .cmp o a b, e => (match e with
    | .Compare x ops ys _ => (match ops, ys with
      | [o'], [y] => o == o' && sane y && ckE G S a x && ckE G S b y
      | _, _ => false)
    | _ => false)
  | .chain o o2 a b c, e => (match e with
    | .Compare x ops ys _ => (match ops, ys with
      | [p, p2], [y, z] => o == p && o2 == p2 && sane z && ckE G S a x && ckE G S b y && ckE G S c z
      | _, _ => false)
    | _ => false)
  | .ife c a b, e => (match e with
    | .IfExp z x y _ => ckT G S c z && ckE G S a x && ckE G S b y
    | _ => false)
  | .call f es, e => (match e with
    | .Call (.Name x _) xs kws _ => kws.isEmpty && (match G.fn f with
      | some (n, l, m) => n == x && decide (l ≤ S.k) && m == es.len
      | none => false) && glB S.sc x && !dbg x && ckEs G S es xs
    | _ => false)
  | .bif f es, e => (match e with
    | .Call (.Name x _) xs kws _ => kws.isEmpty && x == bltNames f && glB S.sc x && G.free x && !xs.isEmpty && ckEs G S es xs
    | _ => false)
  | .bme m o es, e => (match e with
    | .Call (.Attribute x at_ ap) xs kws cp => kws.isEmpty && (match m with
      | .append => at_ == "append" && xs.length == 1
      | .pop => at_ == "pop" && xs.isEmpty
      | _ => false) && ap.endLine == cp.line && sane x && ckE G S o x && ckEs G S es xs
    | _ => false)
  | .isi a cs, e => (match e with
    | .Call (.Name x _) xs kws _ => kws.isEmpty && x == "isinstance" && glB S.sc x && G.free x && (match xs with
      | [y, t] => sane y && ckE G S a y && (match t with
        | .Tuple ts _ _ => decide (2 ≤ ts.length) && decide (ts.length ≤ 100) && ckBts S.sc G.free cs ts
        | t => ckBts S.sc G.free cs [t])
      | _ => false)
    | _ => false)
  | .tup es, e => (match e with
    | .Tuple xs _ _ => decide (xs.length ≤ 1000) && ckEs G S es xs
    | _ => false)
  | .lst own es, e => (match e with
    | .List xs _ => decide (xs.length ≤ 1000) && ckEs G S es xs
    | _ => false)
  | .dct own ks vs, e => (match e with
    | .Dict kx vx _ => decide (ks.length ≤ 15) && decide (ks.length = vx.length) && decide ks.Nodup && ckKeys ks kx && ckEs G S vs vx
    | _ => false)
  | .idx a b, e => (match e with
    | .Subscript x y _ => sane y && ckE G S a x && ckE G S b y
    | _ => false)
  | .rev own a, e => (match e with
    | .Subscript x (.Slice none none (some (.UnaryOp .USub (.Constant (.int 1) _ _) _)) _) _ => ckE G S a x
    | _ => false)
  | .lc own ws t it cs x, e => (match e with
    | .ListComp y gens scp _ => (match gens with
      | [⟨tg, itx, ifs, 0⟩] => sane itx && blkC S.N S.sc scp ((ws.filterMap fun w => S.N[w]?).zip ws) && decide ((ws.filterMap fun w => S.N[w]?).length = ws.length) &&
        ckI G S it itx && slotsIn ws t && ckN { S with sc := relS scp S.sc, fl := fun x => scp.names.lookup x == some .cell } t tg &&
        ckCs G { S with sc := relS scp S.sc, fl := fun x => scp.names.lookup x == some .cell } cs ifs && ckE G { S with sc := relS scp S.sc, fl := fun x => scp.names.lookup x == some .cell } x y
      | _ => false)
    | _ => false)
  | .fz a, e => ckE G S a e
  | _, _ => false
def ckB (G : Gs) (S : Sx) : Exs → List Expr → Bool
  | .nil, _ => false
  | .cons a as, xs => (match xs with
    | [] => false
    | x :: xs => ckE G S a x && (match as with
      | .nil => xs.isEmpty
      | .cons _ _ => ckB G S as xs))
def ckT (G : Gs) (S : Sx) : Ex → Expr → Bool
  | .not a, e => (match e with
    | .UnaryOp .Not x _ => ckT G S a x
    | _ => false)
  | .bop o es, e => (match e with
    | .BoolOp o' xs _ => o == o' && ckTB G S es xs
    | _ => false)
  | .cmp o a b, e => (match e with
    | .Compare x ops ys _ => (match ops, ys with
      | [o'], [y] => o == o' && sane y && ckE G S a x && ckE G S b y
      | _, _ => false)
    | _ => false)
  | .chain o o2 a b c, e => (match e with
    | .Compare x ops ys _ => (match ops, ys with
      | [p, p2], [y, z] => o == p && o2 == p2 && sane z && ckE G S a x && ckE G S b y && ckE G S c z
      | _, _ => false)
    | _ => false)
  | .tst a, e => plainT e && ckE G S a e
  | _, _ => false
def ckTB (G : Gs) (S : Sx) : Exs → List Expr → Bool
  | .nil, _ => false
  | .cons a as, xs => (match xs with
    | [] => false
    | x :: xs => ckT G S a x && (match as with
      | .nil => xs.isEmpty
      | .cons _ _ => ckTB G S as xs))
def ckEs (G : Gs) (S : Sx) : Exs → List Expr → Bool
  | .nil, xs => xs.isEmpty
  | .cons a as, xs => (match xs with
    | [] => false
    | x :: xs => sane x && ckE G S a x && ckEs G S as xs)
def ckCs (G : Gs) (S : Sx) : Exs → List Expr → Bool
  | .nil, xs => xs.isEmpty
  | .cons a as, xs => (match xs with
    | [x] => ckT G S a x && (match as with
      | .nil => true
      | .cons _ _ => false)
    | _ => false)
def ckI (G : Gs) (S : Sx) : Iw → Expr → Bool
  | .seq a, e => ckE G S a e
  | .rng es, e => (match e with
    | .Call (.Name x _) xs kws _ => kws.isEmpty && x == "range" && glB S.sc x && G.free x && (xs.length == 1 || xs.length == 2) && ckEs G S es xs
    | _ => false)
  | _, _ => false
end
end Rt

namespace Rt
open PySem PySem.Spec PyProof.Rows L2

structure Ok (G : Gs) (T : Tb) (ca : Nat → Addr) (X : Cx) (S : Sx) (W : WX) : Prop where
  sce : X.env.scope = S.sc
  nm : X.N = S.N
  fl : ∀ x, S.fl x = true → X.fn x = true
  calm : X.calm = true
  nd : X.N.Nodup
  room : Room S.k X.A
  gd : X.A.guards = some []
  tk : Takes X W
  fn : ∀ i n l m, G.fn i = some (n, l, m) → ∃ (f : Addr) (fd : FuncData) (ps : List Str), X.mg n = some (.ref f) ∧ PySem.W.keepIn X.K (.ref f) = true ∧ Binds X.K fd ps [] ∧ FnG X.prog X.w X.K X.mg X.base l f fd ps (spOf T ca X.K i m)
  free : ∀ x, G.free x = true → X.mg x = none

section
variable {G : Gs} {T : Tb} {ca : Nat → Addr} {X : Cx} {S : Sx} {W : WX} {a b c : Ex} {x y z : Expr} {pos p : Pos}
theorem Ok.hu (O : Ok G T ca X S W) : X.A.units + 70 < cLine := by have := O.room.un; omega
theorem Ok.vis (O : Ok G T ca X S W) {x : Str} (h : visB S.sc x = true) : Vis X.env.scope x := by
  rw [O.sce]
  unfold visB at h
  unfold Vis
  split at h
  · exact .inl (by assumption)
  · exact .inr (.inl (by assumption))
  · exact .inr (.inr (by assumption))
  · cases h
theorem Ok.gl (O : Ok G T ca X S W) {x : Str} (h : glB S.sc x = true) : Gl X x := by
  unfold glB at h
  show X.env.scope.names.lookup x = _
  rw [O.sce]
  split at h
  · assumption
  · cases h
theorem dbg1 {x : Str} (h : (!dbg x) = true) : (x == ("__debug__" : Str)) = false ∧ (x == ("__classdict__" : Str)) = false ∧ x ≠ "__name__" := by
  unfold dbg at h
  simp only [Bool.not_eq_true', Bool.or_eq_false_iff] at h
  exact ⟨h.1.1, h.1.2, by simpa using h.2⟩
theorem c_v {i : Nat} {n : Str} (O : Ok G T ca X S W) (hN : S.N[i]? = some n) (hv : visB S.sc n = true) (hd : (!dbg n) = true) : PE X (.Name n pos) (tX T ca X.K W (.v i)) := by
  obtain ⟨d1, d2, _⟩ := dbg1 hd
  refine pe_weak (pe_var (i := i) (by rw [O.nm]; exact hN) (O.vis hv) d1 d2) fun τ H Q h => ?_
  obtain ⟨σ, h, Z, QD, ED, R, w, k, _⟩ := h
  unfold wpE at w
  split at w
  · rename_i d e
    obtain ⟨v, h1, h2⟩ := R.env.get e
    exact ⟨v, h1, k _ _ _ _ R Stp.refl h2 w⟩
  · exact w.elim
theorem c_k {cn : Cn} {co : Const} {j : Nat} (h : ckC cn co = true) : PE X (.Constant co j pos) (tX T ca X.K W (.k cn)) := by
  have go : ∀ {v : V}, PE X (.Constant co j pos) (tC v) → (∀ Z H h, RD ca X.K Z H h v cn.d) → PE X (.Constant co j pos) (tX T ca X.K W (.k cn)) := fun {v} p r => pe_weak p fun τ H Q h => by
    obtain ⟨σ, h, Z, QD, ED, R, w, k, _⟩ := h
    unfold wpE at w
    exact k _ _ _ _ R Stp.refl (r _ _ _) w
  cases cn <;> cases co <;> first | cases h | skip
  · exact go pe_non fun _ _ _ => .non
  · rename_i b b'
    have e : b = b' := by simpa [ckC] using h
    subst e
    exact go pe_bl fun _ _ _ => .bl _
  · rename_i b b'
    have e : b = b' := by simpa [ckC] using h
    subst e
    exact go pe_int fun _ _ _ => .int _
  · rename_i b b'
    have e : b = b' := by simpa [ckC] using h
    subst e
    exact go pe_str fun _ _ _ => .str _
/-- a two-place operation's reading, packed -/
theorem opK {K : PySem.W.Frag} {P : D → D → Hd → (D → Prop) → Prop} {Z : Addr → Prop} {τ : VS} {σ : Sg} {H : Hp} {h : Hd} {QD : PQ} {ED : PX} {Q : VK} (R : Rel ca K Z H h τ σ) (w : wpE T a σ h (fun x h1 => wpE T b σ h1 (fun y h2 => P x y h2 fun z => QD z h2) ED) ED)
    (k : ∀ v d H' h', Rel ca K Z H' h' τ σ → Stp Z H h H' h' → RD ca K Z H' h' v d → QD d h' → Q v H')
    (ke : ∀ cls dd c fs H' h', Rel ca K Z H' h' τ σ → Stp Z H h H' h' → XR ca K Z H' h' cls dd c fs → ED c fs h' → W cls dd τ H') : tOp (rB ca K P) (tX T ca K W a) (tX T ca K W b) τ H Q :=
  two R w (fun x y v u H2 h2 r2 s2 rx ry q => ⟨h2, Z, x, y, _, r2.own, rx, ry, q, fun z w' H' s3 o3 rz q3 => k _ _ _ _ (r2.stp s3 o3) (s2.trans s3) rz q3⟩) ke
theorem c_bin {o : Operator} (ha : PE X x (tX T ca X.K W a)) (hb : PE X y (tX T ca X.K W b)) : PE X (.BinOp x o y pos) (tX T ca X.K W (.bin o a b)) :=
  pe_weak (pe_op (op_bin o) ha hb) fun τ H Q ⟨σ, h, Z, QD, ED, R, w, k, ke⟩ => by
    unfold wpE at w
    exact opK R w k ke
theorem c_neg (ha : PE X x (tX T ca X.K W a)) : PE X (.UnaryOp .USub x pos) (tX T ca X.K W (.neg a)) :=
  pe_weak (pe_un un_neg ha) fun τ H Q ⟨σ, h, Z, QD, ED, R, w, k, ke⟩ => by
    unfold wpE at w
    refine one R w (fun x v H1 h1 r1 s1 rx q => ?_) ke
    unfold negP at q
    split at q
    · cases rx
      exact ⟨_, rfl, k _ _ _ _ r1 s1 (.int _) q⟩
    · exact q.elim
theorem c_not (ha : PE X x (tX T ca X.K W a)) : PE X (.UnaryOp .Not x pos) (tX T ca X.K W (.not a)) :=
  pe_weak (pe_notT ha) fun τ H Q ⟨σ, h, Z, QD, ED, R, w, k, ke⟩ => by
    unfold wpE at w
    refine one R w (fun x v H1 h1 r1 s1 rx q => ?_) ke
    obtain ⟨b, hb, q⟩ := tru_all r1.own rx q
    exact ⟨b, hb, k _ _ _ _ r1 s1 (.bl _) q⟩
theorem sane_mark {o : CmpOp} (hs : sane y = true) : behindInMarks o y = false := by
  cases y <;> first | rfl | cases hs
theorem c_cmp {o : CmpOp} (O : Ok G T ca X S W) (hs : sane y = true) (ha : PE X x (tX T ca X.K W a)) (hb : PE X y (tX T ca X.K W b)) : PE X (.Compare x [o] [y] pos) (tX T ca X.K W (.cmp o a b)) :=
  pe_weak (pe_cmpR (op_cmp (by have := O.hu; omega) o) ha hb (sane_mark hs)) fun τ H Q ⟨σ, h, Z, QD, ED, R, w, k, ke⟩ => by
    unfold wpE at w
    exact opK (P := cP o) R w k ke
theorem ct_cmp {o : CmpOp} (O : Ok G T ca X S W) (hs : sane y = true) (ha : PE X x (tX T ca X.K W a)) (hb : PE X y (tX T ca X.K W b)) : PT X (.Compare x [o] [y] pos) (tXT T ca X.K W (.cmp o a b)) :=
  pt_weak (pt_cmpR (op_cmp (by have := O.hu; omega) o) ha hb (sane_mark hs)) fun τ H Q ⟨σ, h, Z, QD, ED, R, w, k, ke⟩ => by
    unfold wpT at w
    refine two R w (fun x y v u H2 h2 r2 s2 rx ry q => ⟨h2, Z, x, y, fun z => ∃ b, z = .bl b ∧ QD b h2, r2.own, rx, ry, ?_, fun z w' H' s3 o3 rz q3 => ?_⟩) ke
    · exact cmpP_mono q fun b qb => ⟨b, rfl, qb⟩
    · obtain ⟨b, rfl, q⟩ := q3
      cases rz
      exact ⟨b, rfl, k _ _ _ (r2.stp s3 o3) (s2.trans s3) q⟩

theorem chainK {K : PySem.W.Frag} {o o' : CmpOp} {c : Ex} {Z : Addr → Prop} {τ : VS} {σ : Sg} {H : Hp} {h : Hd} {QB : Bool → Hd → Prop} {ED : PX} {R' : V → Hp → Prop} (R : Rel ca K Z H h τ σ)
    (w : wpE T a σ h (fun x h1 => wpE T b σ h1 (fun y h2 => cmpP o x y h2 fun z => br z (wpE T c σ h2 (fun w' h3 => cmpP o' y w' h3 fun z' => QB z' h3) ED) (QB false h2)) ED) ED)
    (k : ∀ d H' h', Rel ca K Z H' h' τ σ → Stp Z H h H' h' → QB d h' → R' (.bl d) H')
    (ke : ∀ cls dd c fs H' h', Rel ca K Z H' h' τ σ → Stp Z H h H' h' → XR ca K Z H' h' cls dd c fs → ED c fs h' → W cls dd τ H') :
    tChain (rB ca K (cP o)) (rB ca K (cP o')) (tX T ca K W a) (tX T ca K W b) (tX T ca K W c) τ H R' := by
  refine two R w (fun x y v u H2 h2 r2 s2 rx ry q => ?_) ke
  refine ⟨h2, Z, x, y, fun z => ∃ t, z = .bl t ∧ br t (wpE T c σ h2 (fun w' h3 => cmpP o' y w' h3 fun z' => QB z' h3) ED) (QB false h2), r2.own, rx, ry, cmpP_mono q fun t qt => ⟨t, rfl, qt⟩, ?_⟩
  rintro z w' H3 s3 o3 rz ⟨t, rfl, qt⟩
  cases rz
  refine ⟨t, rfl, ?_⟩
  have r3 := r2.stp s3 o3
  have s23 := s2.trans s3
  cases t with
  | false => exact iteF (k _ _ _ r3 s23 (qt.2 rfl))
  | true =>
    refine iteT (one r3 (qt.1 rfl) (fun w2 v2 H4 h4 r4 s4 rw2 q4 => ?_) fun cls dd c fs H' h' r' s' => ke cls dd c fs H' h' r' (s23.trans s'))
    refine ⟨h4, Z, y, w2, fun z => ∃ t, z = .bl t ∧ QB t h4, r4.own, (ry.stp s3).stp s4, rw2, cmpP_mono q4 fun t qt => ⟨t, rfl, qt⟩, ?_⟩
    rintro z3 w3 H5 s5 o5 rz3 ⟨t3, rfl, q5⟩
    cases rz3
    exact k _ _ _ (r4.stp s5 o5) ((s23.trans s4).trans s5) q5
theorem lastM {o o' : CmpOp} (hs : sane z = true) : lastMarks [o, o'] [y, z] = false := sane_mark hs
theorem c_chain {o o' : CmpOp} (O : Ok G T ca X S W) (hs : sane z = true) (ha : PE X x (tX T ca X.K W a)) (hb : PE X y (tX T ca X.K W b)) (hc : PE X z (tX T ca X.K W c)) : PE X (.Compare x [o, o'] [y, z] pos) (tX T ca X.K W (.chain o o' a b c)) :=
  pe_weak (pe_chain (op_cmp (by have := O.hu; omega) o) (op_cmp (by have := O.hu; omega) o') ha hb hc (lastM hs)) fun τ H Q ⟨σ, h, Z, QD, ED, R, w, k, ke⟩ => by
    unfold wpE at w
    exact chainK (QB := fun t h' => QD (.bl t) h') R w (fun d H' h' r s q => k _ _ _ _ r s (.bl d) q) ke
theorem ct_chain {o o' : CmpOp} (O : Ok G T ca X S W) (hs : sane z = true) (ha : PE X x (tX T ca X.K W a)) (hb : PE X y (tX T ca X.K W b)) (hc : PE X z (tX T ca X.K W c)) : PT X (.Compare x [o, o'] [y, z] pos) (tXT T ca X.K W (.chain o o' a b c)) :=
  pt_weak (pt_chain (op_cmp (by have := O.hu; omega) o) (op_cmp (by have := O.hu; omega) o') ha hb hc (lastM hs)) fun τ H Q ⟨σ, h, Z, QD, ED, R, w, k, ke⟩ => by
    unfold wpT at w
    exact chainK (QB := QD) R w (fun d H' h' r s q => ⟨d, rfl, k _ _ _ r s q⟩) ke
theorem c_ife (hc : PT X z (tXT T ca X.K W c)) (ha : PE X x (tX T ca X.K W a)) (hb : PE X y (tX T ca X.K W b)) : PE X (.IfExp z x y pos) (tX T ca X.K W (.ife c a b)) :=
  pe_weak (pe_ifExp hc ha hb) fun τ H Q ⟨σ, h, Z, QD, ED, R, w, k, ke⟩ => by
    unfold wpE at w
    refine ⟨σ, h, Z, _, ED, R, w, fun t H1 h1 r1 s1 q => ?_, ke⟩
    have go : ∀ e, wpE T e σ h1 QD ED → tX T ca X.K W e τ H1 Q := fun e w1 => ⟨σ, h1, Z, QD, ED, r1, w1, fun v d H' h' r' s' => k v d H' h' r' (s1.trans s'), fun cls dd c fs H' h' r' s' => ke cls dd c fs H' h' r' (s1.trans s')⟩
    cases t with
    | true => exact iteT (go _ (q.1 rfl))
    | false => exact iteF (go _ (q.2 rfl))
/-! and, or -/
def tXB (T : Tb) (ca : Nat → Addr) (K : PySem.W.Frag) (W : WX) (o : BoolOp) (ir : Exs) : TE := fun τ H Q => ∃ (σ : Sg) (h : Hd) (Z : Addr → Prop) (QD : PQ) (ED : PX), Rel ca K Z H h τ σ ∧ wpB T o ir σ h QD ED ∧
  (∀ v d H' h', Rel ca K Z H' h' τ σ → Stp Z H h H' h' → RD ca K Z H' h' v d → QD d h' → Q v H') ∧
  (∀ cls dd c fs H' h', Rel ca K Z H' h' τ σ → Stp Z H h H' h' → XR ca K Z H' h' cls dd c fs → ED c fs h' → W cls dd τ H')
def tXTB (T : Tb) (ca : Nat → Addr) (K : PySem.W.Frag) (W : WX) (o : BoolOp) (ir : Exs) : TT := fun τ H Q => ∃ (σ : Sg) (h : Hd) (Z : Addr → Prop) (QD : Bool → Hd → Prop) (ED : PX), Rel ca K Z H h τ σ ∧ wpTB T o ir σ h QD ED ∧
  (∀ b H' h', Rel ca K Z H' h' τ σ → Stp Z H h H' h' → QD b h' → Q b H') ∧
  (∀ cls dd c fs H' h', Rel ca K Z H' h' τ σ → Stp Z H h H' h' → XR ca K Z H' h' cls dd c fs → ED c fs h' → W cls dd τ H')
theorem cb_one {o : BoolOp} (ha : PE X x (tX T ca X.K W a)) : PE X (.BoolOp o [x] pos) (tXB T ca X.K W o (.cons a .nil)) :=
  pe_weak (pe_one ha) fun τ H Q ⟨σ, h, Z, QD, ED, R, w, k, ke⟩ => ⟨σ, h, Z, QD, ED, R, by unfold wpB at w; exact w, k, ke⟩
theorem cb_more {o : BoolOp} {a' : Ex} {es : Exs} {x' : Expr} {xs : List Expr} (ha : PE X x (tX T ca X.K W a)) (hb : PE X (.BoolOp o (x' :: xs) pos) (tXB T ca X.K W o (.cons a' es))) : PE X (.BoolOp o (x :: x' :: xs) pos) (tXB T ca X.K W o (.cons a (.cons a' es))) := by
  have go : ∀ {Z : Addr → Prop} {τ : VS} {σ : Sg} {H : Hp} {h : Hd} {QD : PQ} {ED : PX} {Q : VK}, Rel ca X.K Z H h τ σ → wpB T o (.cons a' es) σ h QD ED → (∀ v d H' h', Rel ca X.K Z H' h' τ σ → Stp Z H h H' h' → RD ca X.K Z H' h' v d → QD d h' → Q v H') →
      (∀ cls dd c fs H' h', Rel ca X.K Z H' h' τ σ → Stp Z H h H' h' → XR ca X.K Z H' h' cls dd c fs → ED c fs h' → W cls dd τ H') → tXB T ca X.K W o (.cons a' es) τ H Q := fun r w k ke => ⟨_, _, _, _, _, r, w, k, ke⟩
  cases o with
  | And =>
    refine pe_weak (pe_andT ha hb) fun τ H Q ⟨σ, h, Z, QD, ED, R, w, k, ke⟩ => ?_
    unfold wpB at w
    refine one R w (fun x v H1 h1 r1 s1 rx q => ?_) ke
    obtain ⟨t, ht, q⟩ := tru_all r1.own rx q
    refine ⟨t, ht, ?_⟩
    cases t with
    | true => exact iteT (go r1 (q.1 rfl) (fun v d H' h' r' s' => k v d H' h' r' (s1.trans s')) fun cls dd c fs H' h' r' s' => ke cls dd c fs H' h' r' (s1.trans s'))
    | false => exact iteF (k _ _ _ _ r1 s1 rx (q.2 rfl))
  | Or =>
    refine pe_weak (pe_orT ha hb) fun τ H Q ⟨σ, h, Z, QD, ED, R, w, k, ke⟩ => ?_
    unfold wpB at w
    refine one R w (fun x v H1 h1 r1 s1 rx q => ?_) ke
    obtain ⟨t, ht, q⟩ := tru_all r1.own rx q
    refine ⟨t, ht, ?_⟩
    cases t with
    | true => exact iteT (k _ _ _ _ r1 s1 rx (q.1 rfl))
    | false => exact iteF (go r1 (q.2 rfl) (fun v d H' h' r' s' => k v d H' h' r' (s1.trans s')) fun cls dd c fs H' h' r' s' => ke cls dd c fs H' h' r' (s1.trans s'))
theorem c_bop {o : BoolOp} {es : Exs} {xs : List Expr} (h : PE X (.BoolOp o xs pos) (tXB T ca X.K W o es)) : PE X (.BoolOp o xs pos) (tX T ca X.K W (.bop o es)) :=
  pe_weak h fun τ H Q ⟨σ, h, Z, QD, ED, R, w, k, ke⟩ => ⟨σ, h, Z, QD, ED, R, by unfold wpE at w; exact w, k, ke⟩
theorem ctb_one {o : BoolOp} (ha : PT X x (tXT T ca X.K W a)) : PW X (.BoolOp o [x] pos) (tXTB T ca X.K W o (.cons a .nil)) := by
  have f : ∀ τ H Q, tXTB T ca X.K W o (.cons a .nil) τ H Q → tXT T ca X.K W a τ H Q := fun τ H Q ⟨σ, h, Z, QD, ED, R, w, k, ke⟩ => ⟨σ, h, Z, QD, ED, R, by unfold wpTB at w; exact w, k, ke⟩
  cases o with
  | And => exact pw_weak (pw_and1 ha) f
  | Or => exact pw_weak (pw_or1 ha) f
theorem ctb_more {o : BoolOp} {a' : Ex} {es : Exs} {x' : Expr} {xs : List Expr} (ha : PT X x (tXT T ca X.K W a)) (hb : PW X (.BoolOp o (x' :: xs) pos) (tXTB T ca X.K W o (.cons a' es))) : PW X (.BoolOp o (x :: x' :: xs) pos) (tXTB T ca X.K W o (.cons a (.cons a' es))) := by
  have go : ∀ {Z : Addr → Prop} {τ : VS} {σ : Sg} {H : Hp} {h : Hd} {QD : Bool → Hd → Prop} {ED : PX} {Q : Bool → Hp → Prop}, Rel ca X.K Z H h τ σ → wpTB T o (.cons a' es) σ h QD ED → (∀ b H' h', Rel ca X.K Z H' h' τ σ → Stp Z H h H' h' → QD b h' → Q b H') →
      (∀ cls dd c fs H' h', Rel ca X.K Z H' h' τ σ → Stp Z H h H' h' → XR ca X.K Z H' h' cls dd c fs → ED c fs h' → W cls dd τ H') → tXTB T ca X.K W o (.cons a' es) τ H Q := fun r w k ke => ⟨_, _, _, _, _, r, w, k, ke⟩
  cases o with
  | And =>
    refine pw_weak (pw_and ha hb) fun τ H Q ⟨σ, h, Z, QD, ED, R, w, k, ke⟩ => ?_
    unfold wpTB at w
    refine ⟨σ, h, Z, _, ED, R, w, fun t H1 h1 r1 s1 q => ?_, ke⟩
    cases t with
    | true => exact iteT (go r1 (q.1 rfl) (fun b H' h' r' s' => k b H' h' r' (s1.trans s')) fun cls dd c fs H' h' r' s' => ke cls dd c fs H' h' r' (s1.trans s'))
    | false => exact iteF (k _ _ _ r1 s1 (q.2 rfl))
  | Or =>
    refine pw_weak (pw_or ha hb) fun τ H Q ⟨σ, h, Z, QD, ED, R, w, k, ke⟩ => ?_
    unfold wpTB at w
    refine ⟨σ, h, Z, _, ED, R, w, fun t H1 h1 r1 s1 q => ?_, ke⟩
    cases t with
    | true => exact iteT (k _ _ _ r1 s1 (q.1 rfl))
    | false => exact iteF (go r1 (q.2 rfl) (fun b H' h' r' s' => k b H' h' r' (s1.trans s')) fun cls dd c fs H' h' r' s' => ke cls dd c fs H' h' r' (s1.trans s'))
theorem ct_bop {o : BoolOp} {es : Exs} {xs : List Expr} (h : PW X (.BoolOp o xs pos) (tXTB T ca X.K W o es)) : PT X (.BoolOp o xs pos) (tXT T ca X.K W (.bop o es)) :=
  (pw_weak h fun τ H Q ⟨σ, h, Z, QD, ED, R, w, k, ke⟩ => ⟨σ, h, Z, QD, ED, R, by unfold wpT at w; exact w, k, ke⟩).pt
theorem ct_not (ha : PT X x (tXT T ca X.K W a)) : PT X (.UnaryOp .Not x pos) (tXT T ca X.K W (.not a)) :=
  pt_weak (pt_not ha) fun τ H Q ⟨σ, h, Z, QD, ED, R, w, k, ke⟩ => by
    unfold wpT at w
    exact ⟨σ, h, Z, _, ED, R, w, fun b H1 h1 r1 s1 q => k _ _ _ r1 s1 q, ke⟩
theorem ct_tst (hp : plainT x = true) (ha : PE X x (tX T ca X.K W a)) : PT X x (tXT T ca X.K W (.tst a)) :=
  pt_weak (pt_truth ha (by cases x <;> first | (intro _; rfl) | cases hp)) fun τ H Q ⟨σ, h, Z, QD, ED, R, w, k, ke⟩ => by
    unfold wpT at w
    refine one R w (fun x v H1 h1 r1 s1 rx q => ?_) ke
    obtain ⟨t, ht, q⟩ := tru_all r1.own rx q
    exact ⟨t, ht, k _ _ _ r1 s1 q⟩
/-! arguments, displays, calls -/
theorem sane_star {env : Env} {xs : List Expr} (hs : sane x = true) : starEach (x :: xs) env = (false, eval x env) :: starEach xs env := by
  cases x <;> first | rfl | cases hs
theorem ca_nil : PA X [] (tXs T ca X.K W .nil) := pa_weak pa_nil fun τ H Q ⟨σ, h, Z, QD, ED, R, w, k, ke⟩ => by
  unfold wpEs at w
  exact k [] [] _ _ R Stp.refl .nil rfl w
theorem ca_cons {es : Exs} {xs : List Expr} (hs : sane x = true) (ha : PE X x (tX T ca X.K W a)) (hb : PA X xs (tXs T ca X.K W es)) : PA X (x :: xs) (tXs T ca X.K W (.cons a es)) :=
  pa_weak (pa_cons ha hb (sane_star hs)) fun τ H Q ⟨σ, h, Z, QD, ED, R, w, k, ke⟩ => by
    unfold wpEs at w
    refine one R w (fun x v H1 h1 r1 s1 rx q => ?_) ke
    refine ⟨σ, h1, Z, _, ED, r1, q, fun vs ds H2 h2 r2 s2 rs le q2 => k _ _ _ _ r2 (s1.trans s2) (.cons (rx.stp s2) rs) ?_ q2, fun cls dd c fs H' h' r' s' => ke cls dd c fs H' h' r' (s1.trans s')⟩
    show ds.length + 1 = es.len + 1
    rw [le]
theorem c_tup {es : Exs} {xs : List Expr} {j : Nat} (hn : xs.length ≤ 1000) (hl : xs.length = es.len) (ha : PA X xs (tXs T ca X.K W es)) : PE X (.Tuple xs j pos) (tX T ca X.K W (.tup es)) :=
  pe_weak (pe_tup ha) fun τ H Q ⟨σ, h, Z, QD, ED, R, w, k, ke⟩ => by
    unfold wpE at w
    refine ⟨σ, h, Z, _, ED, R, w, fun vs ds H1 h1 r1 s1 rs le q => ⟨by rw [rs.length, le, ← hl, sizeLine_eq]; omega, fun q1 hq => ?_⟩, ke⟩
    have st : Stp Z H1 h1 (upd H1 q1 (.tup vs)) h1 := Stp.fresh r1.own hq
    exact k _ _ _ _ (r1.stp st (r1.own.fresh hq)) (s1.trans st) (.tup (.inl ⟨r1.own.none_of hq, .inl upd_same⟩) (rs.stp st)) q
theorem newK {K : PySem.W.Frag} {own : Bool} {Z : Addr → Prop} {τ : VS} {σ : Sg} {H : Hp} {h : Hd} {vs : List V} {ds : List D} {QD : PQ} {Q : VK} {q1 : Addr} (R : Rel ca K Z H h τ σ) (rs : RDs ca K Z H h vs ds) (w : newL own ds h QD) (hq : H q1 = none)
    (k : ∀ v d H' h', Rel ca K Z H' h' τ σ → Stp Z H h H' h' → RD ca K Z H' h' v d → QD d h' → Q v H') : Q (.ref q1) (upd H q1 (.lst vs)) := by
  cases own with
  | true =>
    have st : Stp Z H h (upd H q1 (.lst vs)) (hup h q1 (.lst ds)) := Stp.newO R.own hq
    exact k _ _ _ _ (R.stp st (R.own.newO hq (.lst rs))) st (.ref q1) (w q1 (R.own.none_of hq).1)
  | false =>
    have st : Stp Z H h (upd H q1 (.lst vs)) h := Stp.fresh R.own hq
    exact k _ _ _ _ (R.stp st (R.own.fresh hq)) st (.lst (R.own.none_of hq) upd_same (rs.stp st)) w
theorem c_lst {own : Bool} {es : Exs} {xs : List Expr} (hn : xs.length ≤ 1000) (hl : xs.length = es.len) (ha : PA X xs (tXs T ca X.K W es)) : PE X (.List xs pos) (tX T ca X.K W (.lst own es)) :=
  pe_weak (pe_lst ha) fun τ H Q ⟨σ, h, Z, QD, ED, R, w, k, ke⟩ => by
    unfold wpE at w
    refine ⟨σ, h, Z, _, ED, R, w, fun vs ds H1 h1 r1 s1 rs le q => ⟨by rw [rs.length, le, ← hl, sizeLine_eq]; omega, fun q1 hq => ?_⟩, ke⟩
    exact newK r1 rs q hq fun v d H' h' r' s' => k v d H' h' r' (s1.trans s')
theorem c_call {f : Nat} {es : Exs} {n : Str} {xs : List Expr} {l m : Nat} (O : Ok G T ca X S W) (hf : G.fn f = some (n, l, m)) (hl : l ≤ S.k) (hm : m = es.len) (hg : glB S.sc n = true) (hd : (!dbg n) = true) (ha : PA X xs (tXs T ca X.K W es))
    (hs : ∀ x r, xs = x :: r → sane x = true) (hz : ∀ x r, xs = x :: r → (backTo pos (starEach r X.env)).any (·.1) = false) (hle : xs.length = es.len) : PE X (.Call (.Name n p) xs [] pos) (tX T ca X.K W (.call f es)) := by
  obtain ⟨fa, fd, ps, h1, h2, h3, h4⟩ := O.fn f n l m hf
  obtain ⟨d1, _, _⟩ := dbg1 hd
  cases xs with
  | nil =>
    refine pe_weak (pe_cal0 (h4.mono hl) O.room O.gd O.tk (O.gl hg) h1 h2 h3 d1) fun τ H Q ⟨σ, h, Z, QD, ED, R, w, k, ke⟩ => ?_
    unfold wpE at w
    cases es with
    | cons _ _ => exact absurd hle (by simp [Exs.len])
    | nil =>
      unfold wpEs at w
      exact ⟨[], h, Z, QD, ED, R.own, .nil, hm.symm, w, fun v d H' h' o' s' => k v d H' h' (R.stp s' o') s', fun cls dd c fs H' h' o' s' => ke cls dd c fs H' h' (R.stp s' o') s'⟩
  | cons y ys =>
    refine pe_weak (pe_cal (h4.mono hl) O.room O.gd O.tk (O.gl hg) h1 h2 h3 ha d1 (sane_star (hs _ _ rfl)) (hz _ _ rfl)) fun τ H Q ⟨σ, h, Z, QD, ED, R, w, k, ke⟩ => ?_
    unfold wpE at w
    refine ⟨σ, h, Z, _, ED, R, w, fun vs ds H1 h1 r1 s1 rs le q => ?_, ke⟩
    exact ⟨ds, h1, Z, QD, ED, r1.own, rs, by rw [le, hm], q, fun v d H' h' o' s' => k v d H' h' (r1.stp s' o') (s1.trans s'), fun cls dd c fs H' h' o' s' => ke cls dd c fs H' h' (r1.stp s' o') (s1.trans s')⟩
theorem bf_boot (f : Bf) : bootBuiltins (bltNames f) = some (bfV f) := by cases f <;> decide +kernel
theorem bf_nm (f : Bf) : bltNames f ≠ "__name__" ∧ (bltNames f == ("__debug__" : Str)) = false := by cases f <;> decide +kernel
theorem c_bif {f : Bf} {es : Exs} {xs : List Expr} (O : Ok G T ca X S W) (hg : glB S.sc (bltNames f) = true) (hf : G.free (bltNames f) = true) (ha : PA X (x :: xs) (tXs T ca X.K W es)) (hs : sane x = true) (hz : (backTo pos (starEach xs X.env)).any (·.1) = false) :
    PE X (.Call (.Name (bltNames f) p) (x :: xs) [] pos) (tX T ca X.K W (.bif f es)) := by
  have hc := call_bf (ca := ca) O.calm O.gd O.hu f
  have go : ∀ τ H Q, tX T ca X.K W (.bif f es) τ H Q → tCB (rC ca X.K (bifP f)) (tXs T ca X.K W es) τ H Q := fun τ H Q ⟨σ, h, Z, QD, ED, R, w, k, ke⟩ => by
    unfold wpE at w
    refine ⟨σ, h, Z, _, ED, R, w, fun vs ds H1 h1 r1 s1 rs le q => ⟨h1, Z, ds, _, r1.own, rs, q, fun z w' H' s' o' rz qz => k _ _ _ _ (r1.stp s' o') (s1.trans s') rz qz⟩, ke⟩
  have hb := bf_boot f
  cases e : bfV f with
  | builtin id =>
    rw [e] at hb hc
    exact pe_weak (pe_callB hc (O.gl hg) (O.free _ hf) hb ha (bf_nm f).1 (bf_nm f).2 (sane_star hs) hz) go
  | type id =>
    rw [e] at hb hc
    exact pe_weak (pe_callTy hc (O.gl hg) (O.free _ hf) hb ha (bf_nm f).1 (bf_nm f).2 (sane_star hs) hz) go
  | _ => cases f <;> cases e
end
end Rt

namespace Rt
open PySem PySem.Spec PyProof.Rows L2

section
variable {G : Gs} {T : Tb} {ca : Nat → Addr} {X : Cx} {S : Sx} {W : WX} {a b c : Ex} {x y z : Expr} {pos p : Pos}
theorem sane_ix (hs : sane y = true) : PlainIx y := by
  cases y <;> first | (intro _ _; rfl) | cases hs
theorem sane_base {env : Env} {n : Str} {w : Sem Value} (hs : sane x = true) : attributeBase x n env w = w := by
  cases x with
  | Call f as ks q =>
    cases f with
    | Name id _ =>
      cases as with
      | cons _ _ => rfl
      | nil =>
        cases ks with
        | cons _ _ => rfl
        | nil => exact abase_call (by simpa [sane] using hs)
    | _ => rfl
  | _ => first | rfl | cases hs
theorem sane_fold {env : Env} {u : Value} (hs : sane x = true) : foldedSetIterable x env u = pure u := by
  cases x <;> first | rfl | cases hs
theorem c_idx (O : Ok G T ca X S W) (hs : sane y = true) (ha : PE X x (tX T ca X.K W a)) (hb : PE X y (tX T ca X.K W b)) : PE X (.Subscript x y pos) (tX T ca X.K W (.idx a b)) :=
  pe_weak (pe_ix (ix_all (by have := O.hu; omega)) ha hb (sane_ix hs)) fun τ H Q ⟨σ, h, Z, QD, ED, R, w, k, ke⟩ => by
    unfold wpE at w
    exact opK R w k ke
theorem c_rev {own : Bool} {j : Nat} {p1 p2 p3 : Pos} (ha : PE X x (tX T ca X.K W a)) : PE X (.Subscript x (.Slice none none (some (.UnaryOp .USub (.Constant (.int 1) j p1) p2)) p3) pos) (tX T ca X.K W (.rev own a)) :=
  pe_weak (pe_revL ha) fun τ H Q ⟨σ, h, Z, QD, ED, R, w, k, ke⟩ => by
    unfold wpE at w
    refine one R w (fun x v H1 h1 r1 s1 rx q => ?_) ke
    obtain ⟨ds, e, q⟩ := optP_some q
    obtain ⟨q1, vs, rfl, hl, rl⟩ := asL_ok r1.own rx e
    exact ⟨_, _, rfl, SqL.of hl, fun q2 hq => newK r1 rl.rev q hq fun v d H' h' r' s' => k v d H' h' r' (s1.trans s')⟩
theorem c_fz (ha : PE X x (tX T ca X.K W a)) : PE X x (tX T ca X.K W (.fz a)) :=
  pe_weak ha fun τ H Q ⟨σ, h, Z, QD, ED, R, w, k, ke⟩ => by
    unfold wpE at w
    refine one R w (fun x v H1 h1 r1 s1 rx q => ?_) ke
    unfold fzP at q
    split at q
    · rename_i a0
      have st : Stp Z H1 h1 H1 (hdel h1 a0) := Stp.del
      have r2 := r1.stp st r1.own.del
      have fr : ∀ u, h1 a0 = some u → Fre Z (hdel h1 a0) a0 := fun u e => ⟨hdel_same, r1.own.nz e⟩
      cases rx
      split at q
      · rename_i ds e
        obtain ⟨vs, h3, h4⟩ := r1.own.lst e
        exact k _ _ _ _ r2 (s1.trans st) (.lst (fr _ e) h3 (h4.stp st)) q
      · rename_i ds e
        obtain ⟨vs, h3, h4⟩ := r1.own.dK e
        exact k _ _ _ _ r2 (s1.trans st) (.dK (fr _ e) (.inl h3) (h4.stp st)) q
      · rename_i ds e
        obtain ⟨ho, h3, h4⟩ := r1.own.obj _ _ e
        cases h4 with
        | dT h4 => exact k _ _ _ _ r2 (s1.trans st) (.dT (fr _ e) (.inl h3) (h4.stp st)) q
      · rename_i cn ds e
        obtain ⟨dx, vs, h3, h4⟩ := r1.own.ins e
        exact k _ _ _ _ r2 (s1.trans st) (.ins (fr _ e) h3 (h4.stp st)) q
      · exact q.elim
    · exact k _ _ _ _ r1 s1 rx q
/-! methods -/
theorem few1 {env : Env} {cp : Pos} (hs : sane y = true) : ((backTo cp (starEach (y :: []) env)).all (fun x => !x.1) && (backToKw cp (keywordEach [] env)).all (fun x => x.1.isSome)
      && decide ((y :: []).length + ([] : List Keyword).length + (if ([] : List Keyword).isEmpty then 0 else 1) < 30)) = true := by
  rw [sane_star hs]
  rfl
theorem ty_lst {K : PySem.W.Frag} {Z : Addr → Prop} {H : Hp} {h : Hd} {v : V} {d : D} (own : Own ca K Z H h) (r : RD ca K Z H h v d) (e : (asL d h).isSome = true) : tyV K "list" v H := by
  cases q : asL d h with
  | none => rw [q] at e; cases e
  | some ds =>
    obtain ⟨p, vs, rfl, hl, _⟩ := asL_ok own r q
    exact .inl ⟨rfl, _, SqL.of hl⟩
theorem c_app {es : Exs} {ap cp : Pos} (hs : sane x = true) (hy : sane y = true) (hl : (ap.endLine == cp.line) = true) (ha : PE X x (tX T ca X.K W a)) (hb : PA X [y] (tXs T ca X.K W es)) : PE X (.Call (.Attribute x "append" ap) [y] [] cp) (tX T ca X.K W (.bme .append a es)) :=
  pe_weak (pe_bm PySem.F.plainAttrs_list PySem.F.slot_list_append PySem.F.type_list_append (mt_app (ca := ca)) ha hb (sane_base hs) (few1 hy) hl (sane_star hy) rfl) fun τ H Q ⟨σ, h, Z, QD, ED, R, w, k, ke⟩ => by
    unfold wpE at w
    refine one R w (fun x v H1 h1 r1 s1 rx q => ?_) ke
    refine ⟨ty_lst r1.own rx q.1, σ, h1, Z, _, ED, r1, q.2, fun vs ds H2 h2 r2 s2 rs le q2 => ⟨h2, Z, x, ds, QD, r2.own, rx.stp s2, rs, q2, fun z w' H' h' s' o' rz qz => k _ _ _ _ (r2.stp s' o') ((s1.trans s2).trans s') rz qz⟩, fun cls dd c fs H' h' r' s' => ke cls dd c fs H' h' r' (s1.trans s')⟩
theorem c_pop {ap cp : Pos} (hs : sane x = true) (hl : (ap.endLine == cp.line) = true) (ha : PE X x (tX T ca X.K W a)) : PE X (.Call (.Attribute x "pop" ap) [] [] cp) (tX T ca X.K W (.bme .pop a .nil)) :=
  pe_weak (pe_bm0 PySem.F.plainAttrs_list PySem.F.slot_list_pop PySem.F.type_list_pop (mt_pop1 (ca := ca)) ha (sane_base hs) hl) fun τ H Q ⟨σ, h, Z, QD, ED, R, w, k, ke⟩ => by
    unfold wpE at w
    refine one R w (fun x v H1 h1 r1 s1 rx q => ?_) ke
    obtain ⟨q0, q⟩ := q
    unfold wpEs at q
    exact ⟨ty_lst r1.own rx q0, h1, Z, x, [], QD, r1.own, rx, .nil, q, fun z w' H' h' s' o' rz qz => k _ _ _ _ (r1.stp s' o') (s1.trans s') rz qz⟩
/-! isinstance -/
theorem bt_boot (n : Bt) : bootBuiltins (Str.ofString n.nm) = some (.type n.nm) := by cases n <;> decide +kernel
theorem bt_nm (n : Bt) : Str.ofString n.nm ≠ "__name__" ∧ (Str.ofString n.nm == ("__debug__" : Str)) = false := by cases n <;> decide +kernel
theorem c_bt {n : Bt} (O : Ok G T ca X S W) (h : ckBt S.sc G.free n x = true) : PE X x (tC (.ty n.nm)) ∧ sane x = true := by
  unfold ckBt at h
  split at h
  · simp only [Bool.and_eq_true, beq_iff_eq] at h
    obtain ⟨⟨rfl, h2⟩, h3⟩ := h
    exact ⟨pe_bltn (O.gl h2) (O.free _ h3) (bt_boot n) rfl (bt_nm n).1 (bt_nm n).2, rfl⟩
  · cases h
/-- constants as arguments -/
def tCs (vs : List V) : TA := fun _ H Q => Q vs H
theorem c_bts (O : Ok G T ca X S W) : ∀ (cs : List Cl) (es : List Expr), ckBts S.sc G.free cs es = true → ∃ ns : List Bt, cs = ns.map .b ∧ es.length = ns.length ∧ PA X es (tCs (ns.map fun n => .ty n.nm)) ∧ ∀ e ∈ es, sane e = true
  | [], [], _ => ⟨[], rfl, rfl, pa_weak pa_nil fun _ _ _ h => h, fun _ z => nomatch z⟩
  | .b n :: cs, e :: es, h => by
    have h' : (ckBt S.sc G.free n e && ckBts S.sc G.free cs es) = true := h
    rw [Bool.and_eq_true] at h'
    obtain ⟨h1, h2⟩ := c_bt O h'.1
    obtain ⟨ns, rfl, el, h3, h4⟩ := c_bts O cs es h'.2
    refine ⟨n :: ns, rfl, by rw [List.length_cons, List.length_cons, el], pa_weak (pa_cons h1 h3 (sane_star h2)) fun _ _ _ q => q, fun e' he => ?_⟩
    rcases List.mem_cons.mp he with rfl | he
    · exact h2
    · exact h4 e' he
  | .c _ :: _, _, h => nomatch h
  | [], _ :: _, h => nomatch h
  | .b _ :: _, [], h => nomatch h
theorem isi_ok {H : Hp} {h : Hd} {d : D} {R : Bool → Prop} : ∀ (ns : List Bt), ns ≠ [] → isiP d (ns.map .b) h R → ∃ t, vtD d h = some t ∧ R (ns.any (isaB t))
  | [], n0, _ => absurd rfl n0
  | n :: ns, _, p => by
    rw [List.map_cons] at p
    unfold isiP at p
    cases e : vtD d h with
    | none => rw [isi1, e] at p; exact p.elim
    | some t =>
      refine ⟨t, rfl, ?_⟩
      rw [isi1, e] at p
      cases e2 : isaB t n with
      | true =>
        rw [List.any_cons, e2, Bool.true_or]
        simpa only [Option.map_some, e2] using p
      | false =>
        rw [List.any_cons, e2, Bool.false_or]
        have p : isiP d (ns.map .b) h R := by simpa only [Option.map_some, e2] using p
        cases ns with
        | nil => exact p
        | cons m ms =>
          obtain ⟨t', et, q⟩ := isi_ok (H := H) (m :: ms) (by simp) p
          rw [e] at et; cases et
          exact q
theorem c_isi {cs : List Cl} {t : Expr} (O : Ok G T ca X S W) (hg : glB S.sc "isinstance" = true) (hf : G.free "isinstance" = true) (hy : sane y = true) (ha : PE X y (tX T ca X.K W a)) (ht : ckBts S.sc G.free cs [t] = true) :
    PE X (.Call (.Name "isinstance" p) [y, t] [] pos) (tX T ca X.K W (.isi a cs)) := by
  obtain ⟨ns, rfl, el, h3, h4⟩ := c_bts O cs [t] ht
  have hn : ns ≠ [] := fun z => by subst z; cases el
  refine pe_weak (pe_callB (call_isi) (O.gl hg) (O.free _ hf) (by decide +kernel) (pa_cons ha h3 (sane_star hy)) (by decide +kernel) (by decide +kernel) (sane_star hy) (by rw [sane_star (h4 t (by simp))]; rfl)) fun τ H Q ⟨σ, h, Z, QD, ED, R, w, k, ke⟩ => ?_
  unfold wpE at w
  refine one R w (fun x v H1 h1 r1 s1 rx q => ?_) ke
  obtain ⟨t', e, q⟩ := isi_ok (H := H1) ns hn q
  match ns, el with
  | [n], _ => exact ⟨_, _, _, _, _, rfl, .ty n.nm, ty_of r1.own rx e, kit_b t' n, by
      have q' := k _ _ _ _ r1 s1 (.bl _) q
      simpa only [List.any_cons, List.any_nil, Bool.or_false] using q'⟩
theorem clsv_bts : ∀ ns : List Bt, Paired ClsV (ns.map fun n => V.ty n.nm) (ns.map fun n => Value.type n.nm)
  | [] => .nil
  | n :: ns => .cons (.ty _) (clsv_bts ns)
theorem c_isiT {cs : List Cl} {ts : List Expr} {j : Nat} {tp : Pos} (O : Ok G T ca X S W) (hg : glB S.sc "isinstance" = true) (hf : G.free "isinstance" = true) (hy : sane y = true) (ha : PE X y (tX T ca X.K W a)) (ht : ckBts S.sc G.free cs ts = true) (h2 : 2 ≤ ts.length) (h100 : ts.length ≤ 100) :
    PE X (.Call (.Name "isinstance" p) [y, .Tuple ts j tp] [] pos) (tX T ca X.K W (.isi a cs)) := by
  obtain ⟨ns, rfl, el, h3, h4⟩ := c_bts O cs ts ht
  have hn : ns ≠ [] := fun z => by subst z; rw [el] at h2; exact absurd h2 (by decide)
  refine pe_weak (pe_callB (call_isiT) (O.gl hg) (O.free _ hf) (by decide +kernel) (pa_cons ha (pa_cons (pe_tup h3) pa_nil rfl) (sane_star hy)) (by decide +kernel) (by decide +kernel) (sane_star hy) rfl) fun τ H Q ⟨σ, h, Z, QD, ED, R, w, k, ke⟩ => ?_
  unfold wpE at w
  refine one R w (fun x v H1 h1 r1 s1 rx q => ?_) ke
  refine ⟨by rw [List.length_map, ← el, sizeLine_eq]; omega, fun q1 hq => ?_⟩
  have st : Stp Z H1 h1 (upd H1 q1 (.tup (ns.map fun n => .ty n.nm))) h1 := Stp.fresh r1.own hq
  have r2 := r1.stp st (r1.own.fresh hq)
  obtain ⟨t', e, q⟩ := isi_ok (H := H1) ns hn q
  refine ⟨v, q1, ns.map fun n => .ty n.nm, .type t'.nm, ns.map fun n => .type n.nm, _, rfl, upd_same, clsv_bts ns, ty_of r2.own (rx.stp st) e, kits_b ns, k _ _ _ _ r2 (s1.trans st) (.bl _) q⟩
/-! dict displays -/
def Exs.vs : Exs → List Ex
  | .nil => []
  | .cons e es => e :: es.vs
theorem pairsK {K : PySem.W.Frag} {Z : Addr → Prop} : ∀ (ks : List Key) (es : Exs) {τ : VS} {σ : Sg} {H : Hp} {h : Hd} {QD : List D → Hd → Prop} {ED : PX} {R : List (V × V) → Hp → Prop}, Rel ca K Z H h τ σ → wpEs T es σ h QD ED → ks.length = es.len →
    (∀ (vs : List V) (ds : List D) H' h', Rel ca K Z H' h' τ σ → Stp Z H h H' h' → RDs ca K Z H' h' vs ds → ds.length = ks.length → QD ds h' → R ((ks.zip vs).map fun kv => (kV kv.1, kv.2)) H') →
    (∀ cls dd c fs H' h', Rel ca K Z H' h' τ σ → Stp Z H h H' h' → XR ca K Z H' h' cls dd c fs → ED c fs h' → W cls dd τ H') →
    tPairs ((ks.zip es.vs).map fun ke => (tC (kV ke.1), tX T ca K W ke.2)) τ H R
  | [], .nil, τ, σ, H, h, QD, ED, R, r, w, _, k, _ => by
    unfold wpEs at w
    exact k [] [] H h r Stp.refl .nil rfl w
  | [], .cons _ _, _, _, _, _, _, _, _, _, _, e, _, _ => by cases e
  | _ :: _, .nil, _, _, _, _, _, _, _, _, _, e, _, _ => by cases e
  | q :: ks, .cons e es, τ, σ, H, h, QD, ED, R, r, w, el, k, ke => by
    unfold wpEs at w
    refine one r w (fun x v H1 h1 r1 s1 rx w1 => ?_) ke
    refine pairsK ks es r1 w1 (by simpa [Exs.len] using el) (fun vs ds H2 h2 r2 s2 rs le q2 => ?_) fun cls dd c fs H' h' r' s' => ke cls dd c fs H' h' r' (s1.trans s')
    exact k (v :: vs) (x :: ds) H2 h2 r2 (s1.trans s2) (.cons (rx.stp s2) rs) (by rw [List.length_cons, List.length_cons, le]) q2
theorem merge_nd : ∀ (kvs acc : List (Key × V)), (acc ++ kvs).map (·.1) |>.Nodup → mergeK acc kvs = acc ++ kvs
  | [], acc, _ => by rw [List.append_nil]; rfl
  | kv :: kvs, acc, nd => by
    have e1 : putK acc kv.1 kv.2 = acc ++ [kv] := by
      unfold putK
      rw [if_neg]
      intro q
      obtain ⟨p, hp, hq⟩ := List.any_eq_true.mp q
      have hq' : p.1 = kv.1 := of_decide_eq_true hq
      rw [List.map_append, List.map_cons, List.nodup_append] at nd
      exact nd.2.2 p.1 (List.mem_map_of_mem hp) kv.1 (by simp) hq'
    show mergeK (putK acc kv.1 kv.2) kvs = _
    rw [e1, merge_nd kvs (acc ++ [kv]) (by simpa using nd)]
    simp
theorem RDp.zip {K : PySem.W.Frag} {Z : Addr → Prop} {H : Hp} {h : Hd} : ∀ (ks : List Key) {vs : List V} {ds : List D}, RDs ca K Z H h vs ds → RDp ca K Z H h (ks.zip vs) (ks.zip ds)
  | [], _, _, _ => by
    rw [List.zip_nil_left, List.zip_nil_left]
    exact .nil
  | k :: ks, _, _, .nil => .nil
  | k :: ks, _, _, .cons a b => .cons a (RDp.zip ks b)
theorem zip_fst : ∀ (ks : List Key) (vs : List V), vs.length = ks.length → (ks.zip vs).map (·.1) = ks
  | [], _, _ => by simp
  | k :: ks, [], e => by cases e
  | k :: ks, v :: vs, e => by
    rw [List.zip_cons_cons, List.map_cons, zip_fst ks vs (by simpa using e)]
theorem keys_some : ∀ (ks : List Key) (kx : List (Option Expr)), ckKeys ks kx = true → kx.all (·.isSome) = true ∧ kx.length = ks.length
  | [], [], _ => ⟨rfl, rfl⟩
  | .inr s :: ks, some (.Constant (.str s') _ _) :: es, h => by
    have h' : (s == s' && ckKeys ks es) = true := h
    rw [Bool.and_eq_true] at h'
    obtain ⟨h1, h2⟩ := keys_some ks es h'.2
    exact ⟨by rw [List.all_cons, h1]; rfl, by rw [List.length_cons, List.length_cons, h2]⟩
  | .inl s :: ks, some (.Constant (.int s') _ _) :: es, h => by
    have h' : (s == s' && ckKeys ks es) = true := h
    rw [Bool.and_eq_true] at h'
    obtain ⟨h1, h2⟩ := keys_some ks es h'.2
    exact ⟨by rw [List.all_cons, h1]; rfl, by rw [List.length_cons, List.length_cons, h2]⟩
/-- each value of a display -/
inductive PEs (X : Cx) (T : Tb) (ca : Nat → Addr) (W : WX) : List Expr → Exs → Prop
  | nil : PEs X T ca W [] .nil
  | cons {x : Expr} {xs : List Expr} {a : Ex} {as : Exs} : PE X x (tX T ca X.K W a) → PEs X T ca W xs as → PEs X T ca W (x :: xs) (.cons a as)
theorem PEs.len {xs : List Expr} {es : Exs} (h : PEs X T ca W xs es) : xs.length = es.len := by
  induction h with
  | nil => rfl
  | cons _ _ ih => exact congrArg (· + 1) ih
theorem pps_of : ∀ (ks : List Key) (kx : List (Option Expr)) {vx : List Expr} {es : Exs}, ckKeys ks kx = true → PEs X T ca W vx es → ks.length = es.len → PPs X pos kx vx ((ks.zip es.vs).map fun ke => (tC (kV ke.1), tX T ca X.K W ke.2))
  | [], [], _, _, _, .nil, _ => pps_nil
  | [], [], _, _, _, .cons _ _, e => by cases e
  | .inr s :: ks, some (.Constant (.str s') _ _) :: kx, _, _, h, .cons p q, e => by
    have h' : (s == s' && ckKeys ks kx) = true := h
    rw [Bool.and_eq_true, beq_iff_eq] at h'
    obtain ⟨rfl, h2⟩ := h'
    exact pps_cons pe_str p (pps_of ks kx h2 q (by simpa [Exs.len] using e))
  | .inl s :: ks, some (.Constant (.int s') _ _) :: kx, _, _, h, .cons p q, e => by
    have h' : (s == s' && ckKeys ks kx) = true := h
    rw [Bool.and_eq_true, beq_iff_eq] at h'
    obtain ⟨rfl, h2⟩ := h'
    exact pps_cons pe_int p (pps_of ks kx h2 q (by simpa [Exs.len] using e))
theorem newDK {K : PySem.W.Frag} {Z : Addr → Prop} {own : Bool} {τ : VS} {σ : Sg} {H : Hp} {h : Hd} {vs : List (Key × V)} {ds : List (Key × D)} {QD : PQ} {Q : VK} {q1 : Addr} (R : Rel ca K Z H h τ σ) (rs : RDp ca K Z H h vs ds)
    (w : match own with
      | true => ∀ p, h p = none → QD (.ref p) (hup h p (.dK ds))
      | false => QD (.dK ds) h) (hq : H q1 = none)
    (k : ∀ v d H' h', Rel ca K Z H' h' τ σ → Stp Z H h H' h' → RD ca K Z H' h' v d → QD d h' → Q v H') : Q (.ref q1) (upd H q1 (.dK vs)) := by
  cases own with
  | true =>
    have st : Stp Z H h (upd H q1 (.dK vs)) (hup h q1 (.dK ds)) := Stp.newO R.own hq
    exact k _ _ _ _ (R.stp st (R.own.newO hq (.dK rs))) st (.ref q1) (w q1 (R.own.none_of hq).1)
  | false =>
    have st : Stp Z H h (upd H q1 (.dK vs)) h := Stp.fresh R.own hq
    exact k _ _ _ _ (R.stp st (R.own.fresh hq)) st (.dK (R.own.none_of hq) (.inl upd_same) (rs.stp st)) w
theorem c_dct {own : Bool} {ks : List Key} {kx : List (Option Expr)} {vx : List Expr} {es : Exs} (hk : ckKeys ks kx = true) (h15 : ks.length ≤ 15) (hl : ks.length = vx.length) (nd : ks.Nodup) (hv : PEs X T ca W vx es) : PE X (.Dict kx vx pos) (tX T ca X.K W (.dct own ks es)) := by
  obtain ⟨k1, k2⟩ := keys_some ks kx hk
  have le : ks.length = es.len := hl.trans hv.len
  by_cases h0 : kx = []
  · subst h0
    have e1 : ks = [] := List.length_eq_zero_iff.mp k2.symm
    subst e1
    have e2 : vx = [] := List.length_eq_zero_iff.mp hl.symm
    subst e2
    cases hv
    refine pe_weak pe_dnewK fun τ H Q ⟨σ, h, Z, QD, ED, R, w, k, ke⟩ => ?_
    unfold wpE wpEs at w
    exact fun q1 hq => newDK R .nil w hq k
  · refine pe_weak (pe_disp (pps_of ks kx hk hv le) k1 (k2.trans hl) h0 (by rw [k2]; exact h15)) fun τ H Q ⟨σ, h, Z, QD, ED, R, w, k, ke⟩ => ?_
    unfold wpE at w
    intro q1 hq
    have m0 : Mv Z H h (Zp Z q1) (upd H q1 (.dK [])) h := Mv.hold R.own hq
    have nz : ¬ Z q1 := (R.own.none_of hq).2
    have r1 := R.stp m0 (R.own.hold hq)
    refine pairsK ks es r1 w le (fun vs ds H2 h2 r2 s2 rs ln q => ?_) fun cls dd c fs H' h' r' s' x' => ke cls dd c fs H' h' r'.outF ((m0.on s').fin Tr.outF fun _ _ => rfl) (x'.tr Tr.outF)
    have e2 : H2 q1 = some (.dK []) := (s2.res q1 (.inr rfl)).trans upd_same
    refine ⟨e2, ks.zip vs, rfl, by rw [List.length_zip]; omega, ?_⟩
    have em : mergeK [] (ks.zip vs) = ks.zip vs := by
      have q := merge_nd (ks.zip vs) [] (by rw [List.nil_append, zip_fst ks vs (by rw [rs.length, ln])]; exact nd)
      simpa using q
    rw [em]
    have rp : RDp ca X.K (Zp Z q1) (upd H2 q1 (.dK (ks.zip vs))) h2 (ks.zip vs) (ks.zip ds) := RDp.tr Tr.tip (RDp.zip ks rs)
    have o3 : Own ca X.K (Zp Z q1) (upd H2 q1 (.dK (ks.zip vs))) h2 := r2.own.tip
    have ne : ∀ b, Z b → upd H2 q1 (.dK (ks.zip vs)) b = H2 b := fun b z => upd_ne fun q => by
      subst q
      exact nz z
    cases own with
    | true =>
      have st : Stp Z H h (upd H2 q1 (.dK (ks.zip vs))) (hup h2 q1 (.dK (ks.zip ds))) := (m0.on s2).fin (Tr.mk fun b u hb e => Tr.outO.keep b u hb (Tr.tip.keep b u hb e).2) ne
      exact k _ _ _ _ (R.stp st (o3.outO nz upd_same (.dK rp))) st (.ref q1) (q q1 (r2.own.res q1 (.inr rfl)).1)
    | false =>
      have st : Stp Z H h (upd H2 q1 (.dK (ks.zip vs))) h2 := (m0.on s2).fin (Tr.mk fun b u hb e => Tr.outF.keep b u hb (Tr.tip.keep b u hb e).2) ne
      exact k _ _ _ _ (R.stp st o3.outF) st (.dK ⟨(r2.own.res q1 (.inr rfl)).1, nz⟩ (.inl upd_same) (RDp.tr Tr.outF rp)) q
end
end Rt

namespace Rt
open PySem PySem.Spec PyProof.Rows L2

/-- the iterator J gives the items, whatever happens to what is owned or kept back -/
structure Drw (ca : Nat → Addr) (K : PySem.W.Frag) (Z : Addr → Prop) (J : L2.It) (items : List D) (H : Hp) (h : Hd) : Prop where
  go : ∀ i Z' H' h', Tr Z H h Z' H' h' → i < items.length → J.go i H'
  yld : ∀ i x d Z' H' h' H'', Tr Z H h Z' H' h' → Own ca K Z' H' h' → items[i]? = some d → J.yld i H' x H'' → Stp Z' H' h' H'' h' ∧ Own ca K Z' H'' h' ∧ RD ca K Z' H'' h' x d
  stop : ∀ i Z' H' h', Tr Z H h Z' H' h' → items.length ≤ i → J.stop i H'
def tXI (T : Tb) (ca : Nat → Addr) (K : PySem.W.Frag) (W : WX) (ir : Iw) : TI := fun τ H R => ∃ (σ : Sg) (h : Hd) (Z : Addr → Prop) (QD : List D → Hd → Prop) (ED : PX), Rel ca K Z H h τ σ ∧ wpI T ir σ h QD ED ∧
  (∀ J items H' h', Rel ca K Z H' h' τ σ → Stp Z H h H' h' → Drw ca K Z J items H' h' → QD items h' → R J H') ∧
  (∀ cls dd c fs H' h', Rel ca K Z H' h' τ σ → Stp Z H h H' h' → XR ca K Z H' h' cls dd c fs → ED c fs h' → W cls dd τ H')
section
variable {G : Gs} {T : Tb} {ca : Nat → Addr} {X : Cx} {S : Sx} {W : WX} {K : PySem.W.Frag} {Z : Addr → Prop} {H : Hp} {h : Hd} {a b c : Ex} {x y z tg : Expr} {pos p : Pos}
theorem draws_l {p : Addr} {vs : List V} {ds : List D} (f : FzL K Z H h p vs) (r : RDs ca K Z H h vs ds) : Drw ca K Z (Itl K p) ds H h where
  go := fun i Z' H' h' s hi => by
    have hi' : i < vs.length := by rw [r.length]; exact hi
    exact ⟨vs, vs[i], (s.fzL f).sq, by simp [hi']⟩
  yld := fun i x d Z' H' h' H'' s o e y => by
    obtain ⟨rfl, y⟩ := y
    obtain ⟨v, h1, h2⟩ := r.get e
    have q := y vs (s.fzL f).sq
    rw [h1] at q; cases q
    exact ⟨Stp.refl, o, h2.tr s⟩
  stop := fun i Z' H' h' s hi => ⟨vs, (s.fzL f).sq, by rw [r.length]; exact hi⟩
theorem draws_t {p : Addr} {vs : List V} {ds : List D} (f : FzT K Z H h p vs) (r : RDs ca K Z H h vs ds) : Drw ca K Z (Itt K p) ds H h where
  go := fun i Z' H' h' s hi => by
    have hi' : i < vs.length := by rw [r.length]; exact hi
    exact ⟨vs, vs[i], (s.fzT f).sq, by simp [hi']⟩
  yld := fun i x d Z' H' h' H'' s o e y => by
    obtain ⟨rfl, y⟩ := y
    obtain ⟨v, h1, h2⟩ := r.get e
    have q := y vs (s.fzT f).sq
    rw [h1] at q; cases q
    exact ⟨Stp.refl, o, h2.tr s⟩
  stop := fun i Z' H' h' s hi => ⟨vs, (s.fzT f).sq, by rw [r.length]; exact hi⟩
theorem rangeL_get {lo c : Int} {n i : Nat} {d : D} (e : (rangeL lo c n)[i]? = some d) : i < n ∧ d = .int (lo + (i : Nat) * c) := by
  unfold rangeL at e
  rw [List.getElem?_map] at e
  by_cases hi : i < n
  · rw [List.getElem?_range hi] at e
    cases e
    exact ⟨hi, rfl⟩
  · rw [List.getElem?_eq_none (by simpa using hi)] at e
    cases e
theorem rangeL_len {lo c : Int} {n : Nat} : (rangeL lo c n).length = n := by simp [rangeL]
theorem draws_r {lo : Int} {n : Nat} : Drw ca K Z (Itr lo n) (rangeL lo 1 n) H h where
  go := fun i Z' H' h' s hi => by rw [rangeL_len] at hi; exact hi
  yld := fun i x d Z' H' h' H'' s o e y => by
    obtain ⟨rfl, rfl⟩ := y
    obtain ⟨_, rfl⟩ := rangeL_get e
    rw [Int.mul_one]
    exact ⟨Stp.refl, o, .int _⟩
  stop := fun i Z' H' h' s hi => by rw [rangeL_len] at hi; exact hi
/-- a list or a tuple is walked -/
def iSq (K : PySem.W.Frag) (tl : TE) : TI := fun σ H R => tl σ H fun x H1 => ∃ p, x = .ref p ∧ (((∃ xs, SqL K H1 p xs) ∧ R (Itl K p) H1) ∨ ((∃ xs, SqT K H1 p xs) ∧ R (Itt K p) H1))
theorem pi_sq {l : Expr} {tl : TE} (hl : PE X l tl) : PI X tg l (iSq X.K tl) := by
  refine ⟨fun pins s τ H R I hq => ?_⟩
  refine thn (hl.run pins s τ H _ I hq) fun v s1 ⟨x, H1, I1, r1, q1⟩ => ?_
  obtain ⟨p, rfl, q1⟩ := q1
  cases r1
  have fresh : ∀ b ∈ [s1.heap.objs.size], FpOk X pins H1 b := fun b hb => by
    obtain rfl : b = s1.heap.objs.size := by simpa using hb
    exact I1.fpOk (Nat.le_refl _) (I1.hok.fresh (Nat.le_refl _))
  rcases q1 with ⟨⟨xs, hs⟩, q⟩ | ⟨⟨xs, hs⟩, q⟩
  · obtain ⟨its, rv, pl, hz⟩ := I1.list hs
    exact wpAny_pyIter_list pl.isList ⟨_, [s1.heap.objs.size], _, _, H1, rfl, I1.kept (t' := s1.toks) fun b o e => Heap.get?_push_of_some _ e, turn_list p _, ⟨_, Heap.get?_push_size _ rfl, rfl, rfl⟩, fresh, q⟩
  · obtain ⟨its, rv, pl, hz⟩ := I1.tuple hs
    exact wpAny_pyIter_tuple (show s1.heap.IsTuple p its.toArray from pl) ⟨_, [s1.heap.objs.size], _, _, H1, rfl, I1.kept (t' := s1.toks) fun b o e => Heap.get?_push_of_some _ e, turn_tuple p _, ⟨_, Heap.get?_push_size _ rfl, rfl, rfl⟩, fresh, q⟩
theorem pi_weak {e : Expr} {t t' : TI} (q : PI X tg e t) (w : ∀ τ H Q, t' τ H Q → t τ H Q) : PI X tg e t' := ⟨fun pins s σ H R I hq => q.run pins s σ H R I (w _ _ _ hq)⟩
theorem ci_seq (ha : PE X x (tX T ca X.K W a)) : PI X tg x (tXI T ca X.K W (.seq a)) :=
  pi_weak (pi_sq ha) fun τ H R ⟨σ, h, Z, QD, ED, Re, w, k, ke⟩ => by
    unfold wpI at w
    refine one Re w (fun x v H1 h1 r1 s1 rx q => ?_) ke
    unfold seqP at q
    split at q
    · cases rx with
      | tup f r => exact ⟨_, rfl, .inr ⟨⟨_, f.sq⟩, k _ _ _ _ r1 s1 (draws_t f r) q⟩⟩
    · cases rx with
      | lst n e r => exact ⟨_, rfl, .inl ⟨⟨_, SqL.of e⟩, k _ _ _ _ r1 s1 (draws_l (.inl ⟨n, .inl e⟩) r) q⟩⟩
    · cases rx with
      | scr f r => exact ⟨_, rfl, .inl ⟨⟨_, f.sq⟩, k _ _ _ _ r1 s1 (draws_l f r) q⟩⟩
    · exact q.elim
theorem RDs.i1 {vs : List V} {i : Int} (r : RDs ca K Z H h vs [.int i]) : vs = [.int i] := by
  obtain ⟨v, rfl, q⟩ := r.one
  cases q
  rfl
theorem RDs.i2 {vs : List V} {i j : Int} (r : RDs ca K Z H h vs [.int i, .int j]) : vs = [.int i, .int j] := by
  obtain ⟨v, u, rfl, q, q'⟩ := r.two
  cases q; cases q'
  rfl
theorem turn_long {P : Program} {w : World} (it : Addr) (lo : Int) (n : Nat) : Turn P w K tg (Itr lo n) [it] it (fun i h => IsLongIter h it (lo + (i : Nat) * 1) ((n : Int) - (i : Nat)) 1) where
  mem := List.mem_singleton.mpr rfl
  obj := fun i h st b hb => by
    cases List.mem_singleton.mp hb
    refine ⟨_, st, fun v z => ?_⟩
    have z' : Data.fields _ = Data.cell v := z
    cases z'
  keep := fun i h h' st kp => kp it (List.mem_singleton.mpr rfl) _ st
  item := by
    intro X eP ew eK calm i pins s τ H E I fr st lt
    subst eP ew eK
    obtain ⟨n0, n1, n2, n3, n4, n5⟩ := fr it (List.mem_singleton.mpr rfl)
    refine (Walks.longrange (prog := X.prog) (w := X.w) (I.ok.hd calm) it lo 1 n).item i s _ _ lt st fun v h' tk hv st' kk => ?_
    obtain ⟨t, rfl⟩ := hv
    have J : Inv X pins τ H { s with heap := h', toks := tk } := I.turned (fun b o nb e => kk b o (by simpa using nb) e) n0 n1 n3 n4 n5
    refine ⟨_, rfl, go_of (n := "longrange_iterator") (s := { s with heap := h', toks := tk }) st' rfl rfl (by decide) ⟨.int (lo + i), H, J, ⟨t, by rw [Int.mul_one]⟩, ⟨rfl, rfl⟩, st', fun b hb => (fr b hb).1⟩⟩
  done := by
    intro X eP ew eK calm i pins s τ H E I fr st ge
    subst eP ew eK
    obtain ⟨n0, n1, n2, n3, n4, n5⟩ := fr it (List.mem_singleton.mpr rfl)
    refine wpAny_pyNext_long_end (I.ok.hd calm) st ?_ fun h' eb => ⟨rfl, I.turned (t' := s.toks) (fun b o nb e => eb b o nb e) n0 n1 n3 n4 n5⟩
    have ge' : n ≤ i := ge
    omega
  self := fun _ _ _ _ _ st q => wpAny_pyIter_longiter st q
/-- a range is walked, however far it reaches -/
theorem rng_any {pins : List (Addr × Obj)} {τ : VS} {s : Shared} {R : L2.It → Hp → Prop} {E : Value → Shared → Prop} {lo hi : Int} {t u v : Tok} {tk : Nat} (I : Inv X pins τ H s) (q : R (Itr lo (hi - lo).toNat) H) :
    wpAny (model X.prog X.w) X.A (pyIter (.ref s.heap.objs.size)) (PIE X pins τ tg R) E { s with heap := s.heap.push { cls := .type "range", data := .fields #[.int lo t, .int hi u, .int 1 v] }, toks := tk } := by
  have J : Inv X pins τ H { s with heap := s.heap.push { cls := .type "range", data := .fields #[.int lo t, .int hi u, .int 1 v] }, toks := tk } := I.kept fun b o e => Heap.get?_push_of_some _ e
  have e1 : lo + ((0 : Nat) : Int) * 1 = lo := by simp
  have e2 : (((hi - lo).toNat : Nat) : Int) - ((0 : Nat) : Int) = Builtin.Range.rangeSize lo hi 1 := by
    rw [rangeSize_one]
    split <;> omega
  have fresh : ∀ b ∈ [(s.heap.push { cls := .type "range", data := .fields #[.int lo t, .int hi u, .int 1 v] }).objs.size], FpOk X pins H b := fun b hb => by
    have e : b = _ := List.mem_singleton.mp hb
    rw [e]
    exact J.fpOk (Nat.le_refl _) (J.hok.fresh (Nat.le_refl _))
  cases sm : Builtin.Range.small lo hi 1 with
  | true =>
    refine wpAny_pyIter_range (IsRange.new ..) sm ?_
    refine ⟨(s.heap.push { cls := .type "range", data := .fields #[.int lo t, .int hi u, .int 1 v] }).objs.size, [(s.heap.push { cls := .type "range", data := .fields #[.int lo t, .int hi u, .int 1 v] }).objs.size], _, _, H, rfl, J.kept (t' := tk) fun b o e => Heap.get?_push_of_some _ e, turn_range _ lo (hi - lo).toNat, ?_, fresh, q⟩
    show IsRangeIter _ _ (lo + ((0 : Nat) : Int) * 1) ((((hi - lo).toNat : Nat) : Int) - ((0 : Nat) : Int)) 1
    rw [e1, e2]
    exact Heap.get?_push_size _ rfl
  | false =>
    refine wpAny_pyIter_longrange (IsRange.new ..) sm ?_
    refine ⟨(s.heap.push { cls := .type "range", data := .fields #[.int lo t, .int hi u, .int 1 v] }).objs.size, [(s.heap.push { cls := .type "range", data := .fields #[.int lo t, .int hi u, .int 1 v] }).objs.size], _, _, H, rfl, J.kept (t' := tk) fun b o e => Heap.get?_push_of_some _ e, turn_long _ lo (hi - lo).toNat, ?_, fresh, q⟩
    show IsLongIter _ _ (lo + ((0 : Nat) : Int) * 1) ((((hi - lo).toNat : Nat) : Int) - ((0 : Nat) : Int)) 1
    rw [e1, e2]
    exact Heap.get?_push_size _ rfl
def iR1 (ta : TA) : TI := fun τ H R => ta τ H fun vs H1 => ∃ n : Int, vs = [.int n] ∧ R (Itr 0 n.toNat) H1
def iR2 (ta : TA) : TI := fun τ H R => ta τ H fun vs H1 => ∃ m n : Int, vs = [.int m, .int n] ∧ R (Itr m (n - m).toNat) H1
theorem pi_r1 {ta : TA} (hg : Gl X "range") (hm : X.mg "range" = none) (ha : PA X [x] ta) (hs : sane x = true) : PI X tg (.Call (.Name "range" p) [x] [] pos) (iR1 ta) := by
  refine ⟨fun pins s τ H R I hq => ?_⟩
  refine Call_ (ld_blt I hg hm boot_range (callWith_type1 (thn (ha.run pos pins s τ H _ I hq) fun us s1 ⟨vs, H1, J, rv, q⟩ => ?_) (sane_star hs) rfl))
  obtain ⟨n, e, q⟩ := q
  subst e
  cases rv with
  | cons r rr =>
    cases rr
    obtain ⟨t, rfl⟩ := r
    have q' : R (Itr 0 (n - 0).toNat) H1 := by rw [Int.sub_zero]; exact q
    exact call_range_1 (rng_any J q')
theorem pi_r2 {ta : TA} (hg : Gl X "range") (hm : X.mg "range" = none) (ha : PA X [x, y] ta) (hs : sane x = true) (hs2 : sane y = true) : PI X tg (.Call (.Name "range" p) [x, y] [] pos) (iR2 ta) := by
  refine ⟨fun pins s τ H R I hq => ?_⟩
  refine Call_ (ld_blt I hg hm boot_range (callWith_type1 (thn (ha.run pos pins s τ H _ I hq) fun us s1 ⟨vs, H1, J, rv, q⟩ => ?_) (sane_star hs) (by rw [sane_star hs2]; rfl)))
  obtain ⟨m, n, e, q⟩ := q
  subst e
  cases rv with
  | cons r rr =>
    cases rr with
    | cons r2 rr =>
      cases rr
      obtain ⟨t, rfl⟩ := r
      obtain ⟨t2, rfl⟩ := r2
      exact call_range_2 (rng_any J q)
theorem ci_rng1 {es : Exs} (O : Ok G T ca X S W) (hg : glB S.sc "range" = true) (hf : G.free "range" = true) (hs : sane x = true) (he : es.len = 1) (ha : PA X [x] (tXs T ca X.K W es)) : PI X tg (.Call (.Name "range" p) [x] [] pos) (tXI T ca X.K W (.rng es)) :=
  pi_weak (pi_r1 (O.gl hg) (O.free _ hf) ha hs) fun τ H R ⟨σ, h, Z, QD, ED, Re, w, k, ke⟩ => by
    unfold wpI at w
    refine ⟨σ, h, Z, _, ED, Re, w, fun vs ds H1 h1 r1 s1 rs le q => ?_, ke⟩
    unfold rngP at q
    split at q
    · have e := rs.i1
      exact ⟨_, e, k _ _ _ _ r1 s1 draws_r q⟩
    · rw [he] at le; cases le
    · exact q.elim
theorem ci_rng2 {es : Exs} (O : Ok G T ca X S W) (hg : glB S.sc "range" = true) (hf : G.free "range" = true) (hs : sane x = true) (hy : sane y = true) (he : es.len = 2) (ha : PA X [x, y] (tXs T ca X.K W es)) : PI X tg (.Call (.Name "range" p) [x, y] [] pos) (tXI T ca X.K W (.rng es)) :=
  pi_weak (pi_r2 (O.gl hg) (O.free _ hf) ha hs hy) fun τ H R ⟨σ, h, Z, QD, ED, Re, w, k, ke⟩ => by
    unfold wpI at w
    refine ⟨σ, h, Z, _, ED, Re, w, fun vs ds H1 h1 r1 s1 rs le q => ?_, ke⟩
    unfold rngP at q
    split at q
    · rw [he] at le; cases le
    · have e := rs.i2
      exact ⟨_, _, e, k _ _ _ _ r1 s1 draws_r q⟩
    · exact q.elim

/-! ### targets -/
/-- names take a value: the new slots, and that no others are touched -/
def tXN (ca : Nat → Addr) (K : PySem.W.Frag) (ir : Tg) : TG := fun v τ H Q => ∃ (d : D) (σ σ1 : Sg) (h : Hd) (Z : Addr → Prop), Rel ca K Z H h τ σ ∧ RD ca K Z H h v d ∧ bndN ir d σ = some σ1 ∧
  ∀ τ', Rel ca K Z H h τ' σ1 → (∀ ws : List Nat, (∀ i ∈ ir.slots, i ∈ ws) → L2.wipe τ' ws = L2.wipe τ ws) → Q τ' H
def tXNs (ca : Nat → Addr) (K : PySem.W.Frag) (ir : Tgs) : TGs := fun vs τ H Q => ∃ (ds : List D) (σ σ1 : Sg) (h : Hd) (Z : Addr → Prop), Rel ca K Z H h τ σ ∧ RDs ca K Z H h vs ds ∧ bndNs ir ds σ = some σ1 ∧
  ∀ τ', Rel ca K Z H h τ' σ1 → (∀ ws : List Nat, (∀ i ∈ ir.slots, i ∈ ws) → L2.wipe τ' ws = L2.wipe τ ws) → Q τ' H
theorem wipe_set {τ : VS} {i : Nat} {v : Option V} : ∀ ws : List Nat, i ∈ ws → L2.wipe (τ.set i v) ws = L2.wipe τ ws
  | [], m => nomatch m
  | w :: ws, m => by
    unfold L2.wipe
    by_cases hi : i ∈ ws
    · rw [wipe_set ws hi]
    · have e : i = w := (List.mem_cons.mp m).resolve_right hi
      subst e
      have go : ∀ (us : List Nat), i ∉ us → (L2.wipe (τ.set i v) us) = (L2.wipe τ us).set i v := by
        intro us
        induction us with
        | nil => intro _; rfl
        | cons u us ih =>
          intro hu
          unfold L2.wipe
          rw [ih fun z => hu (List.mem_cons_of_mem _ z), List.set_comm]
          exact fun q => hu (by simp [q])
      rw [go ws hi, List.set_set]
theorem wipe_idem {τ : VS} : ∀ ws : List Nat, L2.wipe (L2.wipe τ ws) ws = L2.wipe τ ws := by
  intro ws
  have go : ∀ us : List Nat, (∀ i ∈ us, i ∈ ws) → L2.wipe (L2.wipe τ us) ws = L2.wipe τ ws := by
    intro us
    induction us with
    | nil => intro _; rfl
    | cons u us ih =>
      intro hu
      show L2.wipe ((L2.wipe τ us).set u none) ws = _
      rw [wipe_set ws (hu u (by simp)), ih fun i hi => hu i (List.mem_cons_of_mem _ hi)]
  exact go ws fun _ z => z
theorem bndNs_len : ∀ (ts : Tgs) {ds : List D} {σ σ1 : Sg} {xs : List Expr}, bndNs ts ds σ = some σ1 → ckNs S ts xs = true → ds.length = xs.length
  | .nil, ds, σ, σ1, xs, e, hc => by
    have e2 : xs = [] := by simpa [ckNs] using hc
    subst e2
    cases ds with
    | nil => rfl
    | cons _ _ => cases e
  | .cons t ts, ds, σ, σ1, xs, e, hc => by
    cases xs with
    | nil => cases hc
    | cons x xs =>
      cases ds with
      | nil => cases e
      | cons d ds =>
        have e' : (bndN t d σ).bind (fun σ1 => bndNs ts ds σ1) = some σ1 := e
        cases q : bndN t d σ with
        | none => rw [q] at e'; cases e'
        | some σ2 =>
          rw [q] at e'
          have hc' : (sane x && ckN S t x && ckNs S ts xs) = true := hc
          simp only [Bool.and_eq_true] at hc'
          rw [List.length_cons, List.length_cons, bndNs_len ts e' hc'.2]
theorem sane_each {env : Env} {xs : List Expr} (hs : sane x = true) : assignEach (x :: xs) env = (false, assign x env) :: assignEach xs env := by
  cases x <;> first | rfl | cases hs
theorem each_ok (env : Env) : ∀ (ts : Tgs) (xs : List Expr), ckNs S ts xs = true → (assignEach xs env).length = xs.length ∧ (assignEach xs env).findIdx? (·.1) = none
  | .nil, xs, hc => by
    have e2 : xs = [] := by simpa [ckNs] using hc
    subst e2
    exact ⟨rfl, rfl⟩
  | .cons t ts, xs, hc => by
    cases xs with
    | nil => cases hc
    | cons x xs =>
      have hc' : (sane x && ckN S t x && ckNs S ts xs) = true := hc
      simp only [Bool.and_eq_true] at hc'
      obtain ⟨h1, h2⟩ := each_ok env ts xs hc'.2
      rw [sane_each hc'.1.1, List.length_cons, List.length_cons, h1, List.findIdx?_cons, h2]
      exact ⟨rfl, rfl⟩
theorem Ok.loc {n : Str} (O : Ok G T ca X S W) (hl : locB S n = true)  : L2.Loc X.env.scope n ∧ (X.fn n = true ∨ X.env.scope.names.lookup n = some .local) := by
  unfold locB at hl
  unfold L2.Loc
  rw [O.sce]
  split at hl
  · exact ⟨.inl (by assumption), .inr (by assumption)⟩
  · exact ⟨.inr (by assumption), .inl (O.fl n hl)⟩
  · cases hl
theorem pg_weak {t t' : TG} (q : PG X x t) (w : ∀ v τ H Q, t' v τ H Q → t v τ H Q) : PG X x t' := ⟨fun pins s τ H v u Q I r hq => q.run pins s τ H v u Q I r (w _ _ _ _ hq)⟩
theorem pgs_weak {xs : List Expr} {t t' : TGs} (q : PGs X xs t) (w : ∀ v τ H Q, t' v τ H Q → t v τ H Q) : PGs X xs t' := ⟨fun pins s τ H vs us Q I r hq => q.run pins s τ H vs us Q I r (w _ _ _ _ hq)⟩
mutual
theorem cg_n (O : Ok G T ca X S W) : ∀ (t : Tg) (x : Expr), ckN S t x = true → PG X x (tXN ca X.K t)
  | .n i, x, hc => by
    unfold ckN at hc
    split at hc
    · rename_i n pos
      rw [Bool.and_eq_true, beq_iff_eq] at hc
      obtain ⟨l1, l2⟩ := O.loc hc.2
      refine pg_weak (pg_name (i := i) O.nd (by rw [O.nm]; exact hc.1) l1 l2) fun v τ H Q hq => ?_
      obtain ⟨d, σ, σ1, h, Z, R, r, e, k⟩ := hq
      cases e
      exact k _ ⟨R.own, R.env.set r i⟩ fun ws hw => wipe_set ws (hw i (by simp [Tg.slots]))
    · cases hc
  | .t ts, x, hc => by
    unfold ckN at hc
    split at hc
    · rename_i xs j pos
      obtain ⟨e1, e2⟩ := each_ok (S := S) X.env ts xs hc
      refine pg_weak (pg_tup O.calm (cg_ns O ts xs hc) e1 e2) fun v τ H Q hq => ?_
      obtain ⟨d, σ, σ1, h, Z, R, r, e, k⟩ := hq
      unfold bndN at e
      split at e
      · rename_i ds
        cases r with
        | tup f r => exact ⟨_, _, rfl, f.sq, by rw [r.length]; exact bndNs_len ts e hc, ds, σ, σ1, h, Z, R, r, e, k⟩
      · cases e
    · cases hc
  | .sub _ _, _, hc => nomatch hc
  | .fld _ _, _, hc => nomatch hc
theorem cg_ns (O : Ok G T ca X S W) : ∀ (ts : Tgs) (xs : List Expr), ckNs S ts xs = true → PGs X xs (tXNs ca X.K ts)
  | .nil, xs, hc => by
    have e2 : xs = [] := by simpa [ckNs] using hc
    subst e2
    refine pgs_weak pgs_nil fun v τ H Q hq => ?_
    obtain ⟨ds, σ, σ1, h, Z, R, r, e, k⟩ := hq
    cases r with
    | nil =>
      cases e
      exact ⟨rfl, k τ R fun _ _ => rfl⟩
    | cons _ _ => cases e
  | .cons t ts, xs, hc => by
    cases xs with
    | nil => cases hc
    | cons x xs =>
      have hc' : (sane x && ckN S t x && ckNs S ts xs) = true := hc
      simp only [Bool.and_eq_true] at hc'
      refine pgs_weak (pgs_cons (cg_n O t x hc'.1.2) (cg_ns O ts xs hc'.2) (by rw [sane_each hc'.1.1]; rfl)) fun v τ H Q hq => ?_
      obtain ⟨ds, σ, σ1, h, Z, R, r, e, k⟩ := hq
      cases r with
      | nil => cases e
      | cons r rs =>
        rename_i v0 d0 vs0 ds0
        have e' : (bndN t d0 σ).bind (fun σ1 => bndNs ts ds0 σ1) = some σ1 := e
        cases q : bndN t d0 σ with
        | none => rw [q] at e'; cases e'
        | some σ2 =>
          rw [q] at e'
          exact ⟨_, _, rfl, d0, σ, σ2, h, Z, R, r, q, fun τ' R' hw => ⟨ds0, σ2, σ1, h, Z, R', rs, e', fun τ2 R2 hw2 => k τ2 R2 fun ws hs => by
            rw [hw2 ws fun i hi => hs i (by simp [Tgs.slots, hi]), hw ws fun i hi => hs i (by simp [Tgs.slots, hi])]⟩⟩
end

/-! ### comprehensions -/
def tXC (T : Tb) (ca : Nat → Addr) (K : PySem.W.Frag) (ir : Exs) : TT := fun τ H Q => ∃ (σ : Sg) (h : Hd) (Z : Addr → Prop) (QD : Bool → Hd → Prop), Rel ca K Z H h τ σ ∧ wpC T ir σ h QD ∧ ∀ b H' h', Rel ca K Z H' h' τ σ → Stp Z H h H' h' → QD b h' → Q b H'
abbrev W0 : WX := fun _ _ _ _ => False
theorem takes0 {X : Cx} : Takes X W0 := fun _ _ ⟨_, _, _, _, _, _, _, _, _, _, _, _, _, _, _, _, w⟩ => w.elim
theorem Ok.blk (O : Ok G T ca X S W) (s : Shared) (H : Hp) (scp : Scope) (C : Addr) (cl : List (Str × Addr)) (fp : List Addr) :
    Ok G T ca (X.blk s H scp (compEnvC scp cl C X.env) fp) { S with sc := relS scp S.sc, fl := fun x => scp.names.lookup x == some .cell } W0 :=
  ⟨by show relS scp X.env.scope = _; rw [O.sce], O.nm, fun _ z => z, O.calm, O.nd, O.room, O.gd, takes0, O.fn, O.free⟩
theorem ccs_nil : PTs X [] (tXC T ca X.K .nil) := ⟨fun pins s τ H Q I ⟨σ, h, Z, QD, R, w, k⟩ => by
  unfold wpC at w
  exact pts_nil.run pins s τ H Q I (k _ _ _ R Stp.refl w)⟩
theorem ccs_one (ha : PT X x (tXT T ca X.K W0 a)) : PTs X [x] (tXC T ca X.K (.cons a .nil)) := ⟨fun pins s τ H Q I ⟨σ, h, Z, QD, R, w, k⟩ => by
  unfold wpC at w
  exact (pts_one ha).run pins s τ H Q I ⟨σ, h, Z, QD, noX, R, w, k, fun _ _ _ _ _ _ _ _ _ z => z.elim⟩⟩
theorem lcP_nil {step : D → Hd → (Option D → Hd → Prop) → Prop} {acc : List D} {h : Hd} {Kq : List D → Hd → Prop} (w : lcP step [] acc h Kq) : Kq acc h := w
theorem drop_cons {items : List D} {i : Nat} (hi : i < items.length) : ∃ d, items[i]? = some d ∧ items.drop i = d :: items.drop (i + 1) := ⟨items[i], by simp [hi], List.drop_eq_getElem_cons hi⟩
theorem lcK {own : Bool} {ws : List Nat} {t : Tg} {cs : Exs} {e : Ex} {it : Iw} {τ : VS} {Q : VK} (hslots : ∀ i ∈ t.slots, i ∈ ws) (hq : tX T ca K W (.lc own ws t it cs e) τ H Q) :
    tLc (tXI T ca K W it) (tXN ca K t) (tXC T ca K cs) (tX T ca K W0 e) ws τ H Q := by
  obtain ⟨σ, h, Z, QD, ED, R, w, k, ke⟩ := hq
  unfold wpE at w
  refine ⟨σ, h, Z, _, ED, R, w, fun J items H1 h1 R1 s1 dr q Da hD => ?_, ke⟩
  obtain ⟨hlen, q⟩ := q
  have nz : ¬ Z Da := (R1.own.none_of hD).2
  have m0 : Mv Z H1 h1 (Zp Z Da) (upd H1 Da (.lst [])) h1 := Mv.hold R1.own hD
  refine ⟨fun i m H' => m = items.length - i ∧ i ≤ items.length ∧ ∃ (h' : Hd) (acc : List V) (da : List D), Rel ca K (Zp Z Da) H' h' τ σ ∧ Mv Z H1 h1 (Zp Z Da) H' h' ∧ H' Da = some (.lst acc) ∧ RDs ca K (Zp Z Da) H' h' acc da ∧ acc.length ≤ i ∧
    lcP (fun x h2 R => optP (bndN t x (sWipe σ ws)) fun σ1 => wpC T cs σ1 h2 fun b h4 => br b (wpE T e σ1 h4 (fun y h5 => R (some y) h5) noX) (R none h4)) (items.drop i) da h' fun ys h2 => newL own ys h2 QD,
    ⟨_, rfl, Nat.zero_le _, h1, [], [], R1.stp m0 (R1.own.hold hD), m0, upd_same, .nil, Nat.le_refl _, q⟩, ?_⟩
  rintro i m H' ⟨rfl, hi, h', acc, da, R2, m2, e2, ra, la, q2⟩
  by_cases hlt : i < items.length
  · obtain ⟨d, hd, hdr⟩ := drop_cons hlt
    rw [hdr] at q2
    refine .inr ⟨dr.go i _ _ _ m2.tr hlt, fun H'' => items.length - (i + 1) = items.length - (i + 1) ∧ i + 1 ≤ items.length ∧ ∃ (h' : Hd) (acc : List V) (da : List D), Rel ca K (Zp Z Da) H'' h' τ σ ∧ Mv Z H1 h1 (Zp Z Da) H'' h' ∧ H'' Da = some (.lst acc) ∧ RDs ca K (Zp Z Da) H'' h' acc da ∧ acc.length ≤ i + 1 ∧
      lcP (fun x h2 R => optP (bndN t x (sWipe σ ws)) fun σ1 => wpC T cs σ1 h2 fun b h4 => br b (wpE T e σ1 h4 (fun y h5 => R (some y) h5) noX) (R none h4)) (items.drop (i + 1)) da h' fun ys h2 => newL own ys h2 QD,
      fun H'' hn => ⟨items.length - (i + 1), by omega, hn⟩, fun x H3 hy => ?_⟩
    obtain ⟨s3, o3, rx⟩ := dr.yld i x d _ _ _ _ m2.tr R2.own hd hy
    have R3 := R2.stp s3 o3
    have m3 := m2.on s3
    have e3 : H3 Da = some (.lst acc) := (s3.res Da (.inr rfl)).trans e2
    obtain ⟨σ1, hb, q3⟩ := optP_some q2
    refine ⟨d, sWipe σ ws, σ1, h', Zp Z Da, ⟨R3.own, R3.env.wipe ws⟩, rx, hb, fun τ2 R4 hw => ⟨?_, σ1, h', Zp Z Da, _, R4, q3, fun b H4 h4 R5 s4 q4 => ?_⟩⟩
    · rw [hw ws hslots, wipe_idem]
    · have m4 := m3.on s4
      have e4 : H4 Da = some (.lst acc) := (s4.res Da (.inr rfl)).trans e3
      have R34 : Rel ca K (Zp Z Da) H4 h4 τ σ := R3.stp s4 R5.own
      cases b with
      | false => exact iteF ⟨rfl, hlt, h4, acc, da, R34, m4, e4, (ra.stp s3).stp s4, by omega, q4.2 rfl⟩
      | true =>
        refine iteT ⟨σ1, h4, Zp Z Da, _, noX, R5, q4.1 rfl, fun y dy H5 h5 R6 s5 ry q5 => ?_, fun _ _ _ _ _ _ _ _ _ z => z.elim⟩
        have m5 := m4.on s5
        have e5 : H5 Da = some (.lst acc) := (s5.res Da (.inr rfl)).trans e4
        refine ⟨acc, e5, by omega, rfl, hlt, h5, acc ++ [y], da ++ [dy], ?_, ?_, upd_same, ?_, by rw [List.length_append, List.length_singleton]; omega, q5⟩
        · exact ⟨R6.own.tip, (R34.env.stp s5).tr Tr.tip⟩
        · refine ⟨fun b u hb e => ?_, fun b z => ?_⟩
          · obtain ⟨f, g⟩ := m5.keep b u hb e
            exact Tr.tip.keep b u f g
          · rw [upd_ne fun q => by subst q; exact nz z]
            exact m5.res b z
        · exact RDs.tr Tr.tip ((((ra.stp s3).stp s4).stp s5).append (.cons ry .nil))
  · have e : i = items.length := by omega
    subst e
    rw [List.drop_length] at q2
    refine .inl ⟨dr.stop _ _ _ _ m2.tr (Nat.le_refl _), ?_⟩
    have q3 := lcP_nil q2
    cases own with
    | true =>
      have st : Stp Z H1 h1 H' (hup h' Da (.lst da)) := m2.fin Tr.outO fun _ _ => rfl
      exact k _ _ _ _ (R1.stp st (R2.own.outO nz e2 (.lst ra))) (s1.trans st) (.ref Da) (q3 Da (R2.own.res Da (.inr rfl)).1)
    | false =>
      have st : Stp Z H1 h1 H' h' := m2.fin Tr.outF fun _ _ => rfl
      exact k _ _ _ _ (R1.stp st R2.own.outF) (s1.trans st) (.lst ⟨(R2.own.res Da (.inr rfl)).1, nz⟩ e2 (RDs.tr Tr.outF ra)) q3
end
end Rt

namespace Rt
open PySem PySem.Spec PyProof.Rows L2

section
variable {G : Gs} {T : Tb} {ca : Nat → Addr}
theorem c_lc {X : Cx} {S : Sx} {W : WX} {own : Bool} {ws : List Nat} {t : Tg} {it : Iw} {cs : Exs} {e : Ex} {elt tg itx : Expr} {ifs : List Expr} {scp : Scope} {pos : Pos} (O : Ok G T ca X S W) (hs : sane itx = true)
    (hb : blkC S.N S.sc scp ((ws.filterMap fun w => S.N[w]?).zip ws) = true) (hn : (ws.filterMap fun w => S.N[w]?).length = ws.length) (hi : PI X tg itx (tXI T ca X.K W it)) (hg : slotsIn ws t = true)
    (hk : ckN { S with sc := relS scp S.sc, fl := fun x => scp.names.lookup x == some .cell } t tg = true)
    (ht : ∀ (s : Shared) (H : Hp) (C : Addr) (cl : List (Str × Addr)) (fp : List Addr), PTs (X.blk s H scp (compEnvC scp cl C X.env) fp) ifs (tXC T ca X.K cs))
    (he : ∀ (s : Shared) (H : Hp) (C : Addr) (cl : List (Str × Addr)) (fp : List Addr), PE (X.blk s H scp (compEnvC scp cl C X.env) fp) elt (tX T ca X.K W0 e)) :
    PE X (.ListComp elt [⟨tg, itx, ifs, 0⟩] scp pos) (tX T ca X.K W (.lc own ws t it cs e)) := by
  have e2 : ((ws.filterMap fun w => S.N[w]?).zip ws).map (·.2) = ws := List.map_snd_zip (by omega)
  refine pe_weak (pe_lc (g := tXN ca X.K t) (own := (ws.filterMap fun w => S.N[w]?).zip ws) O.calm O.nd hi (blkOk_by (by rw [O.nm, O.sce]; exact hb)) (fun s H C cl fp => cg_n (O.blk s H scp C cl fp) t tg hk) ht he fun _ => sane_fold hs) fun τ H Q hq => ?_
  rw [e2]
  refine lcK (fun i hi => ?_) hq
  have q := List.all_eq_true.mp hg i hi
  simpa using q
theorem ckEs_len {S : Sx} : ∀ (es : Exs) (xs : List Expr), ckEs G S es xs = true → xs.length = es.len
  | .nil, xs, h => by
    have e : xs = [] := by simpa [ckEs] using h
    subst e
    rfl
  | .cons a as, [], h => by simp [ckEs] at h
  | .cons a as, x :: xs, h => by
    simp only [ckEs, Bool.and_eq_true] at h
    exact congrArg (· + 1) (ckEs_len as xs h.2)
theorem ckEs_sane {S : Sx} : ∀ (es : Exs) (xs : List Expr), ckEs G S es xs = true → ∀ x ∈ xs, sane x = true
  | .nil, xs, h => by
    have e : xs = [] := by simpa [ckEs] using h
    subst e
    exact fun _ z => nomatch z
  | .cons a as, [], h => by simp [ckEs] at h
  | .cons a as, x :: xs, h => by
    simp only [ckEs, Bool.and_eq_true] at h
    intro y hy
    rcases List.mem_cons.mp hy with rfl | hy
    · exact h.1.1
    · exact ckEs_sane as xs h.2 y hy
theorem back_sane {env : Env} {pos : Pos} : ∀ (xs : List Expr), (∀ x ∈ xs, sane x = true) → (starEach xs env).any (·.1) = false
  | [], _ => rfl
  | x :: xs, h => by
    rw [sane_star (h x (by simp)), List.any_cons, back_sane (pos := pos) xs fun y hy => h y (by simp [hy])]
    rfl
theorem backTo_any {env : Env} {pos : Pos} (xs : List Expr) (h : ∀ x ∈ xs, sane x = true) : (backTo pos (starEach xs env)).any (·.1) = false := by
  have q := back_sane (env := env) (pos := pos) xs h
  have go : ∀ l : List (Bool × Sem Value), (backTo pos l).any (·.1) = l.any (·.1) := fun l => by
    unfold backTo
    rw [List.any_map]
    rfl
  rw [go, q]
theorem blkX {X : Cx} {S : Sx} {W : WX} (O : Ok G T ca X S W) (s : Shared) (H : Hp) (scp : Scope) (C : Addr) (cl : List (Str × Addr)) (fp : List Addr) : (X.blk s H scp (compEnvC scp cl C X.env) fp).K = X.K := rfl
mutual
theorem gE : ∀ (ir : Ex) {X : Cx} {S : Sx} {W : WX} (e : Expr), Ok G T ca X S W → ckE G S ir e = true → PE X e (tX T ca X.K W ir)
  | .v i, X, S, W, e, O, h => by
    unfold ckE at h
    split at h
    · simp only [Bool.and_eq_true, beq_iff_eq] at h
      exact c_v O h.1.1 h.1.2 h.2
    · cases h
  | .k c, X, S, W, e, O, h => by
    unfold ckE at h
    split at h
    · exact c_k h
    · cases h
  | .glo n, X, S, W, e, O, h => by simp [ckE] at h
  | .bin o a b, X, S, W, e, O, h => by
    unfold ckE at h
    split at h
    · simp only [Bool.and_eq_true, beq_iff_eq] at h
      obtain ⟨⟨rfl, h2⟩, h3⟩ := h
      exact c_bin (gE a _ O h2) (gE b _ O h3)
    · cases h
  | .neg a, X, S, W, e, O, h => by
    unfold ckE at h
    split at h
    · exact c_neg (gE a _ O h)
    · cases h
  | .not a, X, S, W, e, O, h => by
    unfold ckE at h
    split at h
    · exact c_not (gE a _ O h)
    · cases h
  | .bop o es, X, S, W, e, O, h => by
    unfold ckE at h
    split at h
    · simp only [Bool.and_eq_true, beq_iff_eq] at h
      obtain ⟨rfl, h2⟩ := h
      exact c_bop (gB es _ _ _ O h2)
    · cases h
  | .cmp o a b, X, S, W, e, O, h => by
    unfold ckE at h
    split at h
    · split at h
      · simp only [Bool.and_eq_true, beq_iff_eq] at h
        obtain ⟨⟨⟨rfl, h2⟩, h3⟩, h4⟩ := h
        exact c_cmp O h2 (gE a _ O h3) (gE b _ O h4)
      · cases h
    · cases h
  | .chain o o2 a b c, X, S, W, e, O, h => by
    unfold ckE at h
    split at h
    · split at h
      · simp only [Bool.and_eq_true, beq_iff_eq] at h
        obtain ⟨⟨⟨⟨⟨rfl, rfl⟩, h2⟩, h3⟩, h4⟩, h5⟩ := h
        exact c_chain O h2 (gE a _ O h3) (gE b _ O h4) (gE c _ O h5)
      · cases h
    · cases h
  | .ife c a b, X, S, W, e, O, h => by
    unfold ckE at h
    split at h
    · simp only [Bool.and_eq_true] at h
      exact c_ife (gT c _ O h.1.1) (gE a _ O h.1.2) (gE b _ O h.2)
    · cases h
  | .call f es, X, S, W, e, O, h => by
    unfold ckE at h
    split at h
    · rename_i n p xs kws pos
      simp only [Bool.and_eq_true] at h
      obtain ⟨⟨⟨⟨h0, h1⟩, h2⟩, h3⟩, h4⟩ := h
      have e0 : kws = [] := by simpa using h0
      subst e0
      split at h1
      · rename_i n' l m hf
        simp only [Bool.and_eq_true, beq_iff_eq, decide_eq_true_eq] at h1
        obtain ⟨⟨rfl, hl⟩, hm⟩ := h1
        have hs := ckEs_sane es xs h4
        refine c_call O hf hl hm h2 h3 (gEs es _ O h4) (fun x r e => hs x (by rw [e]; simp)) (fun x r e => backTo_any r fun y hy => hs y (by rw [e]; simp [hy])) (ckEs_len es xs h4)
      · cases h1
    · cases h
  | .mk c es, X, S, W, e, O, h => by simp [ckE] at h
  | .meth m o es, X, S, W, e, O, h => by simp [ckE] at h
  | .bif f es, X, S, W, e, O, h => by
    unfold ckE at h
    split at h
    · rename_i n p xs kws pos
      simp only [Bool.and_eq_true, beq_iff_eq] at h
      obtain ⟨⟨⟨⟨⟨h0, rfl⟩, h2⟩, h3⟩, h4⟩, h5⟩ := h
      have e0 : kws = [] := by simpa using h0
      subst e0
      have hs := ckEs_sane es xs h5
      cases xs with
      | nil => cases h4
      | cons x xs => exact c_bif O h2 h3 (gEs es _ O h5) (hs x (by simp)) (backTo_any xs fun y hy => hs y (by simp [hy]))
    · cases h
  | .bme m o es, X, S, W, e, O, h => by
    unfold ckE at h
    split at h
    · rename_i x at_ ap xs kws cp
      simp only [Bool.and_eq_true] at h
      obtain ⟨⟨⟨⟨⟨h0, h1⟩, h2⟩, h3⟩, h4⟩, h5⟩ := h
      have e0 : kws = [] := by simpa using h0
      subst e0
      have hs := ckEs_sane es xs h5
      split at h1
      · simp only [Bool.and_eq_true, beq_iff_eq] at h1
        obtain ⟨rfl, h1⟩ := h1
        obtain ⟨y, rfl⟩ := List.length_eq_one_iff.mp h1
        exact c_app h3 (hs y (by simp)) h2 (gE o _ O h4) (gEs es _ O h5)
      · simp only [Bool.and_eq_true, beq_iff_eq] at h1
        obtain ⟨rfl, h1⟩ := h1
        have e1 : xs = [] := by simpa using h1
        subst e1
        cases es with
        | nil => exact c_pop h3 h2 (gE o _ O h4)
        | cons _ _ => simp [ckEs] at h5
      · cases h1
    · cases h
  | .isi a cs, X, S, W, e, O, h => by
    unfold ckE at h
    split at h
    · rename_i n p xs kws pos
      simp only [Bool.and_eq_true, beq_iff_eq] at h
      obtain ⟨⟨⟨⟨h0, rfl⟩, h2⟩, h3⟩, h4⟩ := h
      have e0 : kws = [] := by simpa using h0
      subst e0
      split at h4
      · simp only [Bool.and_eq_true] at h4
        obtain ⟨⟨h5, h6⟩, h7⟩ := h4
        split at h7
        · simp only [Bool.and_eq_true, decide_eq_true_eq] at h7
          exact c_isiT O h2 h3 h5 (gE a _ O h6) h7.2 h7.1.1 h7.1.2
        · exact c_isi O h2 h3 h5 (gE a _ O h6) h7
      · cases h4
    · cases h
  | .tup es, X, S, W, e, O, h => by
    unfold ckE at h
    split at h
    · simp only [Bool.and_eq_true, decide_eq_true_eq] at h
      exact c_tup h.1 (ckEs_len es _ h.2) (gEs es _ O h.2)
    · cases h
  | .lst own es, X, S, W, e, O, h => by
    unfold ckE at h
    split at h
    · simp only [Bool.and_eq_true, decide_eq_true_eq] at h
      exact c_lst h.1 (ckEs_len es _ h.2) (gEs es _ O h.2)
    · cases h
  | .dct own ks vs, X, S, W, e, O, h => by
    unfold ckE at h
    split at h
    · simp only [Bool.and_eq_true, decide_eq_true_eq] at h
      obtain ⟨⟨⟨⟨h1, h2⟩, h3⟩, h4⟩, h5⟩ := h
      exact c_dct h4 h1 h2 h3 (gPs vs _ O h5)
    · cases h
  | .idx a b, X, S, W, e, O, h => by
    unfold ckE at h
    split at h
    · simp only [Bool.and_eq_true] at h
      exact c_idx O h.1.1 (gE a _ O h.1.2) (gE b _ O h.2)
    · cases h
  | .sl a lo hi, X, S, W, e, O, h => by simp [ckE] at h
  | .rev own a, X, S, W, e, O, h => by
    unfold ckE at h
    split at h
    · exact c_rev (gE a _ O h)
    · cases h
  | .tst a, X, S, W, e, O, h => by simp [ckE] at h
  | .lc own ws t it cs a, X, S, W, e, O, h => by
    unfold ckE at h
    split at h
    · split at h
      · rename_i y scp pos gens tg itx ifs
        simp only [Bool.and_eq_true, decide_eq_true_eq] at h
        obtain ⟨⟨⟨⟨⟨⟨⟨h1, h2⟩, h3⟩, h4⟩, h5⟩, h6⟩, h7⟩, h8⟩ := h
        exact c_lc O h1 h2 h3 (gI it _ _ O h1 h4) h5 h6 (fun s H C cl fp => gC cs _ (O.blk s H scp C cl fp) h7) (fun s H C cl fp => gE a _ (O.blk s H scp C cl fp) h8)
      · cases h
    · cases h
  | .fld o f, X, S, W, e, O, h => by simp [ckE] at h
  | .fz a, X, S, W, e, O, h => by
    unfold ckE at h
    exact c_fz (gE a _ O h)
theorem gB : ∀ (es : Exs) {X : Cx} {S : Sx} {W : WX} (o : BoolOp) (xs : List Expr) (pos : Pos), Ok G T ca X S W → ckB G S es xs = true → PE X (.BoolOp o xs pos) (tXB T ca X.K W o es)
  | .nil, X, S, W, o, xs, pos, O, h => by simp [ckB] at h
  | .cons a as, X, S, W, o, xs, pos, O, h => by
    cases xs with
    | nil => simp [ckB] at h
    | cons x xs =>
      unfold ckB at h
      simp only [Bool.and_eq_true] at h
      obtain ⟨h1, h2⟩ := h
      cases as with
      | nil =>
        have e : xs = [] := by simpa using h2
        subst e
        exact cb_one (gE a _ O h1)
      | cons a' as =>
        cases xs with
        | nil => simp [ckB] at h2
        | cons x' xs => exact cb_more (gE a _ O h1) (gB (.cons a' as) o _ pos O h2)
theorem gT : ∀ (ir : Ex) {X : Cx} {S : Sx} {W : WX} (e : Expr), Ok G T ca X S W → ckT G S ir e = true → PT X e (tXT T ca X.K W ir)
  | .not a, X, S, W, e, O, h => by
    unfold ckT at h
    split at h
    · exact ct_not (gT a _ O h)
    · cases h
  | .bop o es, X, S, W, e, O, h => by
    unfold ckT at h
    split at h
    · simp only [Bool.and_eq_true, beq_iff_eq] at h
      obtain ⟨rfl, h2⟩ := h
      exact ct_bop (gTB es _ _ _ O h2)
    · cases h
  | .cmp o a b, X, S, W, e, O, h => by
    unfold ckT at h
    split at h
    · split at h
      · simp only [Bool.and_eq_true, beq_iff_eq] at h
        obtain ⟨⟨⟨rfl, h2⟩, h3⟩, h4⟩ := h
        exact ct_cmp O h2 (gE a _ O h3) (gE b _ O h4)
      · cases h
    · cases h
  | .chain o o2 a b c, X, S, W, e, O, h => by
    unfold ckT at h
    split at h
    · split at h
      · simp only [Bool.and_eq_true, beq_iff_eq] at h
        obtain ⟨⟨⟨⟨⟨rfl, rfl⟩, h2⟩, h3⟩, h4⟩, h5⟩ := h
        exact ct_chain O h2 (gE a _ O h3) (gE b _ O h4) (gE c _ O h5)
      · cases h
    · cases h
  | .tst a, X, S, W, e, O, h => by
    unfold ckT at h
    simp only [Bool.and_eq_true] at h
    exact ct_tst h.1 (gE a _ O h.2)
  | .v _, X, S, W, e, O, h => by simp [ckT] at h
  | .k _, X, S, W, e, O, h => by simp [ckT] at h
  | .glo _, X, S, W, e, O, h => by simp [ckT] at h
  | .bin _ _ _, X, S, W, e, O, h => by simp [ckT] at h
  | .neg _, X, S, W, e, O, h => by simp [ckT] at h
  | .ife _ _ _, X, S, W, e, O, h => by simp [ckT] at h
  | .call _ _, X, S, W, e, O, h => by simp [ckT] at h
  | .mk _ _, X, S, W, e, O, h => by simp [ckT] at h
  | .meth _ _ _, X, S, W, e, O, h => by simp [ckT] at h
  | .bif _ _, X, S, W, e, O, h => by simp [ckT] at h
  | .bme _ _ _, X, S, W, e, O, h => by simp [ckT] at h
  | .isi _ _, X, S, W, e, O, h => by simp [ckT] at h
  | .tup _, X, S, W, e, O, h => by simp [ckT] at h
  | .lst _ _, X, S, W, e, O, h => by simp [ckT] at h
  | .dct _ _ _, X, S, W, e, O, h => by simp [ckT] at h
  | .idx _ _, X, S, W, e, O, h => by simp [ckT] at h
  | .sl _ _ _, X, S, W, e, O, h => by simp [ckT] at h
  | .rev _ _, X, S, W, e, O, h => by simp [ckT] at h
  | .lc _ _ _ _ _ _, X, S, W, e, O, h => by simp [ckT] at h
  | .fld _ _, X, S, W, e, O, h => by simp [ckT] at h
  | .fz _, X, S, W, e, O, h => by simp [ckT] at h
theorem gTB : ∀ (es : Exs) {X : Cx} {S : Sx} {W : WX} (o : BoolOp) (xs : List Expr) (pos : Pos), Ok G T ca X S W → ckTB G S es xs = true → PW X (.BoolOp o xs pos) (tXTB T ca X.K W o es)
  | .nil, X, S, W, o, xs, pos, O, h => by simp [ckTB] at h
  | .cons a as, X, S, W, o, xs, pos, O, h => by
    cases xs with
    | nil => simp [ckTB] at h
    | cons x xs =>
      unfold ckTB at h
      simp only [Bool.and_eq_true] at h
      obtain ⟨h1, h2⟩ := h
      cases as with
      | nil =>
        have e : xs = [] := by simpa using h2
        subst e
        exact ctb_one (gT a _ O h1)
      | cons a' as =>
        cases xs with
        | nil => simp [ckTB] at h2
        | cons x' xs => exact ctb_more (gT a _ O h1) (gTB (.cons a' as) o _ pos O h2)
theorem gEs : ∀ (es : Exs) {X : Cx} {S : Sx} {W : WX} (xs : List Expr), Ok G T ca X S W → ckEs G S es xs = true → PA X xs (tXs T ca X.K W es)
  | .nil, X, S, W, xs, O, h => by
    have e : xs = [] := by simpa [ckEs] using h
    subst e
    exact ca_nil
  | .cons a as, X, S, W, xs, O, h => by
    cases xs with
    | nil => simp [ckEs] at h
    | cons x xs =>
      unfold ckEs at h
      simp only [Bool.and_eq_true] at h
      exact ca_cons h.1.1 (gE a _ O h.1.2) (gEs as _ O h.2)
theorem gPs : ∀ (es : Exs) {X : Cx} {S : Sx} {W : WX} (xs : List Expr), Ok G T ca X S W → ckEs G S es xs = true → PEs X T ca W xs es
  | .nil, X, S, W, xs, O, h => by
    have e : xs = [] := by simpa [ckEs] using h
    subst e
    exact .nil
  | .cons a as, X, S, W, xs, O, h => by
    cases xs with
    | nil => simp [ckEs] at h
    | cons x xs =>
      unfold ckEs at h
      simp only [Bool.and_eq_true] at h
      exact .cons (gE a _ O h.1.2) (gPs as _ O h.2)
theorem gC : ∀ (es : Exs) {X : Cx} {S : Sx} (xs : List Expr), Ok G T ca X S W0 → ckCs G S es xs = true → PTs X xs (tXC T ca X.K es)
  | .nil, X, S, xs, O, h => by
    have e : xs = [] := by simpa [ckCs] using h
    subst e
    exact ccs_nil
  | .cons a as, X, S, xs, O, h => by
    unfold ckCs at h
    split at h
    · simp only [Bool.and_eq_true] at h
      cases as with
      | nil => exact ccs_one (gT a _ O h.1)
      | cons _ _ => cases h.2
    · cases h
theorem gI : ∀ (it : Iw) {X : Cx} {S : Sx} {W : WX} (tg e : Expr), Ok G T ca X S W → sane e = true → ckI G S it e = true → PI X tg e (tXI T ca X.K W it)
  | .seq a, X, S, W, tg, e, O, hs, h => by
    unfold ckI at h
    exact ci_seq (gE a _ O h)
  | .rng es, X, S, W, tg, e, O, hs, h => by
    unfold ckI at h
    split at h
    · rename_i n p xs kws pos
      simp only [Bool.and_eq_true, beq_iff_eq, Bool.or_eq_true] at h
      obtain ⟨⟨⟨⟨⟨h0, rfl⟩, h2⟩, h3⟩, h4⟩, h5⟩ := h
      have e0 : kws = [] := by simpa using h0
      subst e0
      have hs' := ckEs_sane es xs h5
      have hl := ckEs_len es xs h5
      have q := gEs es _ O h5
      rcases h4 with h4 | h4
      · obtain ⟨y, rfl⟩ := List.length_eq_one_iff.mp h4
        exact ci_rng1 O h2 h3 (hs' y (by simp)) hl.symm q
      · match xs, h4 with
        | [y, z], _ => exact ci_rng2 O h2 h3 (hs' y (by simp)) (hs' z (by simp)) hl.symm q
    · cases h
  | .enum _, X, S, W, tg, e, O, hs, h => by simp [ckI] at h
  | .zip _ _, X, S, W, tg, e, O, hs, h => by simp [ckI] at h
end
end
end Rt

namespace Rt
open PySem PySem.Spec PyProof.Rows L2

/-- the store goes ahead of the block's end -/
def swapB (sc : Scope) (e tg : Expr) : Bool := match e with
  | .ListComp _ _ scp pos => (match tg with
    | .Name y py => (sc.names.lookup y == some .local) && py.line == pos.line && !(scp.names.any fun (n, k) => n == y && (k == .local || k == .cell))
    | _ => false)
  | .DictComp _ _ _ scp pos => (match tg with
    | .Name y py => (sc.names.lookup y == some .local) && py.line == pos.line && !(scp.names.any fun (n, k) => n == y && (k == .local || k == .cell))
    | _ => false)
  | .SetComp _ _ _ _ => true
  | _ => false
def noSet : Expr → Bool
  | .SetComp _ _ _ _ => false
  | _ => true
def noSwap (tg e : Expr) : Bool := match tg with
  | .Tuple _ _ _ => (match e with
    | .Tuple vs _ _ => vs.all (foldedForSure 8)
    | _ => true)
  | .List _ _ => (match e with
    | .Tuple _ _ _ => false
    | _ => true)
  | _ => true
theorem swap_eq {env : Env} {e tg : Expr} {l : Nat} (hk : env.scope.kind = .function) (hs : noSet e = true) : swapsWith e (some tg) l env = pure (swapB env.scope e tg) := by
  have hb : env.blockKind = .function := by unfold Env.blockKind; rw [hk]; rfl
  cases e with
  | ListComp a b c d =>
    unfold swapsWith swapB
    cases tg with
    | Name y py =>
      show (pure _ : Sem Bool) = pure _
      rw [hb]
      rfl
    | _ => rfl
  | DictComp a b c d f =>
    unfold swapsWith swapB
    cases tg with
    | Name y py =>
      show (pure _ : Sem Bool) = pure _
      rw [hb]
      rfl
    | _ => rfl
  | SetComp _ _ _ _ => cases hs
  | _ => rfl
theorem swap_none {env : Env} {tg e : Expr} (h : noSwap tg e = true) : swappedStores [tg] e env = pure none := by
  cases tg with
  | Tuple ts j p =>
    cases e with
    | Tuple vs j' p' =>
      have h' : vs.all (foldedForSure 8) = true := h
      unfold swappedStores
      dsimp only
      split
      · rfl
      · split
        · rfl
        · split
          · rfl
          · first
              | rw [if_pos h']
              | (split
                 · rfl
                 · exact absurd h' (by assumption))
              | rfl
    | _ => rfl
  | List ts p =>
    cases e with
    | Tuple _ _ _ => cases h
    | _ => rfl
  | _ => rfl
theorem swap_drop {env : Env} {e : Expr} {l : Nat} (h : noComp e = true) : swapsWith e none l env = pure false := by
  cases e <;> first | rfl | cases h
/-- a, b = x, y stored from the right -/
def parB (sc : Scope) (x y : Str) (px py : Pos) (a b : Expr) : Bool :=
  (sc.names.lookup x == some .local) && (sc.names.lookup y == some .local) && py.line == px.line && x != y && sane a && sane b && !([a, b].all (foldedForSure 8)) && !([a, b].all (constantsAlone 8))
theorem par_some {env : Env} {x y : Str} {px py pt : Pos} {a b : Expr} {kt k2 : Nat} {pt2 : Pos} (hk : env.scope.kind = .function) (h : parB env.scope x y px py a b = true) :
    swappedStores [.Tuple [.Name x px, .Name y py] kt pt] (.Tuple [a, b] k2 pt2) env = pure (some [x, y]) := by
  have hb : env.blockKind = .function := by unfold Env.blockKind; rw [hk]; rfl
  unfold parB at h
  simp only [Bool.and_eq_true, beq_iff_eq, bne_iff_ne, ne_eq, Bool.not_eq_true'] at h
  obtain ⟨⟨⟨⟨⟨⟨⟨h1, h2⟩, h3⟩, h4⟩, h5⟩, h6⟩, h7⟩, h8⟩ := h
  have kx : env.kindOf x = some .local := h1
  have ky : env.kindOf y = some .local := h2
  have ne : ([x, y].eraseDups).length = 2 := by
    have q : (y == x) = false := by simpa using fun z : y = x => h4 z.symm
    simp [List.eraseDups_cons, q]
  unfold swappedStores
  dsimp only
  split
  · rename_i q
    rw [hb] at q
    exact (Bool.false_ne_true q).elim
  · split
    · rename_i q
      obtain ⟨e, he, q⟩ := List.any_eq_true.mp q
      have hs : sane e = true := by
        rcases List.mem_cons.mp he with rfl | he
        · exact h5
        · rcases List.mem_cons.mp he with rfl | he
          · exact h6
          · cases he
      split at q
      · cases hs
      · cases q
    · have e1 : (some NameKind.local == some NameKind.local) = true := rfl
      simp only [List.filterMap_cons, List.filterMap_nil, kx, ky, h3, Expr.pos, List.head?_cons, Option.map_some, Option.getD_some, beq_self_eq_true, e1, Bool.and_self, if_true]
      split
      · rename_i q
        rw [ne] at q
        exact (Bool.false_ne_true q).elim
      · split
        · rename_i q
          rw [h7] at q; cases q
        · split
          · rename_i q
            rw [h8] at q; cases q
          · rfl
end Rt

namespace Rt
open PySem PySem.Spec PyProof.Rows L2
/-! ### readings -/
structure Rch (ca : Nat → Addr) (K : PySem.W.Frag) (W : WX) (Z : Addr → Prop) (H : Hp) (h : Hd) (kt : Kt) (E : Ends) : Prop where
  nx : ∀ τ σ H' h', Rel ca K Z H' h' τ σ → Stp Z H h H' h' → kt.nx σ h' → E.nx τ H'
  rt : ∀ v d H' h', Own ca K Z H' h' → Stp Z H h H' h' → RD ca K Z H' h' v d → kt.rt d h' → E.rt v H'
  bk : ∀ τ σ H' h', Rel ca K Z H' h' τ σ → Stp Z H h H' h' → kt.bk σ h' → E.bk τ H'
  ct : ∀ τ σ H' h', Rel ca K Z H' h' τ σ → Stp Z H h H' h' → kt.ct σ h' → E.ct τ H'
  ex : ∀ cls dd c fs τ σ H' h', Rel ca K Z H' h' τ σ → Stp Z H h H' h' → XR ca K Z H' h' cls dd c fs → kt.ex c fs σ h' → W cls dd τ H'
def tS (T : Tb) (ca : Nat → Addr) (K : PySem.W.Frag) (W : WX) (ir : Sm) : TS := fun E τ H => ∃ (σ : Sg) (h : Hd) (Z : Addr → Prop) (kt : Kt), Rel ca K Z H h τ σ ∧ wpS T ir σ h kt ∧ Rch ca K W Z H h kt E
def tSs (T : Tb) (ca : Nat → Addr) (K : PySem.W.Frag) (W : WX) (ir : Sms) : TS := fun E τ H => ∃ (σ : Sg) (h : Hd) (Z : Addr → Prop) (kt : Kt), Rel ca K Z H h τ σ ∧ wpSs T ir σ h kt ∧ Rch ca K W Z H h kt E
def tXG (T : Tb) (ca : Nat → Addr) (K : PySem.W.Frag) (W : WX) (ir : Tg) : TG := fun v τ H Q => ∃ (d : D) (σ : Sg) (h : Hd) (Z : Addr → Prop) (QD : Sg → Hd → Prop) (ED : PX), Rel ca K Z H h τ σ ∧ RD ca K Z H h v d ∧ wpG T ir d σ h QD ED ∧
  (∀ τ' σ' H' h', Rel ca K Z H' h' τ' σ' → Stp Z H h H' h' → QD σ' h' → Q τ' H') ∧
  (∀ cls dd c fs H' h', Rel ca K Z H' h' τ σ → Stp Z H h H' h' → XR ca K Z H' h' cls dd c fs → ED c fs h' → W cls dd τ H')
def setT (ca : Nat → Addr) (K : PySem.W.Frag) : TSet := fun o i v H Q => ∃ (h : Hd) (Z : Addr → Prop) (x y z : D) (R : Hd → Prop), Own ca K Z H h ∧ RD ca K Z H h o x ∧ RD ca K Z H h i y ∧ RD ca K Z H h v z ∧ setP x y z h R ∧
  ∀ H' h', Stp Z H h H' h' → Own ca K Z H' h' → R h' → Q H'
def augT (ca : Nat → Addr) (K : PySem.W.Frag) (o : Operator) : TIp := fun x y H Q => ∃ (h : Hd) (Z : Addr → Prop) (a b : D) (R : D → Prop), RD ca K Z H h x a ∧ RD ca K Z H h y b ∧ augP o a b R ∧ ∀ z w, RD ca K Z H h w z → R z → Q w H
def ckG (G : Gs) (S : Sx) : Tg → Expr → Bool
  | .sub o i, e => (match e with
    | .Subscript x y _ => sane y && ckE G S o x && ckE G S i y
    | _ => false)
  | t, e => ckN S t e
structure Os (G : Gs) (T : Tb) (ca : Nat → Addr) (X : Cx) (S : Sx) (W : WX) : Prop where
  ok : Ok G T ca X S W
  pw : PassesOwn (model X.prog X.w) X.A X.env X.xe
  fk : X.env.scope.kind = .function
section
variable {G : Gs} {T : Tb} {ca : Nat → Addr} {X : Cx} {S : Sx} {W : WX} {a b c : Ex} {x y z : Expr} {pos p : Pos} {st : Stmt} {sts : List Stmt}
theorem Rch.on {K : PySem.W.Frag} {Z : Addr → Prop} {H H1 : Hp} {h h1 : Hd} {kt : Kt} {E : Ends} (r : Rch ca K W Z H h kt E) (s : Stp Z H h H1 h1) : Rch ca K W Z H1 h1 kt E :=
  ⟨fun τ σ H' h' R s' => r.nx τ σ H' h' R (s.trans s'), fun v d H' h' o s' => r.rt v d H' h' o (s.trans s'), fun τ σ H' h' R s' => r.bk τ σ H' h' R (s.trans s'), fun τ σ H' h' R s' => r.ct τ σ H' h' R (s.trans s'), fun cls dd c fs τ σ H' h' R s' => r.ex cls dd c fs τ σ H' h' R (s.trans s')⟩
theorem ps_weak {t t' : TS} (q : PS X st t) (w : ∀ E τ H, t' E τ H → t E τ H) : PS X st t' := ⟨fun pins s τ H E I hq => q.run pins s τ H E I (w _ _ _ hq)⟩
theorem pss_weak {t t' : TS} (q : PSs X sts t) (w : ∀ E τ H, t' E τ H → t E τ H) : PSs X sts t' := ⟨fun pins s τ H E I hq => q.run pins s τ H E I (w _ _ _ hq)⟩
theorem s_nil : PSs X [] (tSs T ca X.K W .nil) := pss_weak pss_nil fun E τ H ⟨σ, h, Z, kt, R, w, k⟩ => by
  unfold wpSs at w
  exact k.nx _ _ _ _ R Stp.refl w
theorem s_cons {s : Sm} {ss : Sms} (h1 : PS X st (tS T ca X.K W s)) (h2 : PSs X sts (tSs T ca X.K W ss)) : PSs X (st :: sts) (tSs T ca X.K W (.cons s ss)) :=
  pss_weak (pss_cons h1 h2) fun E τ H ⟨σ, h, Z, kt, R, w, k⟩ => by
    unfold wpSs at w
    exact ⟨σ, h, Z, _, R, w, fun τ σ H' h' R' s' q => ⟨σ, h', Z, kt, R', q, k.on s'⟩, k.rt, k.bk, k.ct, k.ex⟩
theorem s_ex (hn : noComp x = true) (ha : PE X x (tX T ca X.K W a)) : PS X (.Expr x pos) (tS T ca X.K W (.ex a)) :=
  ps_weak (ps_expr ha (swap_drop hn)) fun E τ H ⟨σ, h, Z, kt, R, w, k⟩ => by
    unfold wpS at w
    exact ⟨σ, h, Z, _, _, R, w, fun v d H' h' R' s' _ q => k.nx _ _ _ _ R' s' q, fun cls dd c fs H' h' R' s' x' q => k.ex _ _ _ _ _ _ _ _ R' s' x' q⟩
theorem s_ret (ha : PE X x (tX T ca X.K W a)) : PS X (.Return (some x) pos) (tS T ca X.K W (.ret a)) :=
  ps_weak (ps_ret ha) fun E τ H ⟨σ, h, Z, kt, R, w, k⟩ => by
    unfold wpS at w
    exact ⟨σ, h, Z, _, _, R, w, fun v d H' h' R' s' r q => k.rt _ _ _ _ R'.own s' r q, fun cls dd c fs H' h' R' s' x' q => k.ex _ _ _ _ _ _ _ _ R' s' x' q⟩
theorem s_retN : PS X (.Return none pos) (tS T ca X.K W .retN) :=
  ps_weak ps_retN fun E τ H ⟨σ, h, Z, kt, R, w, k⟩ => by
    unfold wpS at w
    exact k.rt _ _ _ _ R.own Stp.refl .non w
theorem s_pass : PS X (.Pass pos) (tS T ca X.K W .pass) :=
  ps_weak ps_pass fun E τ H ⟨σ, h, Z, kt, R, w, k⟩ => by
    unfold wpS at w
    exact k.nx _ _ _ _ R Stp.refl w
theorem s_doc {m : Str} {j : Nat} {p' : Pos} : PS X (.Expr (.Constant (.str m) j p) p') (tS T ca X.K W .pass) :=
  ps_weak ps_doc fun E τ H ⟨σ, h, Z, kt, R, w, k⟩ => by
    unfold wpS at w
    exact k.nx _ _ _ _ R Stp.refl w
theorem s_brk : PS X (.Break pos) (tS T ca X.K W .brk) :=
  ps_weak ps_break fun E τ H ⟨σ, h, Z, kt, R, w, k⟩ => by
    unfold wpS at w
    exact k.bk _ _ _ _ R Stp.refl w
theorem s_cnt : PS X (.Continue pos) (tS T ca X.K W .cnt) :=
  ps_weak ps_continue fun E τ H ⟨σ, h, Z, kt, R, w, k⟩ => by
    unfold wpS at w
    exact k.ct _ _ _ _ R Stp.refl w
theorem s_ife {A B : Sms} {xs ys : List Stmt} (hc : PT X x (tXT T ca X.K W c)) (ha : PSs X xs (tSs T ca X.K W A)) (hb : PSs X ys (tSs T ca X.K W B)) : PS X (.If x xs ys pos) (tS T ca X.K W (.ife c A B)) :=
  ps_weak (ps_if hc ha hb) fun E τ H ⟨σ, h, Z, kt, R, w, k⟩ => by
    unfold wpS at w
    refine ⟨σ, h, Z, _, _, R, w, fun t H' h' R' s' q => ?_, fun cls dd c fs H' h' R' s' x' q => k.ex _ _ _ _ _ _ _ _ R' s' x' q⟩
    cases t with
    | true => exact iteT ⟨σ, h', Z, kt, R', q.1 rfl, k.on s'⟩
    | false => exact iteF ⟨σ, h', Z, kt, R', q.2 rfl, k.on s'⟩
theorem s_whl {B : Sms} {xs : List Stmt} (O : Os G T ca X S W) (hc : PT X x (tXT T ca X.K W c)) (hb : PSs X xs (tSs T ca X.K W B)) : PS X (.While x xs [] pos) (tS T ca X.K W (.whl c B)) :=
  ps_weak (ps_while O.pw hc hb) fun E τ H ⟨σ, h, Z, kt, R, w, k⟩ => by
    unfold wpS at w
    obtain ⟨V, ⟨m0, w0⟩, turn⟩ := w
    refine ⟨fun m τ' H' => ∃ (σ' : Sg) (h' : Hd), Rel ca X.K Z H' h' τ' σ' ∧ Stp Z H h H' h' ∧ V m σ' h', ⟨m0, σ, h, R, Stp.refl, w0⟩, ?_⟩
    rintro m τ1 H1 ⟨σ1, h1, R1, s1, w1⟩
    refine ⟨σ1, h1, Z, _, _, R1, turn m σ1 h1 w1, fun t H2 h2 R2 s2 q => ?_, fun cls dd c fs H' h' R' s' x' q => k.ex _ _ _ _ _ _ _ _ R' (s1.trans s') x' q⟩
    have s12 := s1.trans s2
    cases t with
    | false => exact iteF (k.nx _ _ _ _ R2 s12 (q.2 rfl))
    | true =>
      refine iteT ⟨fun τ' H' => ∃ m', m' < m ∧ ∃ (σ' : Sg) (h' : Hd), Rel ca X.K Z H' h' τ' σ' ∧ Stp Z H h H' h' ∧ V m' σ' h', fun _ _ z => z, σ1, h2, Z, _, R2, q.1 rfl, ?_⟩
      have again : ∀ τ σ H' h', Rel ca X.K Z H' h' τ σ → Stp Z H2 h2 H' h' → (∃ m', m' < m ∧ V m' σ h') → ∃ m', m' < m ∧ ∃ (σ' : Sg) (h' : Hd), Rel ca X.K Z H' h' τ σ' ∧ Stp Z H h H' h' ∧ V m' σ' h' := fun τ σ H' h' R' s' ⟨m', hm, q'⟩ => ⟨m', hm, σ, h', R', s12.trans s', q'⟩
      exact ⟨again, fun v d H' h' o s' => k.rt v d H' h' o (s12.trans s'), fun τ σ H' h' R' s' => k.nx τ σ H' h' R' (s12.trans s'), again, fun cls dd c fs τ σ H' h' R' s' => k.ex cls dd c fs τ σ H' h' R' (s12.trans s')⟩
/-! targets -/
theorem bnd_of {t : Tg} {d : D} {σ : Sg} {h : Hd} {QD : Sg → Hd → Prop} {ED : PX} {e : Expr} (hc : ckN S t e = true) (w : wpG T t d σ h QD ED) : ∃ σ1, bndN t d σ = some σ1 ∧ QD σ1 h := by
  cases t with
  | n i =>
    unfold wpG at w
    exact ⟨_, rfl, w⟩
  | t ts =>
    unfold wpG at w
    exact optP_some w
  | sub _ _ => simp [ckN] at hc
  | fld _ _ => simp [ckN] at hc
theorem c_gN (O : Ok G T ca X S W) {t : Tg} (hc : ckN S t x = true) : PG X x (tXG T ca X.K W t) :=
  pg_weak (cg_n O t x hc) fun v τ H Q ⟨d, σ, h, Z, QD, ED, R, r, w, k, _⟩ => by
    obtain ⟨σ1, e, q⟩ := bnd_of hc w
    exact ⟨d, σ, σ1, h, Z, R, r, e, fun τ' R' _ => k _ _ _ _ R' Stp.refl q⟩
theorem c_gS (O : Ok G T ca X S W) {o i : Ex} (hs : sane y = true) (ha : PE X x (tX T ca X.K W o)) (hb : PE X y (tX T ca X.K W i)) : PG X (.Subscript x y pos) (tXG T ca X.K W (.sub o i)) := by
  have hset : PSet X (setT ca X.K) := fun pins s τ H vo vi vv ov iv uv Q I ro ri rv ⟨h, Z, x, y, z, R, own, r1, r2, r3, p, k⟩ => set_all (by have := O.hu; omega) I ro ri rv own r1 r2 r3 p k
  refine pg_weak (pg_sub (t := setT ca X.K) ha hb hset (fun v => by cases y <;> first | rfl | cases hs)) fun v τ H Q ⟨d, σ, h, Z, QD, ED, R, r, w, k, ke⟩ => ?_
  unfold wpG at w
  refine two R w (fun x y v u H2 h2 r2 s2 rx ry q => ?_) ke
  exact ⟨h2, Z, x, y, d, _, r2.own, rx, ry, r.stp s2, q, fun H' h' s' o' q' => k _ _ _ _ (r2.stp s' o') (s2.trans s') q'⟩
theorem ckG_sane {t : Tg} (h : ckG G S t x = true) : sane x = true := by
  cases t with
  | n i => cases x <;> first | rfl | simp [ckG, ckN] at h
  | t ts => cases x <;> first | rfl | simp [ckG, ckN] at h
  | sub _ _ => cases x <;> first | rfl | simp [ckG] at h
  | fld _ _ => simp [ckG, ckN] at h
theorem gG (O : Ok G T ca X S W) : ∀ (t : Tg) (e : Expr), ckG G S t e = true → PG X e (tXG T ca X.K W t)
  | .n i, e, h => c_gN O h
  | .t ts, e, h => c_gN O h
  | .sub o i, e, h => by
    cases e with
    | Subscript x y p =>
      have h' : (sane y && ckE G S o x && ckE G S i y) = true := h
      simp only [Bool.and_eq_true] at h'
      exact c_gS O h'.1.1 (gE o _ O h'.1.2) (gE i _ O h'.2)
    | _ => cases h
  | .fld _ _, e, h => by simp [ckG, ckN] at h
theorem s_asg {t : Tg} (O : Os G T ca X S W) (hn : noSet x = true) (hw : swapB X.env.scope x y = false) (hp : noSwap y x = true) (hg : ckG G S t y = true) (ha : PE X x (tX T ca X.K W a)) : PS X (.Assign [y] x pos) (tS T ca X.K W (.asg t a)) :=
  ps_weak (ps_asg ha (gG O.ok t y hg) (by
    show swapsWith x (some y) pos.line X.env = pure false
    rw [swap_eq O.fk hn, hw]) (swap_none hp) (by rw [sane_each (ckG_sane hg)]; rfl)) fun E τ H ⟨σ, h, Z, kt, R, w, k⟩ => by
    unfold wpS at w
    exact ⟨σ, h, Z, _, _, R, w, fun v d H' h' R' s' r q => ⟨d, σ, h', Z, _, _, R', r, q, fun τ' σ' H2 h2 R2 s2 q2 => k.nx _ _ _ _ R2 (s'.trans s2) q2, fun cls dd c fs H2 h2 R2 s2 x2 q2 => k.ex _ _ _ _ _ _ _ _ R2 (s'.trans s2) x2 q2⟩, fun cls dd c fs H' h' R' s' x' q => k.ex _ _ _ _ _ _ _ _ R' s' x' q⟩
theorem s_aug {i : Nat} {n : Str} {o : Operator} {p' : Pos} (O : Ok G T ca X S W) (hN : S.N[i]? = some n) (hl : locB S n = true) (ha : PE X x (tX T ca X.K W a)) : PS X (.AugAssign (.Name n p') o x pos) (tS T ca X.K W (.aug i o a)) := by
  obtain ⟨l1, l2⟩ := O.loc hl
  have hi : PIp X o (augT ca X.K o) := by
    intro pins s τ H vx vy v u Q I r1 r2 ⟨h, Z, da, db, R, ra, rb, q, k⟩
    unfold augP at q
    split at q
    · cases ra; cases rb
      exact ip_add pins s τ H _ _ v u Q I r1 r2 ⟨_, _, rfl, rfl, k _ _ (.int _) q⟩
    · cases ra; cases rb
      exact ip_sub pins s τ H _ _ v u Q I r1 r2 ⟨_, _, rfl, rfl, k _ _ (.int _) q⟩
    · exact q.elim
  refine ps_weak (ps_aug O.nd (by rw [O.nm]; exact hN) l1 ha hi l2) fun E τ H ⟨σ, h, Z, kt, R, w, k⟩ => ?_
  unfold wpS at w
  split at w
  · rename_i d e
    obtain ⟨v, h1, h2⟩ := R.env.get e
    refine ⟨v, h1, σ, h, Z, _, _, R, w, fun u d2 H' h' R' s' r q => ?_, fun cls dd c fs H' h' R' s' x' q => k.ex _ _ _ _ _ _ _ _ R' s' x' q⟩
    exact ⟨h', Z, d, d2, _, h2.stp s', r, q, fun z w' rz qz => k.nx _ _ _ _ ⟨R'.own, R'.env.set rz i⟩ s' qz⟩
  · exact w.elim
theorem s_par {i j : Nat} {n m : Str} {px py pt pt2 : Pos} {kt0 k2 : Nat} (O : Os G T ca X S W) (hi : S.N[i]? = some n) (hj : S.N[j]? = some m) (hij : i ≠ j) (hp : parB X.env.scope n m px py x y = true) (ha : PE X x (tX T ca X.K W a)) (hb : PE X y (tX T ca X.K W b)) :
    PS X (.Assign [.Tuple [.Name n px, .Name m py] kt0 pt] (.Tuple [x, y] k2 pt2) pos) (tS T ca X.K W (.par i j a b)) := by
  have hp' := hp
  unfold parB at hp'
  simp only [Bool.and_eq_true, beq_iff_eq] at hp'
  obtain ⟨⟨⟨⟨⟨⟨⟨h1, h2⟩, _⟩, _⟩, h5⟩, h6⟩, _⟩, _⟩ := hp'
  refine ps_weak (ps_par O.ok.calm O.ok.nd (by rw [O.ok.nm]; exact hi) (by rw [O.ok.nm]; exact hj) hij h1 h2 (ca_cons h5 ha (ca_cons h6 hb ca_nil)) (par_some O.fk hp) rfl) fun E τ H ⟨σ, h, Z, kt, R, w, k⟩ => ?_
  unfold wpS at w
  refine ⟨σ, h, Z, _, _, R, w, fun vs ds H' h' R' s' rs le q => ?_, fun cls dd c fs H' h' R' s' x' q => k.ex _ _ _ _ _ _ _ _ R' s' x' q⟩
  split at q
  · obtain ⟨v, u, rfl, r1, r2⟩ := rs.two
    exact ⟨v, u, rfl, k.nx _ _ _ _ ⟨R'.own, (R'.env.set r1 i).set r2 j⟩ s' q⟩
  · exact q.elim
theorem s_for {it : Iw} {t : Tg} {B : Sms} {xs : List Stmt} (O : Os G T ca X S W) (hs : sane y = true) (hi : PI X x y (tXI T ca X.K W it)) (hg : ckG G S t x = true) (hb : PSs X xs (tSs T ca X.K W B)) : PS X (.For x y xs [] pos) (tS T ca X.K W (.for_ t it B)) :=
  ps_weak (ps_for O.pw O.ok.calm hi (gG O.ok t x hg) hb fun _ => sane_fold hs) fun E τ H ⟨σ, h, Z, kt, R, w, k⟩ => by
    unfold wpS at w
    refine ⟨σ, h, Z, _, _, R, w, fun J items H1 h1 R1 s1 dr q => ?_, fun cls dd c fs H' h' R' s' x' q => k.ex _ _ _ _ _ _ _ _ R' s' x' q⟩
    refine ⟨fun i m τ' H' => m = items.length - i ∧ i ≤ items.length ∧ ∃ (σ' : Sg) (h' : Hd), Rel ca X.K Z H' h' τ' σ' ∧ Stp Z H1 h1 H' h' ∧ forP _ (items.drop i) σ' h' kt, ⟨_, rfl, Nat.zero_le _, σ, h1, R1, Stp.refl, q⟩, ?_⟩
    rintro i m τ2 H2 ⟨rfl, hi', σ2, h2, R2, s2, q2⟩
    by_cases hlt : i < items.length
    · obtain ⟨d, hd, hdr⟩ := drop_cons hlt
      rw [hdr] at q2
      have q3 : wpG T t d σ2 h2 _ _ := q2
      refine .inr ⟨dr.go i _ _ _ s2.tr hlt, fun τ' H' => items.length - (i + 1) = items.length - (i + 1) ∧ i + 1 ≤ items.length ∧ ∃ (σ' : Sg) (h' : Hd), Rel ca X.K Z H' h' τ' σ' ∧ Stp Z H1 h1 H' h' ∧ forP _ (items.drop (i + 1)) σ' h' kt,
        fun τ' H' z => ⟨items.length - (i + 1), by omega, z⟩, fun u H3 hy => ?_⟩
      obtain ⟨s3, o3, rx⟩ := dr.yld i u d _ _ _ _ s2.tr R2.own hd hy
      have s23 := s2.trans s3
      refine ⟨d, σ2, h2, Z, _, _, R2.stp s3 o3, rx, q3, fun τ4 σ4 H4 h4 R4 s4 q4 => ?_, fun cls dd c fs H' h' R' s' x' q => k.ex _ _ _ _ _ _ _ _ R' (s1.trans (s23.trans s')) x' q⟩
      have s24 := s23.trans s4
      refine ⟨σ4, h4, Z, _, R4, q4, ?_⟩
      exact ⟨fun τ σ H' h' R' s' q => ⟨rfl, hlt, σ, h', R', s24.trans s', q⟩, fun v d H' h' o s' => k.rt v d H' h' o (s1.trans (s24.trans s')), fun τ σ H' h' R' s' q => k.nx _ _ _ _ R' (s1.trans (s24.trans s')) q,
        fun τ σ H' h' R' s' q => ⟨rfl, hlt, σ, h', R', s24.trans s', q⟩, fun cls dd c fs τ σ H' h' R' s' => k.ex cls dd c fs τ σ H' h' R' (s1.trans (s24.trans s'))⟩
    · have e : i = items.length := by omega
      subst e
      rw [List.drop_length] at q2
      exact .inl ⟨dr.stop _ _ _ _ s2.tr (Nat.le_refl _), k.nx _ _ _ _ R2 (s1.trans s2) q2⟩
/-- name = [..], the store ahead of the block's end -/
theorem s_lc {i : Nat} {n : Str} {py : Pos} {own : Bool} {ws : List Nat} {t : Tg} {it : Iw} {cs : Exs} {e : Ex} {elt tg itx : Expr} {ifs : List Expr} {scp : Scope} {spos : Pos} (O : Os G T ca X S W) (hN : S.N[i]? = some n) (hl : X.env.scope.names.lookup n = some .local)
    (hsw : swapB X.env.scope (.ListComp elt [⟨tg, itx, ifs, 0⟩] scp pos) (.Name n py) = true) (hs : sane itx = true)
    (hb : blkC S.N S.sc scp ((ws.filterMap fun w => S.N[w]?).zip ws) = true) (hn : (ws.filterMap fun w => S.N[w]?).length = ws.length) (hi : PI X tg itx (tXI T ca X.K W it)) (hg : slotsIn ws t = true)
    (hk : ckN { S with sc := relS scp S.sc, fl := fun x => scp.names.lookup x == some .cell } t tg = true)
    (ht : ∀ (s : Shared) (H : Hp) (C : Addr) (cl : List (Str × Addr)) (fp : List Addr), PTs (X.blk s H scp (compEnvC scp cl C X.env) fp) ifs (tXC T ca X.K cs))
    (he : ∀ (s : Shared) (H : Hp) (C : Addr) (cl : List (Str × Addr)) (fp : List Addr), PE (X.blk s H scp (compEnvC scp cl C X.env) fp) elt (tX T ca X.K W0 e)) :
    PS X (.Assign [.Name n py] (.ListComp elt [⟨tg, itx, ifs, 0⟩] scp pos) spos) (tS T ca X.K W (.asg (.n i) (.lc own ws t it cs e))) := by
  have e2 : ((ws.filterMap fun w => S.N[w]?).zip ws).map (·.2) = ws := List.map_snd_zip (by omega)
  refine ps_weak (ps_setLc (g := tXN ca X.K t) (own := (ws.filterMap fun w => S.N[w]?).zip ws) O.ok.calm O.ok.nd (by rw [O.ok.nm]; exact hN) hl (by rw [swap_eq O.fk rfl, hsw]) hi (blkOk_by (by rw [O.ok.nm, O.ok.sce]; exact hb)) (fun s H C cl fp => cg_n (O.ok.blk s H scp C cl fp) t tg hk) ht he fun _ => sane_fold hs) fun E τ H ⟨σ, h, Z, kt, R, w, k⟩ => ?_
  rw [e2]
  unfold wpS at w
  refine lcK (own := own) (fun i hi => ?_) ⟨σ, h, Z, _, _, R, w, fun v d H' h' R' s' r q => ?_, fun cls dd c fs H' h' R' s' x' q => k.ex _ _ _ _ _ _ _ _ R' s' x' q⟩
  · have q := List.all_eq_true.mp hg i hi
    simpa using q
  · unfold wpG at q
    exact k.nx _ _ _ _ ⟨R'.own, R'.env.set r i⟩ s' q
end
/-! ### the check -/
mutual
def ckS (G : Gs) (S : Sx) : Sm → Stmt → Bool
  | .ex a, s => (match s with
    | .Expr x _ => noComp x && ckE G S a x
    | _ => false)
  | .asg t a, s => (match s with
    | .Assign ts x _ => (match ts with
      | [y] => noSet x && noSwap y x && ckG G S t y && ckE G S a x && (!(swapB S.sc x y) || (match t, a, y, x with
        | .n i, .lc _ _ _ _ _ _, .Name n _, .ListComp _ [⟨_, _, _, 0⟩] _ _ => S.N[i]? == some n && S.sc.names.lookup n == some .local
        | _, _, _, _ => false))
      | _ => false)
    | _ => false)
  | .aug i o a, s => (match s with
    | .AugAssign (.Name n _) o' x _ => o == o' && S.N[i]? == some n && locB S n && ckE G S a x
    | _ => false)
  | .par i j a b, s => (match s with
    | .Assign [.Tuple [.Name n px, .Name m py] _ _] (.Tuple [x, y] _ _) _ => S.N[i]? == some n && S.N[j]? == some m && i != j && parB S.sc n m px py x y && ckE G S a x && ckE G S b y
    | _ => false)
  | .ife c a b, s => (match s with
    | .If x xs ys _ => ckT G S c x && ckSs G S a xs && ckSs G S b ys
    | _ => false)
  | .whl c b, s => (match s with
    | .While x xs ys _ => ys.isEmpty && ckT G S c x && ckSs G S b xs
    | _ => false)
  | .for_ t it b, s => (match s with
    | .For x y xs ys _ => ys.isEmpty && sane y && ckG G S t x && ckI G S it y && ckSs G S b xs
    | _ => false)
  | .ret a, s => (match s with
    | .Return (some x) _ => ckE G S a x
    | _ => false)
  | .retN, s => (match s with
    | .Return none _ => true
    | _ => false)
  | .pass, s => (match s with
    | .Pass _ => true
    | .Expr (.Constant (.str _) _ _) _ => true
    | _ => false)
  | .brk, s => (match s with
    | .Break _ => true
    | _ => false)
  | .cnt, s => (match s with
    | .Continue _ => true
    | _ => false)
  | _, _ => false
def ckSs (G : Gs) (S : Sx) : Sms → List Stmt → Bool
  | .nil, xs => xs.isEmpty
  | .cons a as, xs => (match xs with
    | [] => false
    | x :: xs => ckS G S a x && ckSs G S as xs)
end
section
variable {G : Gs} {T : Tb} {ca : Nat → Addr}
mutual
theorem gS : ∀ (ir : Sm) {X : Cx} {S : Sx} {W : WX} (s : Stmt), Os G T ca X S W → ckS G S ir s = true → PS X s (tS T ca X.K W ir)
  | .ex a, X, S, W, s, O, h => by
    unfold ckS at h
    split at h
    · simp only [Bool.and_eq_true] at h
      exact s_ex h.1 (gE a _ O.ok h.2)
    · cases h
  | .asg t a, X, S, W, s, O, h => by
    unfold ckS at h
    split at h
    · split at h
      · rename_i x _ _ y
        simp only [Bool.and_eq_true] at h
        obtain ⟨⟨⟨⟨h1, h2⟩, h3⟩, h4⟩, h5⟩ := h
        have sc := O.ok.sce
        cases q : swapB S.sc x y with
        | false => exact s_asg O h1 (by rw [sc]; exact q) h2 h3 (gE a _ O.ok h4)
        | true =>
          rw [q] at h5
          simp only [Bool.not_true, Bool.false_or] at h5
          split at h5
          · simp only [Bool.and_eq_true, beq_iff_eq] at h5
            unfold ckE at h4
            simp only [Bool.and_eq_true, decide_eq_true_eq] at h4
            obtain ⟨⟨⟨⟨⟨⟨⟨k1, k2⟩, k3⟩, k4⟩, k5⟩, k6⟩, k7⟩, k8⟩ := h4
            exact s_lc O h5.1 (by rw [sc]; exact h5.2) (by rw [sc]; exact q) k1 k2 k3 (gI _ _ _ O.ok k1 k4) k5 k6 (fun s H C cl fp => gC _ _ (O.ok.blk s H _ C cl fp) k7) (fun s H C cl fp => gE _ _ (O.ok.blk s H _ C cl fp) k8)
          · cases h5
      · cases h
    · cases h
  | .aug i o a, X, S, W, s, O, h => by
    unfold ckS at h
    split at h
    · simp only [Bool.and_eq_true, beq_iff_eq] at h
      obtain ⟨⟨⟨rfl, h2⟩, h3⟩, h4⟩ := h
      exact s_aug O.ok h2 h3 (gE a _ O.ok h4)
    · cases h
  | .par i j a b, X, S, W, s, O, h => by
    unfold ckS at h
    split at h
    · simp only [Bool.and_eq_true, beq_iff_eq, bne_iff_ne, ne_eq] at h
      obtain ⟨⟨⟨⟨⟨h1, h2⟩, h3⟩, h4⟩, h5⟩, h6⟩ := h
      exact s_par O h1 h2 h3 (by rw [O.ok.sce]; exact h4) (gE a _ O.ok h5) (gE b _ O.ok h6)
    · cases h
  | .ife c a b, X, S, W, s, O, h => by
    unfold ckS at h
    split at h
    · simp only [Bool.and_eq_true] at h
      exact s_ife (gT c _ O.ok h.1.1) (gSs a _ O h.1.2) (gSs b _ O h.2)
    · cases h
  | .whl c b, X, S, W, s, O, h => by
    unfold ckS at h
    split at h
    · rename_i x xs ys pos
      simp only [Bool.and_eq_true] at h
      have e : ys = [] := by simpa using h.1.1
      subst e
      exact s_whl O (gT c _ O.ok h.1.2) (gSs b _ O h.2)
    · cases h
  | .for_ t it b, X, S, W, s, O, h => by
    unfold ckS at h
    split at h
    · rename_i x y xs ys pos
      simp only [Bool.and_eq_true] at h
      obtain ⟨⟨⟨⟨h1, h2⟩, h3⟩, h4⟩, h5⟩ := h
      have e : ys = [] := by simpa using h1
      subst e
      exact s_for O h2 (gI it _ _ O.ok h2 h4) h3 (gSs b _ O h5)
    · cases h
  | .ret a, X, S, W, s, O, h => by
    unfold ckS at h
    split at h
    · exact s_ret (gE a _ O.ok h)
    · cases h
  | .retN, X, S, W, s, O, h => by
    unfold ckS at h
    split at h
    · exact s_retN
    · cases h
  | .pass, X, S, W, s, O, h => by
    unfold ckS at h
    split at h
    · exact s_pass
    · exact s_doc
    · cases h
  | .brk, X, S, W, s, O, h => by
    unfold ckS at h
    split at h
    · exact s_brk
    · cases h
  | .cnt, X, S, W, s, O, h => by
    unfold ckS at h
    split at h
    · exact s_cnt
    · cases h
  | .raise _ _, X, S, W, s, O, h => by simp [ckS] at h
  | .try_ _ _, X, S, W, s, O, h => by simp [ckS] at h
theorem gSs : ∀ (ir : Sms) {X : Cx} {S : Sx} {W : WX} (xs : List Stmt), Os G T ca X S W → ckSs G S ir xs = true → PSs X xs (tSs T ca X.K W ir)
  | .nil, X, S, W, xs, O, h => by
    have e : xs = [] := by simpa [ckSs] using h
    subst e
    exact s_nil
  | .cons a as, X, S, W, xs, O, h => by
    cases xs with
    | nil => simp [ckSs] at h
    | cons x xs =>
      unfold ckSs at h
      simp only [Bool.and_eq_true] at h
      exact s_cons (gS a _ O h.1) (gSs as _ O h.2)
end
end
end Rt

namespace Rt
open PySem PySem.Spec PyProof.Rows L2

/-- a def: how it is told, its slots, parameters, small form, level -/
structure De where
  name : Str
  params : Arguments
  body : List Stmt
  scope : Scope
  N : List Str
  ps : List Str
  ir : Sms
  lvl : Nat
def startD (N : List Str) (xs : List D) : Sg := xs.map some ++ List.replicate (N.length - xs.length) none
def kd (Q : PQ) (E : PX) : Kt := ⟨fun _ h => Q .non h, Q, fun _ _ => False, fun _ _ => False, fun c fs _ h => E c fs h⟩
/-- the body does what is promised -/
def Vc (T : Tb) (i : Nat) (d : De) : Prop := ∀ xs h Q E, T.spc i xs h Q E → xs.length = d.ps.length → wpSs T d.ir (startD d.N xs) h (kd Q E)
def scopeB (N ps : List Str) (sc : Scope) : Bool :=
  (match sc.kind with | .function => true | _ => false) && !sc.isCoroutine && !sc.isGenerator && decide N.Nodup && decide (N.take ps.length = ps) &&
    (ps.all fun x => (sc.names.lookup x == some .local) || (sc.names.lookup x == some .cell)) && sc.names.all fun y => y.2 != .free
theorem scope_ok {N ps : List Str} {sc : Scope} (h : scopeB N ps sc = true) : FnScope N ps sc := by
  unfold scopeB at h
  simp only [Bool.and_eq_true, decide_eq_true_eq, List.all_eq_true, Bool.or_eq_true, beq_iff_eq, bne_iff_ne, Bool.not_eq_true'] at h
  obtain ⟨⟨⟨⟨⟨⟨h1, h2⟩, h3⟩, h4⟩, h5⟩, h6⟩, h7⟩ := h
  refine ⟨?_, h2, h3, h4, h5, h6, h7⟩
  split at h1
  · assumption
  · cases h1
def gsOf (ds : List De) (free : Str → Bool) (k : Nat) : Gs := ⟨fun i => match ds[i]? with
  | some d => if d.lvl ≤ k then some (d.name, d.lvl, d.ps.length) else none
  | none => none, free⟩
def ckD (ds : List De) (free : Str → Bool) (d : De) : Bool := scopeB d.N d.ps d.scope && ckSs (gsOf ds free (d.lvl - 1)) ⟨d.N, d.scope, fun _ => true, d.lvl - 1⟩ d.ir d.body && decide (1 ≤ d.lvl)
/-- a def's arguments are its parameters in order -/
def BindA (d : De) : Prop := ∀ (kV doc pm : Value) (an : Option Addr) (cdv ct : Value) (us : List Value), us.length = d.ps.length → bindArgs (PySem.W.fnOf d.name d.name d.params d.body d.scope .none kV doc pm an cdv ct) ⟨us, []⟩ = pure (d.ps.zip us)
def All {α : Type} (P : α → Prop) : List α → Prop
  | [] => True
  | x :: xs => P x ∧ All P xs
def AllI {α : Type} (P : Nat → α → Prop) : Nat → List α → Prop
  | _, [] => True
  | n, x :: xs => P n x ∧ AllI P (n + 1) xs
theorem All.get {α : Type} {P : α → Prop} : ∀ {l : List α} {i : Nat} {x : α}, All P l → l[i]? = some x → P x
  | [], _, _, _, e => by simp at e
  | _ :: _, 0, _, h, e => by
    simp at e; subst e
    exact h.1
  | _ :: _, i + 1, _, h, e => All.get (i := i) h.2 (by simpa using e)
theorem AllI.get {α : Type} {P : Nat → α → Prop} : ∀ {l : List α} {n i : Nat} {x : α}, AllI P n l → l[i]? = some x → P (n + i) x
  | [], _, _, _, _, e => by simp at e
  | _ :: _, n, 0, _, h, e => by
    simp at e; subst e
    exact h.1
  | _ :: _, n, i + 1, _, h, e => by
    have q := AllI.get (i := i) h.2 (by simpa using e)
    rwa [Nat.add_right_comm] at q
/-- what is known of a def -/
structure Known (P : Program) (w : World) (K : PySem.W.Frag) (mg : Str → Option Value) (base : Heap) (T : Tb) (ca : Nat → Addr) (i : Nat) (d : De) (f : Addr) (fd : FuncData) : Prop where
  fun_ : FunD K d.name d.name d.params d.body d.scope [] [] f fd
  at_ : mg d.name = some (.ref f)
  kp : PySem.W.keepIn K (.ref f) = true
  bnd : ∀ (s : Shared) (us : List Value), us.length = d.ps.length → BindsTo s fd ⟨us, []⟩ (d.ps.zip us)
  fn : FnG P w K mg base d.lvl f fd d.ps (spOf T ca K i d.ps.length)
section
variable {P : Program} {w : World} {K : PySem.W.Frag} {mg : Str → Option Value} {base : Heap} {T : Tb} {ca : Nat → Addr} {ds : List De} {free : Str → Bool}
theorem startD_ok {Z : Addr → Prop} {H : Hp} {h : Hd} {N : List Str} {vs : List V} {xs : List D} (r : RDs ca K Z H h vs xs) : Slots ca K Z H h (L2.start N vs) (startD N xs) := by
  unfold L2.start startD
  rw [r.length]
  have go : ∀ {vs : List V} {xs : List D} (n : Nat), RDs ca K Z H h vs xs → Slots ca K Z H h (vs.map some ++ List.replicate n none) (xs.map some ++ List.replicate n none) := by
    intro vs xs n r
    have nones : ∀ n : Nat, Slots ca K Z H h (List.replicate n none) (List.replicate n none) := fun n => by
      induction n with
      | zero => exact .nil
      | succ n ih => exact .cons .none ih
    induction xs generalizing vs with
    | nil =>
      cases r
      exact nones n
    | cons x xs ih =>
      cases r with
      | cons r rs => exact .cons (.some r) (ih rs)
  exact go _ r
theorem fns_ok (hdef : ∀ (i : Nat) (d : De), ds[i]? = some d → ∃ (f : Addr) (fd : FuncData), FunD K d.name d.name d.params d.body d.scope [] [] f fd ∧ mg d.name = some (.ref f)) (hba : All BindA ds) (hfree : ∀ x, free x = true → mg x = none)
    (hck : All (fun d => ckD ds free d = true) ds) (hvc : AllI (Vc T) 0 ds) : ∀ (n i : Nat) (d : De), ds[i]? = some d → d.lvl ≤ n → ∃ (f : Addr) (fd : FuncData), Known P w K mg base T ca i d f fd := by
  intro n
  induction n with
  | zero =>
    intro i d hd hl
    have ck := hck.get hd
    unfold ckD at ck
    simp only [Bool.and_eq_true, decide_eq_true_eq] at ck
    omega
  | succ n ih =>
    intro i d hd hl
    obtain ⟨f, fd, F, ha⟩ := hdef i d hd
    have ck := hck.get hd
    unfold ckD at ck
    simp only [Bool.and_eq_true, decide_eq_true_eq] at ck
    obtain ⟨⟨c1, c2⟩, c3⟩ := ck
    have S := scope_ok c1
    have vc : Vc T i d := by
      have q := hvc.get hd
      rwa [Nat.zero_add] at q
    have bA := FunD.bindsA (ps := d.ps) F (hba.get hd)
    refine ⟨f, fd, F, ha, F.kp, bA, ?_⟩
    obtain ⟨oc, od, dV, kV, doc, pm, an, cdv, ct, osl, rfl, lk, hcd, _, _⟩ := F.ex
    obtain ⟨k, hk⟩ : ∃ k, d.lvl = k + 1 := ⟨d.lvl - 1, by omega⟩
    rw [hk]
    rw [hk, Nat.add_sub_cancel] at c2
    refine fnG_of lk hcd S (fun vs H Q E ⟨xs, h, Z, QD, ED, own, r, le, _⟩ => by rw [r.length, le]) fun A outer s H vs Q E room gd hsp => ?_
    obtain ⟨xs, h, Z, QD, ED, own, r, le, sp, kv, kx⟩ := hsp
    refine ⟨tSs T ca K (fun cls dd _ H => E cls dd H) d.ir, gSs (G := gsOf ds free k) (S := ⟨d.N, d.scope, fun _ => true, k⟩) d.ir d.body ⟨⟨rfl, rfl, fun _ _ => rfl, rfl, S.nd, room, gd, takes_of rfl rfl rfl rfl, fun j n' l m hj => ?_, hfree⟩, passes_of rfl, S.kind⟩ c2, ?_⟩
    · unfold gsOf at hj
      dsimp only at hj
      split at hj
      · rename_i e he
        split at hj
        · rename_i hle
          cases hj
          obtain ⟨f', fd', kn⟩ := ih j e he (by omega)
          refine ⟨f', fd', e.ps, kn.at_, kn.kp, fun s us _ hl => ?_, kn.fn⟩
          rw [List.append_nil] at hl ⊢
          exact kn.bnd s us hl
        · cases hj
      · cases hj
    · exact ⟨startD d.N xs, h, Z, kd QD ED, ⟨own, startD_ok r⟩, vc xs h QD ED sp le, fun τ σ H' h' R s' q => kv _ _ _ _ R.own s' .non q, fun v d H' h' o s' r q => kv v d H' h' o s' r q, fun _ _ _ _ _ _ q => q.elim, fun _ _ _ _ _ _ q => q.elim,
        fun cls dd c fs τ σ H' h' R s' x q => kx cls dd c fs H' h' R.own s' x q⟩
end
/-! ### the head -/
def toD (d : De) : He.DefD := ⟨(d.name, none), d.name, d.name, d.params, d.body, d.scope, [], []⟩
def faOf (ds : List De) (fr : List Str) : List He.Fa := ds.map (fun d => .glo d.name) ++ fr.map .free
theorem facts_ok {K : PySem.W.Frag} {mg : Str → Option Value} {h : Heap} {ds : List De} {fr : List Str} (X : K.In h) (G : h.Ns mainGlobals mg) (c : He.SaysD (faOf ds fr) (ds.map toD) K) :
    (∀ (i : Nat) (d : De), ds[i]? = some d → ∃ (f : Addr) (fd : FuncData), FunD K d.name d.name d.params d.body d.scope [] [] f fd ∧ mg d.name = some (.ref f)) ∧ ∀ x, fr.contains x = true → mg x = none := by
  refine ⟨fun i d hd => ?_, fun x hx => ?_⟩
  · have e1 : (ds.map toD)[i]? = some (toD d) := by rw [List.getElem?_map, hd]; rfl
    obtain ⟨fd, F⟩ := c.def_ i e1
    have hi : i < ds.length := by
      by_cases q : i < ds.length
      · exact q
      · rw [List.getElem?_eq_none (by omega)] at hd; cases hd
    have e2 : (faOf ds fr)[i]? = some (.glo d.name) := by
      unfold faOf
      rw [List.getElem?_append_left (by simpa using hi), List.getElem?_map, hd]
      rfl
    exact ⟨_, fd, F, He.glo_ok X G (c.fact i e2)⟩
  · have hm : x ∈ fr := by simpa using hx
    obtain ⟨j, hj, e⟩ := List.getElem_of_mem hm
    have e2 : (faOf ds fr)[ds.length + j]? = some (.free x) := by
      unfold faOf
      rw [List.getElem?_append_right (by simp), List.length_map, Nat.add_sub_cancel_left, List.getElem?_map, List.getElem?_eq_getElem hj, e]
      rfl
    exact He.free_ok X G (c.fact _ e2)
/-- the heap as the caller sees it: the script kept, nothing else told -/
theorem callG {P : Program} {w : World} {K : PySem.W.Frag} {mg mb : Str → Option Value} {k : Nat} {fa a : Addr} {fd : FuncData} {x : Str} {sp : Sp} {st : Shared} {vs : List Value} {ns : List Int}
    (inK : K.In st.heap) (gl : st.heap.Ns mainGlobals mg) (bl : st.heap.Ns builtinsNs mb) (bb : ∀ x : Str, x ≠ "__name__" → mb x = bootBuiltins x) (nol : st.heap.NoLimit) (ng : st.gens = #[])
    (at_ : st.heap.get? a = some { cls := .type "list", data := .seq vs.toArray }) (isn : IntsAre vs ns) (size : ns.length ≤ sizeLine) (room : Room k callerA)
    (F : ∀ base : Heap, K.In base → base.Ns mainGlobals mg → FnG P w K mg base k fa fd [x] sp) (bnd : ∀ (s : Shared) (u : Value), BindsTo s fd ⟨[u], []⟩ [(x, u)])
    (prom : ∀ H : Hp, Only H → SqL K H a (ns.map V.int) → sp [.ref a] H (fun v _ => v = .bl true) fun _ _ _ => False) :
    codeAny (model P w) callerA (.call (.ref fa) ⟨[.ref a], []⟩) (fun r s' => r = .ok (.ret (.bool true)) ∧ OldK st.heap s'.heap ∧ s'.os = st.os ∧ AllBare s'.gens) st := by
  have rv := vals_ints isn
  have go : ∀ H : Hp, Only H → SqL K H a (ns.map V.int) → HOk P w H st.heap → (∀ b, H b ≠ none → b = a) → (H a ≠ none → K.lookup a = none) →
      codeAny (model P w) callerA (.call (.ref fa) ⟨[.ref a], []⟩) (fun r s' => r = .ok (.ret (.bool true)) ∧ OldK st.heap s'.heap ∧ s'.os = st.os ∧ AllBare s'.gens) st := by
    intro H only sq hok mine apart
    have none_of : ∀ {b : Addr}, b ≠ a → H b = none := fun {b} nb => by
      cases q : H b with
      | none => rfl
      | some u => exact absurd (mine b (by rw [q]; simp)) nb
    have dct : ∀ {b : Addr} {o : Obj} {es : Array DictEntry} {ep : Nat}, st.heap.get? b = some o → o.data = .dict es ep → b ≠ a := fun {b o es ep} e d z => by
      subst z
      rw [at_] at e
      cases e
      cases d
    have nsB : ∀ {b : Addr} {m : Str → Option Value}, st.heap.Ns b m → (hidT st.heap H).Ns b m := fun {b m} ⟨o, es, ep, e, d, r⟩ => ⟨o, es, ep, hidT_get e (none_of (dct e d)), d, r⟩
    have inB : K.In (hidT st.heap H) := fun b o e => hidT_get (inK b o e) (by
      by_cases nb : b = a
      · subst nb
        cases q : H b with
        | none => rfl
        | some u =>
          have z := apart (by rw [q]; simp)
          rw [z] at e
          cases e
      · exact none_of nb)
    have md : Mod K mg (hidT st.heap H) := ⟨inB, nsB gl, ⟨mb, nsB bl, bb⟩, let ⟨mc, h1, h2⟩ := nol; ⟨mc, nsB h1, h2⟩⟩
    have env0 : Env0 P w K mg (hidT st.heap H) callerA [] st H := ⟨rfl, md, fun b o e => of_hidT e, Nat.le_of_eq (hidT_size _ _), trivial, fun b hb => (nomatch hb), hok, .of_eq ng⟩
    refine codeAny_mono ((F _ inB (nsB gl)).run callerA [] st H ⟨[.ref a], []⟩ [.ref a] [.ref a] _ _ room rfl env0 (bnd st (.ref a)) (.cons rfl .nil) (prom H only sq)) fun res s' hq => ?_
    match res, hq with
    | .error e, hq =>
      obtain ⟨_, _, _, _, _, _, _, _, _, _, _, _, z⟩ := hq
      exact z.elim
    | .ok .next, hq => exact hq.elim
    | .ok .brk, hq => exact hq.elim
    | .ok .cont, hq => exact hq.elim
    | .ok (.ret u), hq =>
      obtain ⟨v, H', os, bare, un, hok', rel, q⟩ := hq
      have q' : v = .bl true := q
      subst q'
      have eu : u = Value.bool true := rel
      subst eu
      refine ⟨rfl, OldK.of_keep fun b o e => ?_, os, bare⟩
      rcases only b with z | ⟨ob, xs, z⟩
      · exact un.keep b o e z (fun m => nomatch m) (by simp)
      · have z2 := un.frzs b ob _ z
        have e1 := (hok b _ z).1
        have e2 := (hok' b _ z2).1
        rw [e] at e1
        cases e1
        exact e2
  cases lk : K.lookup a with
  | some o =>
    have e := inK a o lk
    rw [at_] at e
    cases e
    exact go (fun _ => none) (fun _ => .inl rfl) (.inr ⟨_, vs.toArray, _, lk, rfl, rfl, rfl, by rw [List.size_toArray, isn.length]; exact size, by simpa using rv⟩) (fun _ _ z => nomatch z) (fun _ z => absurd rfl z) fun z => absurd rfl z
  | none =>
    have is_ : ∀ {b : Addr} {u : HO}, (if b = a then some (HO.frz { cls := .type "list", data := .seq vs.toArray } (.lst (ns.map V.int))) else none) = some u → b = a ∧ u = HO.frz { cls := .type "list", data := .seq vs.toArray } (.lst (ns.map V.int)) := fun {b u} z => by
      split at z
      · exact ⟨by assumption, (Option.some.inj z).symm⟩
      · cases z
    refine go (fun b => if b = a then some (.frz { cls := .type "list", data := .seq vs.toArray } (.lst (ns.map V.int))) else none) (fun b => ?_) (.inl (.inr ⟨_, if_pos rfl⟩)) (fun b u z => ?_) (fun b z => ?_) fun _ => lk
    · by_cases nb : b = a
      · exact .inr ⟨_, _, if_pos nb⟩
      · exact .inl (if_neg nb)
    · obtain ⟨rfl, rfl⟩ := is_ z
      exact ⟨at_, by rw [List.length_map]; exact size, vs, _, rv, at_⟩
    · by_cases nb : b = a
      · exact nb
      · exact absurd (if_neg nb) z
theorem walkG {l : PySem.W.OpenLaw} {n k : Nat} {q : Program} {loose : List Str} {XP : (Str → Option Value) → Heap → Prop} {YP : World → Heap → Prop} {d : DefRec} {x : Str} (hm : l.most = some n) (hle : n ≤ sizeLine) (hnd : d.params.defaults = []) (room : Room k callerA)
    (F : ∀ (w : World) (mg : Str → Option Value) (fa : Addr) (h : Heap), YP w h → h.Ns mainGlobals mg → mg d.name = some (.ref fa) → ∃ (K : PySem.W.Frag) (fd : FuncData) (sp : Sp), K.In h ∧ (∀ (s : Shared) (u : Value), BindsTo s fd ⟨[u], []⟩ [(x, u)]) ∧
      (∀ (H : Hp) (a : Addr) (ns : List Int), ns.length ≤ n → Only H → SqL K H a (ns.map V.int) → sp [.ref a] H (fun v _ => v = .bl true) fun _ _ _ => False) ∧ ∀ base : Heap, K.In base → base.Ns mainGlobals mg → FnG l.prog w K mg base k fa fd [x] sp) :
    PySem.W.WalkO q loose XP YP l.row.toRowW d [] (fun f vs => PySem.call f vs) :=
  Att.attach_call hm hnd fun w s0 st mg mb fa o pm cd doc a vs ns G Y _ _ _ hg at_ isn hlen ng => by
    obtain ⟨K, fd, sp, inK, bnd, prom, hF⟩ := F w mg fa _ Y G.T.g hg
    exact callG inK G.T.g G.T.b G.T.builtins G.T.nolimit ng at_ isn (Nat.le_trans hlen hle) room hF bnd fun H only sq => prom H a ns hlen only sq
/-- a law's promise: whole numbers in, True out -/
def lawSp (most : Nat) : List D → Hd → PQ → PX → Prop := fun xs h Q _ => ∃ ns : List Int, xs = [.scr (ns.map .int)] ∧ ns.length ≤ most ∧ h = (fun _ => none) ∧ ∀ h', Q (.bl true) h'
theorem rds_ints {ca : Nat → Addr} {K : PySem.W.Frag} {Z : Addr → Prop} {H : Hp} {h : Hd} : ∀ ns : List Int, RDs ca K Z H h (ns.map V.int) (ns.map D.int)
  | [] => .nil
  | n :: ns => .cons (.int n) (rds_ints ns)
theorem law_facts {P : Program} {w : World} {K : PySem.W.Frag} {mg : Str → Option Value} {h : Heap} {T : Tb} {ca : Nat → Addr} {ds : List De} {fr : List Str} {fa : Addr} {i most : Nat} {d : De} {x : Str} (X : K.In h) (G : h.Ns mainGlobals mg) (c : He.SaysD (faOf ds fr) (ds.map toD) K)
    (hd : ds[i]? = some d) (hps : d.ps = [x]) (hfa : mg d.name = some (.ref fa)) (hba : All BindA ds) (hck : All (fun d => ckD ds (fun x => fr.contains x) d = true) ds) (hvc : AllI (Vc T) 0 ds) (hsp : T.spc i = lawSp most) :
    ∃ (fd : FuncData) (sp : Sp), (∀ (s : Shared) (u : Value), BindsTo s fd ⟨[u], []⟩ [(x, u)]) ∧
      (∀ (H : Hp) (a : Addr) (ns : List Int), ns.length ≤ most → Only H → SqL K H a (ns.map V.int) → sp [.ref a] H (fun v _ => v = .bl true) fun _ _ _ => False) ∧ ∀ base : Heap, K.In base → base.Ns mainGlobals mg → FnG P w K mg base d.lvl fa fd [x] sp := by
  obtain ⟨f1, f2⟩ := facts_ok X G c
  have kn : ∀ base : Heap, ∃ (f : Addr) (fd : FuncData), Known P w K mg base T ca i d f fd := fun base => fns_ok f1 hba f2 hck hvc d.lvl i d hd (Nat.le_refl _)
  obtain ⟨f, fd, F, ha⟩ := f1 i d hd
  rw [hfa] at ha
  cases ha
  refine ⟨fd, spOf T ca K i 1, fun s u => ?_, fun H a ns hlen _ sq => ?_, fun base _ _ => ?_⟩
  · have q := FunD.bindsA (ps := d.ps) F (hba.get hd) s [u] (by rw [hps]; rfl)
    rw [hps] at q
    exact q
  · refine ⟨[.scr (ns.map .int)], fun _ => none, fun _ => False, fun d _ => d = .bl true, noX, ⟨fun _ _ z => (nomatch z), fun _ z => z.elim⟩, .cons (.scr ?_ (rds_ints ns)) .nil, rfl, by rw [hsp]; exact ⟨ns, rfl, hlen, rfl, fun _ => rfl⟩, fun v d H' h' _ _ r q => ?_, fun _ _ _ _ _ _ _ _ _ z => z.elim⟩
    · exact sq.elim (fun z => .inl ⟨⟨rfl, fun z => z⟩, z⟩) .inr
    · subst q
      cases r
      rfl
  · obtain ⟨f', fd', k'⟩ := kn base
    have e1 := k'.at_
    rw [hfa] at e1
    cases e1
    have q := k'.fn
    rw [hps] at q
    have e2 : fd = fd' := by
      obtain ⟨_, _, _, _, _, _, _, _, _, _, _, l1, _⟩ := F.ex
      obtain ⟨_, _, _, _, _, _, _, _, _, _, _, l2, _⟩ := k'.fun_.ex
      rw [l1] at l2
      cases l2
      rfl
    subst e2
    exact q
end Rt

namespace Rt
open PySem PySem.Spec PyProof.Rows L2

theorem forP_ind {step : D → Sg → Hd → Kt → Prop} {K : Kt} {I : Sg → Hd → Prop} : ∀ {items : List D} {σ : Sg} {h : Hd}, (∀ x ∈ items, ∀ σ h (R : Sg → Hd → Prop), I σ h → (∀ σ h, I σ h → R σ h) → step x σ h { K with nx := R, ct := R, bk := K.nx }) → I σ h → (∀ σ h, I σ h → K.nx σ h) → forP step items σ h K
  | [], _, _, _, i, k => k _ _ i
  | x :: xs, _, _, st, i, k => st x (by simp) _ _ _ i fun _ _ i' => forP_ind (fun y hy => st y (by simp [hy])) i' k
/-- .. with what lies behind and ahead -/
theorem forP_idx {step : D → Sg → Hd → Kt → Prop} {K : Kt} {I : List D → Sg → Hd → Prop} : ∀ (items pre : List D) {σ : Sg} {h : Hd}, (∀ pre x post, items = pre ++ x :: post → True) → (∀ p x q, pre ++ items = p ++ x :: q → ∀ σ h (R : Sg → Hd → Prop), I p σ h → (∀ σ h, I (p ++ [x]) σ h → R σ h) → step x σ h { K with nx := R, ct := R, bk := K.nx }) → I pre σ h → (∀ σ h, I (pre ++ items) σ h → K.nx σ h) → forP step items σ h K
  | [], pre, _, _, _, _, i, k => k _ _ (by simpa using i)
  | x :: xs, pre, _, _, _, st, i, k => st pre x xs rfl _ _ _ i fun _ _ i' => forP_idx xs (pre ++ [x]) (fun _ _ _ _ => trivial) (fun p y q e => st p y q (by simpa using e)) i' (fun _ _ i'' => k _ _ (by simpa using i''))
theorem lcP_map {step : D → Hd → (Option D → Hd → Prop) → Prop} {f : D → D} {h : Hd} {K : List D → Hd → Prop} : ∀ {xs acc : List D}, (∀ x ∈ xs, ∀ R : Option D → Hd → Prop, R (some (f x)) h → step x h R) → K (acc ++ xs.map f) h → lcP step xs acc h K
  | [], acc, _, k => by
    rw [List.map_nil, List.append_nil] at k
    exact k
  | x :: xs, acc, st, k => st x (by simp) _ (lcP_map (fun y hy => st y (by simp [hy])) (by simpa using k))
theorem lcP_fil {step : D → Hd → (Option D → Hd → Prop) → Prop} {f : D → Option D} {h : Hd} {K : List D → Hd → Prop} : ∀ {xs acc : List D}, (∀ x ∈ xs, ∀ R : Option D → Hd → Prop, R (f x) h → step x h R) → K (acc ++ xs.filterMap f) h → lcP step xs acc h K
  | [], acc, _, k => by
    rw [List.filterMap_nil, List.append_nil] at k
    exact k
  | x :: xs, acc, st, k => st x (by simp) _ (by
    cases q : f x with
    | none => exact lcP_fil (fun y hy => st y (by simp [hy])) (by simpa [List.filterMap_cons, q] using k)
    | some y => exact lcP_fil (fun y hy => st y (by simp [hy])) (by simpa [List.filterMap_cons, q] using k))
/-- .. where the heap goes on -/
theorem lcP_ind {step : D → Hd → (Option D → Hd → Prop) → Prop} {I : Nat → List D → Hd → Prop} {K : List D → Hd → Prop} : ∀ {xs acc : List D} {h : Hd}, (∀ x ∈ xs, ∀ n acc h (R : Option D → Hd → Prop), I n acc h → (∀ o h', I (n + 1) (match o with | some y => acc ++ [y] | none => acc) h' → R o h') → step x h R) → ∀ n, I n acc h → (∀ acc h, I (n + xs.length) acc h → K acc h) → lcP step xs acc h K
  | [], acc, h, _, n, i, k => k _ _ i
  | x :: xs, acc, h, st, n, i, k => st x (by simp) n _ _ _ i fun o h' i' => lcP_ind (I := I) (fun y hy => st y (by simp [hy])) (n + 1) i' fun acc h i'' => k _ _ (by
    rw [List.length_cons]
    rwa [Nat.add_right_comm] at i'')
section
variable {h : Hd} {a c : Addr} {kvs : List (Key × D)} {xs : List D} {i v d : D} {k : Key}
theorem set_dK {Q : Hd → Prop} (e : h a = some (.dK kvs)) (n : kvs.length < 100000) (ke : keyO i = some k) (q : Q (hup h a (.dK (dput kvs k v)))) : setP (.ref a) i v h Q := by
  unfold setP
  dsimp only
  rw [e]
  dsimp only
  rw [ke]
  exact ⟨n, q⟩
theorem asL_at (e : h a = some (.lst xs)) : asL (.ref a) h = some xs := by
  unfold asL
  dsimp only
  rw [e]
theorem asL_dK (e : h a = some (.dK kvs)) : asL (.ref a) h = none := by
  unfold asL
  dsimp only
  rw [e]
theorem asK_at (e : h a = some (.dK kvs)) : asK (.ref a) h = some kvs := by
  unfold asK
  dsimp only
  rw [e]
theorem idx_dK {R : D → Prop} (e : h a = some (.dK kvs)) (ke : keyO i = some k) (g : dget kvs k = some d) (q : R d) : idxP (.ref a) i h R := by
  unfold idxP
  dsimp only
  rw [asL_dK e, asK_at e]
  dsimp only
  rw [ke]
  show optP (dget kvs k) R
  rw [g]
  exact q
theorem idx_s {R : D → Prop} {z : Str} (e : h a = some (.dK kvs)) (g : dget kvs (.inr z) = some d) (q : R d) : idxP (.ref a) (.str z) h R := idx_dK e rfl g q
theorem set_s {Q : Hd → Prop} {z : Str} (e : h a = some (.dK kvs)) (n : kvs.length < 100000) (q : Q (hup h a (.dK (dput kvs (.inr z) v)))) : setP (.ref a) (.str z) v h Q := set_dK e n rfl q
theorem idx_at {R : D → Prop} {n : Int} (e : h a = some (.lst xs)) (g : atI xs n = some d) (q : R d) : idxP (.ref a) (.int n) h R := by
  unfold idxP
  dsimp only
  rw [asL_at e]
  show optP (atI xs n) R
  rw [g]
  exact q
theorem len_at {R : D → Prop} (e : h a = some (.lst xs)) (q : R (.int xs.length)) : bifP .len [.ref a] h R := by
  show optP (asL (.ref a) h) _
  rw [asL_at e]
  exact q
theorem rec_at {m : Bm} (hm : m = .append ∨ m = .pop) (e : h a = some (.lst xs)) : recP m (.ref a) h := by
  rcases hm with rfl | rfl
  · show (asL (.ref a) h).isSome = true
    rw [asL_at e]; rfl
  · show (asL (.ref a) h).isSome = true
    rw [asL_at e]; rfl
theorem pop_at {Q : PQ} (e : h a = some (.lst xs)) (g : xs.getLast? = some d) (q : Q d (hup h a (.lst xs.dropLast))) : bmeP .pop (.ref a) [] h Q := by
  show popP (.ref a) [] h Q
  unfold popP
  dsimp only
  rw [e]
  dsimp only
  rw [g]
  exact q
theorem app_at {Q : PQ} (e : h a = some (.lst xs)) (n : xs.length < sizeLine) (q : Q .non (hup h a (.lst (xs ++ [d])))) : bmeP .append (.ref a) [d] h Q := by
  show appP (.ref a) [d] h Q
  unfold appP
  dsimp only
  rw [e]
  exact ⟨n, q⟩
end
theorem atI_ok {α : Type} {xs : List α} {n : Int} (h0 : 0 ≤ n) (h1 : n < xs.length) : ∃ x, atI xs n = some x ∧ x ∈ xs := by
  have hn : n.toNat < xs.length := by omega
  refine ⟨xs[n.toNat], ?_, List.getElem_mem hn⟩
  unfold atI
  first
    | (simp [h0, hn]; done)
    | (unfold ixN
       simp [h0, h1, hn]
       done)
    | (simp only [ixN]
       rw [if_pos ⟨h0, h1⟩]
       simp [hn])
theorem mul_r {i j : Int} (h : -(2 ^ 64) < j ∧ j < 2 ^ 64) : CMul i j := .inr h
theorem mul_l {i j : Int} (h : -(2 ^ 64) < i ∧ i < 2 ^ 64) : CMul i j := .inl h

/-! ### sources -/
def srcIr : Sms := (.cons (.asg (.n 1) (.k (.int 11))) (.cons (.for_ (.n 2) (.seq (.v 0)) (.cons (.asg (.n 1) (.bin .Mod (.bif .int (.cons (.bin .Add (.bin .Add (.bin .Mult (.v 1) (.k (.int 69069))) (.bin .Mult (.v 2) (.k (.int 31)))) (.k (.int 5))) .nil)) (.k (.int 2147483629)))) .nil)) (.cons (.ret (.dct true [.inr "cells", .inr "left", .inr "mixed", .inr "turn"] (.cons (.rev true (.lc false [2] (.n 2) (.seq (.v 0)) .nil (.bif .abs (.cons (.v 2) .nil)))) (.cons (.k (.int 1)) (.cons (.v 1) (.cons (.k (.int 0)) .nil)))))) .nil)))
def kC : Key := .inr "cells"
def kL : Key := .inr "left"
def kM : Key := .inr "mixed"
def kT : Key := .inr "turn"
def sD (c : Addr) (l m t : Int) : List (Key × D) := [(kC, .ref c), (kL, .int l), (kM, .int m), (kT, .int t)]
/-- a source: its dict at a, its cells at c -/
def Src (a c : Addr) (h : Hd) : Prop := a ≠ c ∧ ∃ (l m t : Int) (cs : List Int), 0 ≤ l ∧ 0 ≤ m ∧ 0 ≤ t ∧ (∀ x ∈ cs, 0 ≤ x) ∧ h a = some (.dK (sD c l m t)) ∧ h c = some (.lst (cs.map .int))
/-- nothing but a and c is touched -/
def Oth (a c : Addr) (h h' : Hd) : Prop := ∀ b, b ≠ a → b ≠ c → h' b = h b
theorem Oth.refl {a c : Addr} {h : Hd} : Oth a c h h := fun _ _ _ => rfl
theorem Oth.trans {a c : Addr} {h h1 h2 : Hd} (x : Oth a c h h1) (y : Oth a c h1 h2) : Oth a c h h2 := fun b na nc => (y b na nc).trans (x b na nc)
theorem Oth.upA {a c : Addr} {h : Hd} {o : O} : Oth a c h (hup h a o) := fun b na _ => hup_ne na
theorem Oth.upC {a c : Addr} {h : Hd} {o : O} : Oth a c h (hup h c o) := fun b _ nc => hup_ne nc
theorem ks_ne : kC ≠ kL ∧ kC ≠ kM ∧ kC ≠ kT ∧ kL ≠ kM ∧ kL ≠ kT ∧ kM ≠ kT := by decide +kernel
theorem gC' {c : Addr} {l m t : Int} : dget (sD c l m t) kC = some (.ref c) := by simp [dget, sD]
theorem gL' {c : Addr} {l m t : Int} : dget (sD c l m t) kL = some (.int l) := by simp [dget, sD, ks_ne]
theorem gM' {c : Addr} {l m t : Int} : dget (sD c l m t) kM = some (.int m) := by simp [dget, sD, ks_ne]
theorem gT' {c : Addr} {l m t : Int} : dget (sD c l m t) kT = some (.int t) := by simp [dget, sD, ks_ne]
theorem pL' {c : Addr} {l m t x : Int} : dput (sD c l m t) kL (.int x) = sD c x m t := by simp [dput, sD, ks_ne, ks_ne.1.symm, ks_ne.2.2.2.1.symm, ks_ne.2.2.2.2.1.symm]
theorem pM' {c : Addr} {l m t x : Int} : dput (sD c l m t) kM (.int x) = sD c l x t := by simp [dput, sD, ks_ne, ks_ne.1.symm, ks_ne.2.1.symm, ks_ne.2.2.2.1.symm, ks_ne.2.2.2.2.1.symm, ks_ne.2.2.2.2.2.symm]
theorem pT' {c : Addr} {l m t x : Int} : dput (sD c l m t) kT (.int x) = sD c l m x := by simp [dput, sD, ks_ne, ks_ne.1.symm, ks_ne.2.1.symm, ks_ne.2.2.2.1.symm, ks_ne.2.2.2.2.1.symm, ks_ne.2.2.2.2.2.symm]
theorem src_ok {T : Tb} {ns : List Int} {h : Hd} {Q : PQ} {E : PX} (hl : ns.length ≤ 63) (q : ∀ a c h', h a = none → h c = none → Src a c h' → Oth a c h h' → Q (.ref a) h') : wpSs T srcIr (startD ["script", "mixed", "cell"] [.scr (ns.map .int)]) h (kd Q E) := by
  show forP _ (ns.map .int) _ h _
  refine forP_ind (I := fun σ h' => h' = h ∧ ∃ (m : Int) (x : Option D), 0 ≤ m ∧ σ = [some (.scr (ns.map .int)), some (.int m), x]) (fun x hx σ h' R i r => ?_) ⟨rfl, 11, none, by decide, rfl⟩ fun σ h' i => ?_
  · obtain ⟨rfl, m, y, hm, rfl⟩ := i
    obtain ⟨n, _, rfl⟩ := List.mem_map.mp hx
    refine ⟨mul_r ⟨by decide, by decide⟩, mul_r ⟨by decide, by decide⟩, by decide, ?_⟩
    exact r _ _ ⟨rfl, _, some (.int n), Int.emod_nonneg _ (by decide), rfl⟩
  · obtain ⟨rfl, m, y, hm, rfl⟩ := i
    have hz : (ns.map D.int).length < sizeLine := by rw [List.length_map, sizeLine_eq]; omega
    refine ⟨hz, lcP_map (f := fun d => match d with | .int i => .int i.natAbs | d => d) (fun x hx R r => ?_) ?_⟩
    · obtain ⟨n, _, rfl⟩ := List.mem_map.mp hx
      exact ⟨fun _ => r, fun z => nomatch z⟩
    · intro c hc a ha
      have hac : a ≠ c := fun e => by
        rw [e, hup_same] at ha
        cases ha
      have ha' : h' a = none := by rwa [hup_ne hac] at ha
      refine q a c _ ha' hc ⟨hac, 1, m, 0, (ns.map fun n => (n.natAbs : Int)).reverse, by decide, hm, by decide, fun x hx => ?_, hup_same, ?_⟩ (Oth.upC.trans Oth.upA)
      · rw [List.mem_reverse] at hx
        obtain ⟨n, _, rfl⟩ := List.mem_map.mp hx
        exact Int.natCast_nonneg _
      · rw [hup_ne hac.symm, hup_same]
        simp [Function.comp_def]
def pickW : Sm := (.whl (.bop .And (.cons (.cmp .Gt (.v 1) (.k (.int 1))) (.cons (.cmp .Lt (.idx (.v 0) (.k (.str "left"))) (.k (.int 2))) (.cons (.cmp .Gt (.bif .len (.cons (.idx (.v 0) (.k (.str "cells"))) .nil)) (.k (.int 0))) .nil)))) (.cons (.asg (.sub (.v 0) (.k (.str "left"))) (.bme .pop (.idx (.v 0) (.k (.str "cells"))) .nil)) .nil))
def pickR : Sms := (.cons (.asg (.n 2) (.idx (.v 0) (.k (.str "left")))) (.cons (.ife (.bop .Or (.cons (.cmp .Lt (.v 1) (.k (.int 2))) (.cons (.cmp .Gt (.v 2) (.k (.int 1))) .nil))) (.cons (.asg (.sub (.v 0) (.k (.str "left"))) (.bin .FloorDiv (.v 2) (.bif .max2 (.cons (.k (.int 1)) (.cons (.v 1) .nil))))) (.cons (.ret (.bin .Mod (.bif .int (.cons (.v 2) .nil)) (.bif .max2 (.cons (.k (.int 1)) (.cons (.v 1) .nil))))) .nil)) .nil) (.cons (.asg (.sub (.v 0) (.k (.str "turn"))) (.bin .Add (.idx (.v 0) (.k (.str "turn"))) (.k (.int 1)))) (.cons (.asg (.n 3) (.bin .Mod (.bif .int (.cons (.bin .Add (.idx (.v 0) (.k (.str "mixed"))) (.bin .Mult (.idx (.v 0) (.k (.str "turn"))) (.k (.int 104729)))) .nil)) (.k (.int 998244353)))) (.cons (.asg (.n 3) (.bin .Mod (.bif .int (.cons (.bin .Add (.bin .Mult (.v 3) (.v 3)) (.bin .Mult (.idx (.v 0) (.k (.str "turn"))) (.k (.int 17)))) .nil)) (.k (.int 2147483647)))) (.cons (.asg (.sub (.v 0) (.k (.str "mixed"))) (.v 3)) (.cons (.ret (.bin .Mod (.bif .int (.cons (.bin .FloorDiv (.v 3) (.k (.int 16))) .nil)) (.v 1))) .nil)))))))
theorem pick_rest {T : Tb} {a c : Addr} {n l m t : Int} {cs : List Int} {h : Hd} {Q : PQ} {E : PX} (nac : a ≠ c) (l0 : 0 ≤ l) (m0 : 0 ≤ m) (t0 : 0 ≤ t) (c0 : ∀ x ∈ cs, 0 ≤ x) (ha : h a = some (.dK (sD c l m t))) (hc : h c = some (.lst (cs.map .int))) (hn : n < 1000000000)
    (q : ∀ r h', 0 ≤ r → (r < n ∨ r < 1) → Src a c h' → Oth a c h h' → Q (.int r) h') : wpSs T pickR [some (.ref a), some (.int n), none, none] h (kd Q E) := by
  refine idx_s ha gL' ?_
  have then_ : ∀ (N B C : Sg → Hd → Prop) (X : Nat → List (Str × D) → Sg → Hd → Prop), wpSs T (.cons (.asg (.sub (.v 0) (.k (.str "left"))) (.bin .FloorDiv (.v 2) (.bif .max2 (.cons (.k (.int 1)) (.cons (.v 1) .nil))))) (.cons (.ret (.bin .Mod (.bif .int (.cons (.v 2) .nil)) (.bif .max2 (.cons (.k (.int 1)) (.cons (.v 1) .nil))))) .nil)) [some (.ref a), some (.int n), some (.int l), none] h ⟨N, Q, B, C, X⟩ := by
    intro N B C X
    have mx : 0 < (if n ≤ 1 then 1 else n) ∧ (if n ≤ 1 then 1 else n) < 1073741824 := by split <;> omega
    refine ⟨mx, set_s ha (show 4 < 100000 by decide) ⟨mx.1, q _ _ (Int.emod_nonneg _ (by omega)) ?_ ⟨nac, l / (if n ≤ 1 then 1 else n), m, t, cs, Int.ediv_nonneg l0 (by omega), m0, t0, c0, ?_, ?_⟩ Oth.upA⟩⟩
    · have z := Int.emod_lt_of_pos l mx.1
      by_cases n1 : n ≤ 1
      · rw [if_pos n1] at z ⊢; exact .inr z
      · rw [if_neg n1] at z ⊢; exact .inl z
    · rw [hup_same]
      show some (O.dK (dput (sD c l m t) kL _)) = _
      rw [pL']
    · rw [hup_ne nac.symm]; exact hc
  refine ⟨fun _ => ⟨fun _ => then_ _ _ _ _, fun z => (nomatch z)⟩, fun b1 => ⟨fun _ => then_ _ _ _ _, fun b2 => ?_⟩⟩
  have hn2 : 2 ≤ n := by simpa using b1
  refine idx_s ha gT' (set_s ha (show 4 < 100000 by decide) ?_)
  show wpSs T _ _ (hup h a (.dK (dput (sD c l m t) kT (.int (t + 1))))) _
  rw [pT']
  have h1 : hup h a (.dK (sD c l m (t + 1))) a = some (.dK (sD c l m (t + 1))) := hup_same
  refine idx_s h1 gM' (idx_s h1 gT' ⟨mul_r ⟨by decide, by decide⟩, by decide, ?_⟩)
  have b1 : 0 ≤ (m + (t + 1) * 104729) % 998244353 ∧ (m + (t + 1) * 104729) % 998244353 < 998244353 := ⟨Int.emod_nonneg _ (by decide), Int.emod_lt_of_pos _ (by decide)⟩
  refine ⟨mul_l ⟨by show -(2 ^ 64) < (m + (t + 1) * 104729) % 998244353; omega, by show (m + (t + 1) * 104729) % 998244353 < 2 ^ 64; omega⟩, idx_s h1 gT' ⟨mul_r ⟨by decide, by decide⟩, by decide, set_s h1 (show 4 < 100000 by decide) ⟨by decide, ?_⟩⟩⟩
  generalize ex : ((m + (t + 1) * 104729) % 998244353 * ((m + (t + 1) * 104729) % 998244353) + (t + 1) * 17) % 2147483647 = x
  have x0 : 0 ≤ x := by rw [← ex]; exact Int.emod_nonneg _ (by decide)
  refine ⟨by omega, q _ _ (Int.emod_nonneg _ (by omega)) (.inl (Int.emod_lt_of_pos _ (by omega))) ⟨nac, l, x, t + 1, cs, l0, x0, by omega, c0, ?_, ?_⟩ (Oth.upA.trans Oth.upA)⟩
  · rw [hup_same]
    show some (O.dK (dput (sD c l m (t + 1)) kM _)) = _
    rw [pM']
  · rw [hup_ne nac.symm, hup_ne nac.symm]; exact hc
theorem pick_ok {T : Tb} {a c : Addr} {n : Int} {h : Hd} {Q : PQ} {E : PX} (sr : Src a c h) (hn : n < 1000000000) (q : ∀ r h', 0 ≤ r → (r < n ∨ r < 1) → Src a c h' → Oth a c h h' → Q (.int r) h') :
    wpSs T (.cons pickW pickR) (startD ["source", "many", "left", "mixed"] [.ref a, .int n]) h (kd Q E) := by
  obtain ⟨nac, l, m, t, cs, l0, m0, t0, c0, ha, hc⟩ := sr
  refine ⟨fun k σ h' => σ = [some (.ref a), some (.int n), none, none] ∧ Oth a c h h' ∧ ∃ (l m t : Int) (cs : List Int), cs.length = k ∧ 0 ≤ l ∧ 0 ≤ m ∧ 0 ≤ t ∧ (∀ x ∈ cs, 0 ≤ x) ∧ h' a = some (.dK (sD c l m t)) ∧ h' c = some (.lst (cs.map .int)),
    ⟨cs.length, rfl, Oth.refl, l, m, t, cs, rfl, l0, m0, t0, c0, ha, hc⟩, ?_⟩
  rintro k σ h' ⟨rfl, ot, l, m, t, cs, rfl, l0, m0, t0, c0, ha, hc⟩
  have out : wpSs T pickR [some (.ref a), some (.int n), none, none] h' (kd Q E) := pick_rest nac l0 m0 t0 c0 ha hc hn fun r h2 r0 r1 s2 o2 => q r h2 r0 r1 s2 (ot.trans o2)
  refine ⟨fun _ => idx_s ha gL' ⟨fun _ => idx_s ha gC' ?_, fun _ => ⟨fun z => (nomatch z), fun _ => out⟩⟩, fun _ => ⟨fun z => (nomatch z), fun _ => out⟩⟩
  refine (?_ : optP (asL (.ref c) h') _)
  rw [asL_at hc]
  refine ⟨fun b => ?_, fun _ => out⟩
  have hne : cs ≠ [] := fun e => by
    rw [e] at b
    cases b
  obtain ⟨x, hx⟩ : ∃ x, cs.getLast? = some x := ⟨_, List.getLast?_eq_some_getLast hne⟩
  have hx2 : (cs.map D.int).getLast? = some (.int x) := by rw [List.getLast?_map, hx]; rfl
  refine idx_s ha gC' ⟨rec_at (.inr rfl) hc, ?_⟩
  simp only [wpEs, bmeP, popP, hc, hx2, optP]
  have ha2 : hup h' c (.lst (cs.map D.int).dropLast) a = some (.dK (sD c l m t)) := by rw [hup_ne nac]; exact ha
  refine set_s ha2 (show 4 < 100000 by decide) ⟨cs.length - 1, ?_, rfl, ot.trans (Oth.upC.trans Oth.upA), x, m, t, cs.dropLast, ?_, c0 x (List.mem_of_getLast? hx), m0, t0, fun y hy => c0 y (List.dropLast_subset _ hy), ?_, ?_⟩
  · have := List.length_pos_iff.mpr hne
    omega
  · rw [List.length_dropLast]
  · rw [hup_same]
    show some (O.dK (dput (sD c l m t) kL _)) = _
    rw [pL']
  · rw [hup_ne nac.symm, hup_same, List.map_dropLast]
/-- some[pick(source, len(some))], pick being def number j -/
def ofIr (j : Nat) : Sms := (.cons (.ret (.idx (.v 1) (.call j (.cons (.v 0) (.cons (.bif .len (.cons (.v 1) .nil)) .nil))))) .nil)
def pickSp : List D → Hd → PQ → Prop := fun xs h Q => ∃ (a c : Addr) (n : Int), xs = [.ref a, .int n] ∧ Src a c h ∧ n < 1000000000 ∧ ∀ r h', 0 ≤ r → (r < n ∨ r < 1) → Src a c h' → Oth a c h h' → Q (.int r) h'
def ofSp : List D → Hd → PQ → Prop := fun xs h Q => ∃ (a c : Addr) (ds : List D), xs = [.ref a, .lst ds] ∧ Src a c h ∧ ds ≠ [] ∧ ds.length < 1000000000 ∧ ∀ d h', d ∈ ds → Src a c h' → Oth a c h h' → Q d h'
def srcSp : List D → Hd → PQ → Prop := fun xs h Q => ∃ ns : List Int, xs = [.scr (ns.map .int)] ∧ ns.length ≤ 63 ∧ ∀ a c h', h a = none → h c = none → Src a c h' → Oth a c h h' → Q (.ref a) h'
theorem of_ok {T : Tb} {j : Nat} {a c : Addr} {ds : List D} {h : Hd} {Q : PQ} {E : PX} (hj : ∀ xs h Q E, pickSp xs h Q → T.spc j xs h Q E) (sr : Src a c h) (hne : ds ≠ []) (hl : ds.length < 1000000000) (q : ∀ d h', d ∈ ds → Src a c h' → Oth a c h h' → Q d h') :
    wpSs T (ofIr j) (startD ["source", "some"] [.ref a, .lst ds]) h (kd Q E) := by
  refine hj _ _ _ _ ⟨a, c, ds.length, rfl, sr, by omega, fun r h' r0 r1 s' o' => ?_⟩
  have hp := List.length_pos_iff.mpr hne
  obtain ⟨x, e, m⟩ := atI_ok (xs := ds) r0 (by omega)
  refine (?_ : optP (atI ds r) _)
  rw [e]
  exact q x h' m s' o'
end Rt

namespace RtLaw
open PySem PySem.Spec PyProof.Rows L2 Rt
abbrev top (i : Nat) : Stmt := PySem.Challenge.pw_roundticks_k05_whole_rounding.main.body.getD i (.Pass ⟨0, 0, 0, 0⟩)
def i0 : Sms := (.cons (.ret (.bop .And (.cons (.isi (.v 0) [.b .int]) (.cons (.not (.isi (.v 0) [.b .bool])) .nil)))) .nil)
def d0 : De := ⟨"is_integer", defArgs (top 1), defBody (top 1), defScope (top 1), ["value"], ["value"], i0, 1⟩ -- is_integer
def i1 : Sms := (.cons (.asg (.t (.cons (.n 2) (.cons (.n 3) .nil))) (.v 0)) (.cons (.ret (.bin .Add (.v 1) (.bin .Mod (.bin .Sub (.v 2) (.v 1)) (.v 3)))) .nil))
def d1 : De := ⟨"up", defArgs (top 3), defBody (top 3), defScope (top 3), ["clock", "x", "first", "step"], ["clock", "x"], i1, 1⟩ -- up
def i2 : Sms := (.cons (.asg (.t (.cons (.n 2) (.cons (.n 3) .nil))) (.v 0)) (.cons (.ret (.bin .Sub (.v 1) (.bin .Mod (.bin .Sub (.v 1) (.v 2)) (.v 3)))) .nil))
def d2 : De := ⟨"down", defArgs (top 4), defBody (top 4), defScope (top 4), ["clock", "x", "first", "step"], ["clock", "x"], i2, 1⟩ -- down
def i3 : Sms := (.cons (.ret (.bop .And (.cons (.call 0 (.cons (.v 1) .nil)) (.cons (.cmp .Eq (.call 1 (.cons (.v 0) (.cons (.v 1) .nil))) (.v 1)) .nil)))) .nil)
def d3 : De := ⟨"is_on", defArgs (top 5), defBody (top 5), defScope (top 5), ["clock", "value"], ["clock", "value"], i3, 2⟩ -- is_on
def i4 : Sms := (.cons (.ret (.bop .And (.cons (.cmp .Eq (.idx (.v 0) (.k (.int 1))) (.idx (.v 1) (.k (.int 1)))) (.cons (.call 3 (.cons (.v 0) (.cons (.idx (.v 1) (.k (.int 0))) .nil))) .nil)))) .nil)
def d4 : De := ⟨"are_alike_clocks", defArgs (top 6), defBody (top 6), defScope (top 6), ["one", "other"], ["one", "other"], i4, 3⟩ -- are_alike_clocks
def i5 : Sms := (.cons (.asg (.n 1) (.k (.int 11))) (.cons (.for_ (.n 2) (.seq (.v 0)) (.cons (.asg (.n 1) (.bin .Mod (.bif .int (.cons (.bin .Add (.bin .Add (.bin .Mult (.v 1) (.k (.int 69069))) (.bin .Mult (.v 2) (.k (.int 31)))) (.k (.int 5))) .nil)) (.k (.int 2147483629)))) .nil)) (.cons (.ret (.dct true [.inr "cells", .inr "left", .inr "mixed", .inr "turn"] (.cons (.rev true (.lc false [2] (.n 2) (.seq (.v 0)) .nil (.bif .abs (.cons (.v 2) .nil)))) (.cons (.k (.int 1)) (.cons (.v 1) (.cons (.k (.int 0)) .nil)))))) .nil)))
def d5 : De := ⟨"_law_source", defArgs (top 8), defBody (top 8), defScope (top 8), ["script", "mixed", "cell"], ["script"], i5, 1⟩ -- _law_source
def i6 : Sms := (.cons (.whl (.bop .And (.cons (.cmp .Gt (.v 1) (.k (.int 1))) (.cons (.cmp .Lt (.idx (.v 0) (.k (.str "left"))) (.k (.int 2))) (.cons (.cmp .Gt (.bif .len (.cons (.idx (.v 0) (.k (.str "cells"))) .nil)) (.k (.int 0))) .nil)))) (.cons (.asg (.sub (.v 0) (.k (.str "left"))) (.bme .pop (.idx (.v 0) (.k (.str "cells"))) .nil)) .nil)) (.cons (.asg (.n 2) (.idx (.v 0) (.k (.str "left")))) (.cons (.ife (.bop .Or (.cons (.cmp .Lt (.v 1) (.k (.int 2))) (.cons (.cmp .Gt (.v 2) (.k (.int 1))) .nil))) (.cons (.asg (.sub (.v 0) (.k (.str "left"))) (.bin .FloorDiv (.v 2) (.bif .max2 (.cons (.k (.int 1)) (.cons (.v 1) .nil))))) (.cons (.ret (.bin .Mod (.bif .int (.cons (.v 2) .nil)) (.bif .max2 (.cons (.k (.int 1)) (.cons (.v 1) .nil))))) .nil)) .nil) (.cons (.asg (.sub (.v 0) (.k (.str "turn"))) (.bin .Add (.idx (.v 0) (.k (.str "turn"))) (.k (.int 1)))) (.cons (.asg (.n 3) (.bin .Mod (.bif .int (.cons (.bin .Add (.idx (.v 0) (.k (.str "mixed"))) (.bin .Mult (.idx (.v 0) (.k (.str "turn"))) (.k (.int 104729)))) .nil)) (.k (.int 998244353)))) (.cons (.asg (.n 3) (.bin .Mod (.bif .int (.cons (.bin .Add (.bin .Mult (.v 3) (.v 3)) (.bin .Mult (.idx (.v 0) (.k (.str "turn"))) (.k (.int 17)))) .nil)) (.k (.int 2147483647)))) (.cons (.asg (.sub (.v 0) (.k (.str "mixed"))) (.v 3)) (.cons (.ret (.bin .Mod (.bif .int (.cons (.bin .FloorDiv (.v 3) (.k (.int 16))) .nil)) (.v 1))) .nil))))))))
def d6 : De := ⟨"_law_pick", defArgs (top 9), defBody (top 9), defScope (top 9), ["source", "many", "left", "mixed"], ["source", "many"], i6, 1⟩ -- _law_pick
def i7 : Sms := (.cons (.ret (.idx (.v 1) (.call 6 (.cons (.v 0) (.cons (.bif .len (.cons (.v 1) .nil)) .nil))))) .nil)
def d7 : De := ⟨"_law_of", defArgs (top 10), defBody (top 10), defScope (top 10), ["source", "some"], ["source", "some"], i7, 2⟩ -- _law_of
def i8 : Sms := (.cons (.asg (.n 1) (.lst false (.cons (.k .non) (.cons (.k (.bl true)) (.cons (.k (.bl false)) (.cons (.neg (.k (.int 1))) (.cons (.k (.int 0)) (.cons (.bin .Pow (.k (.int 10)) (.k (.int 39))) (.cons (.k (.str "")) (.cons (.k (.str "a")) (.cons (.k (.str "0")) (.cons (.tup .nil) (.cons (.lst false .nil) (.cons (.dct false [] .nil) (.cons (.tup (.cons (.k (.int 0)) .nil)) (.cons (.lst false (.cons (.k (.int 0)) .nil)) (.cons (.tup (.cons (.k (.int 0)) (.cons (.k (.int 1)) .nil))) (.cons (.dct false [.inl 0] (.cons (.k (.int 1)) .nil)) (.cons (.tup (.cons (.tup (.cons (.k (.int 0)) (.cons (.k (.int 1)) .nil))) (.cons (.k (.int 2)) .nil))) .nil))))))))))))))))))) (.cons (.ret (.call 7 (.cons (.v 0) (.cons (.v 1) .nil)))) .nil))
def d8 : De := ⟨"_law_odd", defArgs (top 11), defBody (top 11), defScope (top 11), ["source", "some"], ["source"], i8, 3⟩ -- _law_odd
def i9 : Sms := (.cons (.asg (.n 2) (.bin .Sub (.call 6 (.cons (.v 0) (.cons (.k (.int 41)) .nil))) (.k (.int 20)))) (.cons (.ret (.tup (.cons (.bin .Add (.v 2) (.call 7 (.cons (.v 0) (.cons (.lst false (.cons (.k (.int 0)) (.cons (.k (.int 0)) (.cons (.k (.int 0)) (.cons (.bin .Sub (.bin .Pow (.k (.int 10)) (.k (.int 30))) (.k (.int 1000))) (.cons (.bin .Sub (.k (.int 1000)) (.bin .Pow (.k (.int 10)) (.k (.int 30)))) .nil)))))) .nil)))) (.cons (.call 7 (.cons (.v 0) (.cons (.v 1) .nil))) .nil)))) .nil))
def d9 : De := ⟨"_law_clock", defArgs (top 12), defBody (top 12), defScope (top 12), ["source", "steps", "first"], ["source", "steps"], i9, 3⟩ -- _law_clock
def i10 : Sms := (.cons (.ret (.bop .And (.cons (.isi (.v 0) [.b .int]) (.cons (.not (.isi (.v 0) [.b .bool])) .nil)))) .nil)
def d10 : De := ⟨"_law_is_integer", defArgs (top 13), defBody (top 13), defScope (top 13), ["value"], ["value"], i10, 1⟩ -- _law_is_integer
def i11 : Sms := (.cons (.ret (.bop .And (.cons (.call 10 (.cons (.v 1) .nil)) (.cons (.cmp .Eq (.bin .Mod (.bif .int (.cons (.bin .Sub (.v 1) (.idx (.v 0) (.k (.int 0)))) .nil)) (.idx (.v 0) (.k (.int 1)))) (.k (.int 0))) .nil)))) .nil)
def d11 : De := ⟨"_law_is_on", defArgs (top 14), defBody (top 14), defScope (top 14), ["clock", "value"], ["clock", "value"], i11, 2⟩ -- _law_is_on
def i12 : Sms := (.cons (.ret (.tup (.cons (.bin .Add (.idx (.v 1) (.k (.int 0))) (.bin .Mult (.idx (.v 1) (.k (.int 1))) (.call 7 (.cons (.v 0) (.cons (.lst false (.cons (.k (.int 0)) (.cons (.k (.int 0)) (.cons (.k (.int 1)) (.cons (.neg (.k (.int 3))) (.cons (.k (.int 7)) .nil)))))) .nil))))) (.cons (.idx (.v 1) (.k (.int 1))) .nil)))) .nil)
def d12 : De := ⟨"_law_alike", defArgs (top 15), defBody (top 15), defScope (top 15), ["source", "clock"], ["source", "clock"], i12, 3⟩ -- _law_alike
def i13 : Sms := (.cons (.asg (.n 1) (.call 5 (.cons (.v 0) .nil))) (.cons (.for_ (.n 2) (.rng (.cons (.k (.int 6)) .nil)) (.cons (.asg (.n 3) (.call 9 (.cons (.v 1) (.cons (.lst false (.cons (.k (.int 1)) (.cons (.k (.int 2)) (.cons (.k (.int 3)) (.cons (.k (.int 4)) (.cons (.k (.int 5)) (.cons (.k (.int 6)) (.cons (.k (.int 12)) (.cons (.k (.int 30)) (.cons (.k (.int 60)) (.cons (.bin .Add (.k (.int 1)) (.call 6 (.cons (.v 1) (.cons (.k (.int 60)) .nil)))) .nil))))))))))) .nil)))) (.cons (.asg (.n 4) (.call 7 (.cons (.v 1) (.cons (.lst false (.cons (.k (.int 0)) (.cons (.idx (.v 3) (.k (.int 0))) (.cons (.bin .Add (.idx (.v 3) (.k (.int 0))) (.k (.int 7))) (.cons (.neg (.bin .Pow (.k (.int 10)) (.k (.int 39)))) (.cons (.bin .Sub (.bin .Pow (.k (.int 10)) (.k (.int 39))) (.k (.int 3))) .nil)))))) .nil)))) (.cons (.for_ (.n 5) (.rng (.cons (.bin .Sub (.v 4) (.k (.int 3))) (.cons (.bin .Add (.v 4) (.k (.int 4))) .nil))) (.cons (.par 6 7 (.call 1 (.cons (.v 3) (.cons (.v 5) .nil))) (.call 2 (.cons (.v 3) (.cons (.v 5) .nil)))) (.cons (.ife (.bop .Or (.cons (.not (.tst (.call 11 (.cons (.v 3) (.cons (.v 6) .nil))))) (.cons (.not (.tst (.call 11 (.cons (.v 3) (.cons (.v 7) .nil))))) (.cons (.not (.chain .LtE .LtE (.v 7) (.v 5) (.v 6))) .nil)))) (.cons (.ret (.k (.bl false))) .nil) .nil) (.cons (.ife (.bop .Or (.cons (.cmp .NotEq (.bin .Sub (.v 6) (.v 7)) (.bin .Mult (.idx (.v 3) (.k (.int 1))) (.bif .int (.cons (.cmp .NotEq (.v 6) (.v 5)) .nil)))) (.cons (.cmp .NotEq (.cmp .Eq (.v 6) (.v 5)) (.cmp .Eq (.v 7) (.v 5))) .nil))) (.cons (.ret (.k (.bl false))) .nil) .nil) (.cons (.ife (.cmp .NotEq (.bif .repr (.cons (.lst false (.cons (.call 3 (.cons (.v 3) (.cons (.v 5) .nil))) (.cons (.call 3 (.cons (.v 3) (.cons (.v 6) .nil))) .nil))) .nil)) (.bif .repr (.cons (.lst false (.cons (.cmp .Eq (.v 6) (.v 5)) (.cons (.k (.bl true)) .nil))) .nil))) (.cons (.ret (.k (.bl false))) .nil) .nil) (.cons (.ife (.cmp .NotEq (.lst false (.cons (.call 1 (.cons (.v 3) (.cons (.bin .Add (.v 5) (.bin .Mult (.k (.int 5)) (.idx (.v 3) (.k (.int 1))))) .nil))) (.cons (.call 2 (.cons (.v 3) (.cons (.bin .Sub (.v 5) (.idx (.v 3) (.k (.int 1)))) .nil))) .nil))) (.lst false (.cons (.bin .Add (.v 6) (.bin .Mult (.k (.int 5)) (.idx (.v 3) (.k (.int 1))))) (.cons (.bin .Sub (.v 7) (.idx (.v 3) (.k (.int 1)))) .nil)))) (.cons (.ret (.k (.bl false))) .nil) .nil) .nil)))))) (.cons (.for_ (.n 8) (.seq (.bin .Add (.lc false [9] (.n 9) (.rng (.cons (.k (.int 4)) .nil)) .nil (.call 8 (.cons (.v 1) .nil))) (.lst false (.cons (.k .non) (.cons (.k (.bl true)) (.cons (.k (.bl false)) (.cons (.bif .str (.cons (.idx (.v 3) (.k (.int 0))) .nil)) (.cons (.lst false (.cons (.idx (.v 3) (.k (.int 0))) .nil)) (.cons (.v 3) .nil))))))))) (.cons (.ife (.cmp .NotEq (.bif .repr (.cons (.call 3 (.cons (.v 3) (.cons (.v 8) .nil))) .nil)) (.bif .repr (.cons (.call 11 (.cons (.v 3) (.cons (.v 8) .nil))) .nil))) (.cons (.ret (.k (.bl false))) .nil) .nil) .nil)) (.cons (.asg (.n 10) (.call 7 (.cons (.v 1) (.cons (.lst false (.cons (.call 12 (.cons (.v 1) (.cons (.v 3) .nil))) (.cons (.tup (.cons (.bin .Add (.idx (.v 3) (.k (.int 0))) (.k (.int 1))) (.cons (.idx (.v 3) (.k (.int 1))) .nil))) (.cons (.tup (.cons (.idx (.v 3) (.k (.int 0))) (.cons (.bin .Sub (.k (.int 61)) (.idx (.v 3) (.k (.int 1)))) .nil))) .nil)))) .nil)))) (.cons (.asg (.n 10) (.call 7 (.cons (.v 1) (.cons (.lst false (.cons (.v 10) (.cons (.tup (.cons (.idx (.v 3) (.k (.int 0))) (.cons (.bif .min2 (.cons (.k (.int 60)) (.cons (.bin .Mult (.k (.int 2)) (.idx (.v 3) (.k (.int 1)))) .nil))) .nil))) (.cons (.tup (.cons (.bin .Sub (.idx (.v 3) (.k (.int 0))) (.idx (.v 3) (.k (.int 1)))) (.cons (.idx (.v 3) (.k (.int 1))) .nil))) .nil)))) .nil)))) (.cons (.asg (.n 11) (.bop .And (.cons (.cmp .Eq (.idx (.v 10) (.k (.int 1))) (.idx (.v 3) (.k (.int 1)))) (.cons (.cmp .Eq (.lc false [12] (.n 12) (.rng (.cons (.k (.int 60)) .nil)) (.cons (.not (.tst (.call 11 (.cons (.v 3) (.cons (.bin .Add (.idx (.v 10) (.k (.int 0))) (.bin .Mult (.v 12) (.idx (.v 10) (.k (.int 1))))) .nil))))) .nil) (.v 12)) (.lst false .nil)) .nil)))) (.cons (.ife (.cmp .NotEq (.bif .repr (.cons (.lst false (.cons (.call 4 (.cons (.v 3) (.cons (.v 10) .nil))) (.cons (.call 4 (.cons (.v 10) (.cons (.v 3) .nil))) .nil))) .nil)) (.bif .repr (.cons (.lst false (.cons (.v 11) (.cons (.v 11) .nil))) .nil))) (.cons (.ret (.k (.bl false))) .nil) .nil) .nil))))))))) (.cons (.asg (.n 13) (.lst false (.cons (.call 1 (.cons (.tup (.cons (.k (.int 5)) (.cons (.k (.int 7)) .nil))) (.cons (.k (.int 13)) .nil))) (.cons (.call 2 (.cons (.tup (.cons (.k (.int 5)) (.cons (.k (.int 7)) .nil))) (.cons (.k (.int 13)) .nil))) (.cons (.call 1 (.cons (.tup (.cons (.k (.int 0)) (.cons (.k (.int 3)) .nil))) (.cons (.neg (.k (.int 4))) .nil))) (.cons (.call 2 (.cons (.tup (.cons (.k (.int 0)) (.cons (.k (.int 3)) .nil))) (.cons (.neg (.k (.int 4))) .nil))) (.cons (.call 1 (.cons (.tup (.cons (.k (.int 1)) (.cons (.k (.int 2)) .nil))) (.cons (.k (.int 1)) .nil))) (.cons (.call 3 (.cons (.tup (.cons (.k (.int 0)) (.cons (.k (.int 1)) .nil))) (.cons (.k (.bl true)) .nil))) .nil)))))))) (.cons (.ret (.cmp .Eq (.bin .Add (.v 13) (.lst false (.cons (.call 4 (.cons (.tup (.cons (.k (.int 5)) (.cons (.k (.int 7)) .nil))) (.cons (.tup (.cons (.neg (.k (.int 2))) (.cons (.k (.int 7)) .nil))) .nil))) .nil))) (.lst false (.cons (.k (.int 19)) (.cons (.k (.int 12)) (.cons (.neg (.k (.int 3))) (.cons (.neg (.k (.int 6))) (.cons (.k (.int 1)) (.cons (.k (.bl false)) (.cons (.k (.bl true)) .nil)))))))))) .nil))))
def d13 : De := ⟨"law", defArgs (top 16), defBody (top 16), defScope (top 16), ["script", "source", "lap", "clock", "base", "x", "high", "low", "odd", "turn", "other", "due", "k", "told"], ["script"], i13, 4⟩ -- law
def ds : List De := [d0, d1, d2, d3, d4, d5, d6, d7, d8, d9, d10, d11, d12, d13]
def fr : List Str := ["abs", "bool", "int", "isinstance", "len", "max", "min", "range", "repr", "str"]
theorem ba : All BindA ds :=
  ⟨fun _ _ _ _ _ _ us hl => match us, hl with | [_], _ => rfl, fun _ _ _ _ _ _ us hl => match us, hl with | [_, _], _ => rfl, fun _ _ _ _ _ _ us hl => match us, hl with | [_, _], _ => rfl, fun _ _ _ _ _ _ us hl => match us, hl with | [_, _], _ => rfl, fun _ _ _ _ _ _ us hl => match us, hl with | [_, _], _ => rfl, fun _ _ _ _ _ _ us hl => match us, hl with | [_], _ => rfl, fun _ _ _ _ _ _ us hl => match us, hl with | [_, _], _ => rfl, fun _ _ _ _ _ _ us hl => match us, hl with | [_, _], _ => rfl, fun _ _ _ _ _ _ us hl => match us, hl with | [_], _ => rfl, fun _ _ _ _ _ _ us hl => match us, hl with | [_, _], _ => rfl, fun _ _ _ _ _ _ us hl => match us, hl with | [_], _ => rfl, fun _ _ _ _ _ _ us hl => match us, hl with | [_, _], _ => rfl, fun _ _ _ _ _ _ us hl => match us, hl with | [_, _], _ => rfl, fun _ _ _ _ _ _ us hl => match us, hl with | [_], _ => rfl, trivial⟩
theorem ck0 : ckD ds (fun x => fr.contains x) d0 = true := by decide +kernel
theorem ck1 : ckD ds (fun x => fr.contains x) d1 = true := by decide +kernel
theorem ck2 : ckD ds (fun x => fr.contains x) d2 = true := by decide +kernel
theorem ck3 : ckD ds (fun x => fr.contains x) d3 = true := by decide +kernel
theorem ck4 : ckD ds (fun x => fr.contains x) d4 = true := by decide +kernel
theorem ck5 : ckD ds (fun x => fr.contains x) d5 = true := by decide +kernel
theorem ck6 : ckD ds (fun x => fr.contains x) d6 = true := by decide +kernel
theorem ck7 : ckD ds (fun x => fr.contains x) d7 = true := by decide +kernel
theorem ck8 : ckD ds (fun x => fr.contains x) d8 = true := by decide +kernel
theorem ck9 : ckD ds (fun x => fr.contains x) d9 = true := by decide +kernel
theorem ck10 : ckD ds (fun x => fr.contains x) d10 = true := by decide +kernel
theorem ck11 : ckD ds (fun x => fr.contains x) d11 = true := by decide +kernel
theorem ck12 : ckD ds (fun x => fr.contains x) d12 = true := by decide +kernel
theorem ck13 : ckD ds (fun x => fr.contains x) d13 = true := by decide +kernel
theorem ck : All (fun d => ckD ds (fun x => fr.contains x) d = true) ds := ⟨ck0, ck1, ck2, ck3, ck4, ck5, ck6, ck7, ck8, ck9, ck10, ck11, ck12, ck13, trivial⟩

/-! ### what the defs promise -/
def isI : D → Bool
  | .int _ => true
  | _ => false
def plainD : D → Prop
  | .ref _ => False
  | .ty _ => False
  | .cls _ => False
  | .scr _ => False
  | .ins _ _ => False
  | .dT _ => False
  | _ => True
def onB (f s : Int) : D → Bool
  | .int v => decide ((v - f) % s = 0)
  | _ => false
def odds : List D := [.non, .bl true, .bl false, .int (-1), .int 0, .int (10 ^ 39), .str "", .str "a", .str "0", .tup [], .lst [], .dK [], .tup [.int 0], .lst [.int 0], .tup [.int 0, .int 1], .dK [(.inl 0, .int 1)], .tup [.tup [.int 0, .int 1], .int 2]]
def spc : Nat → List D → Hd → PQ → PX → Prop
  | 0, xs, h, Q, _ => ∃ d, xs = [d] ∧ plainD d ∧ Q (.bl (isI d)) h
  | 1, xs, h, Q, _ => ∃ f s x : Int, xs = [.tup [.int f, .int s], .int x] ∧ 0 < s ∧ Q (.int (x + (f - x) % s)) h
  | 2, xs, h, Q, _ => ∃ f s x : Int, xs = [.tup [.int f, .int s], .int x] ∧ 0 < s ∧ Q (.int (x - (x - f) % s)) h
  | 3, xs, h, Q, _ => ∃ (f s : Int) (d : D), xs = [.tup [.int f, .int s], d] ∧ 0 < s ∧ plainD d ∧ Q (.bl (onB f s d)) h
  | 4, xs, h, Q, _ => ∃ f s g u : Int, xs = [.tup [.int f, .int s], .tup [.int g, .int u]] ∧ 0 < s ∧ Q (.bl (decide (s = u) && decide ((g - f) % s = 0))) h
  | 5, xs, h, Q, _ => srcSp xs h Q
  | 6, xs, h, Q, _ => pickSp xs h Q
  | 7, xs, h, Q, _ => ofSp xs h Q
  | 8, xs, h, Q, _ => ∃ a c : Addr, xs = [.ref a] ∧ Src a c h ∧ ∀ d h', d ∈ odds → Src a c h' → Oth a c h h' → Q d h'
  | 9, xs, h, Q, _ => ∃ (a c : Addr) (ss : List Int), xs = [.ref a, .lst (ss.map .int)] ∧ Src a c h ∧ ss ≠ [] ∧ ss.length < 1000 ∧ ∀ f s h', -(10 ^ 31) < f → f < 10 ^ 31 → s ∈ ss → Src a c h' → Oth a c h h' → Q (.tup [.int f, .int s]) h'
  | 10, xs, h, Q, _ => ∃ d, xs = [d] ∧ plainD d ∧ Q (.bl (isI d)) h
  | 11, xs, h, Q, _ => ∃ (f s : Int) (d : D), xs = [.tup [.int f, .int s], d] ∧ 0 < s ∧ plainD d ∧ Q (.bl (onB f s d)) h
  | 12, xs, h, Q, _ => ∃ (a c : Addr) (f s : Int), xs = [.ref a, .tup [.int f, .int s]] ∧ Src a c h ∧ ∀ k h', Src a c h' → Oth a c h h' → Q (.tup [.int (f + s * k), .int s]) h'
  | 13, xs, h, Q, E => lawSp 63 xs h Q E
  | _, _, _, _, _ => False
def T : Tb := ⟨spc, fun _ => .non, fun _ => none, fun _ _ => none, fun _ _ => false, fun _ => none, fun _ _ => false⟩
def vtP : D → Vt
  | .non => .non
  | .bl _ => .bool
  | .int _ => .int
  | .str _ => .str
  | .tup _ => .tuple
  | .lst _ => .list
  | _ => .dict
theorem vt_plain {d : D} {h : Hd} (p : plainD d) : vtD d h = some (vtP d) := by cases d <;> first | rfl | exact p.elim
theorem isi1_eq {d : D} {h : Hd} {n : Bt} {R : Bool → Prop} (p : plainD d) (r : R (isaB (vtP d) n)) : isiP d [.b n] h R := by
  unfold isiP isi1
  rw [vt_plain p]
  show match some (isaB (vtP d) n) with
    | some true => R true
    | some false => isiP d [] h R
    | none => False
  cases q : isaB (vtP d) n with
  | true => rw [q] at r; exact r
  | false => rw [q] at r; exact r
theorem v0 : Vc T 0 d0 := by
  rintro xs h Q E ⟨d, rfl, p, q⟩ _
  refine isi1_eq (R := fun b => br b (wpE T (.not (.isi (.v 0) [.b .bool])) [some d] h Q E) (Q (.bl b) h)) p ⟨fun e => isi1_eq (R := fun b => Q (.bl (!b)) h) p ?_, fun e => ?_⟩
  · show Q (.bl (!isaB (vtP d) .bool)) h
    have z : isI d = (!isaB (vtP d) .bool) := by
      cases d <;> first | exact p.elim | rfl | cases e
    rw [← z]; exact q
  · show Q (.bl (isaB (vtP d) .int)) h
    have z : isI d = isaB (vtP d) .int := by
      cases d <;> first | exact p.elim | rfl | cases e
    rw [← z]; exact q
theorem v10 : Vc T 10 d10 := fun xs h Q E s l => v0 xs h Q E s l
theorem v1 : Vc T 1 d1 := by
  rintro xs h Q E ⟨f, s, x, rfl, p, q⟩ _
  exact ⟨p, q⟩
theorem v2 : Vc T 2 d2 := by
  rintro xs h Q E ⟨f, s, x, rfl, p, q⟩ _
  exact ⟨p, q⟩
theorem isI_not {f s : Int} {d : D} (e : isI d = false) : onB f s d = isI d := by cases d <;> first | rfl | cases e
theorem mod_flip {x y s : Int} : (x - y) % s = 0 ↔ (y - x) % s = 0 := by
  rw [← Int.dvd_iff_emod_eq_zero, ← Int.dvd_iff_emod_eq_zero]
  constructor
  · intro z
    have := Int.dvd_neg.mpr z
    rwa [Int.neg_sub] at this
  · intro z
    have := Int.dvd_neg.mpr z
    rwa [Int.neg_sub] at this
theorem v3 : Vc T 3 d3 := by
  rintro xs h Q E ⟨f, s, d, rfl, hs, p, q⟩ _
  refine ⟨d, rfl, p, fun e => ?_, fun e => ?_⟩
  · cases d with
    | int v =>
      refine ⟨f, s, v, rfl, hs, ?_⟩
      show Q (.bl (decide (v + (f - v) % s = v))) h
      have z : decide (v + (f - v) % s = v) = onB f s (.int v) := by
        show decide (v + (f - v) % s = v) = decide ((v - f) % s = 0)
        have := @mod_flip f v s
        by_cases y : (v - f) % s = 0
        · rw [decide_eq_true y, decide_eq_true]
          have := this.mpr y
          omega
        · rw [decide_eq_false y, decide_eq_false]
          intro w
          exact y (this.mp (by omega))
      rw [z]; exact q
    | _ => cases e
  · show Q (.bl (isI d)) h
    rw [← isI_not (f := f) (s := s) e]; exact q
theorem v11 : Vc T 11 d11 := by
  rintro xs h Q E ⟨f, s, d, rfl, hs, p, q⟩ _
  refine ⟨d, rfl, p, fun e => ?_, fun e => ?_⟩
  · cases d with
    | int v => exact ⟨hs, q⟩
    | _ => cases e
  · show Q (.bl (isI d)) h
    rw [← isI_not (f := f) (s := s) e]; exact q
theorem v4 : Vc T 4 d4 := by
  rintro xs h Q E ⟨f, s, g, u, rfl, hs, q⟩ _
  refine ⟨fun e => ⟨f, s, .int g, rfl, hs, trivial, ?_⟩, fun e => ?_⟩
  · show Q (.bl (decide ((g - f) % s = 0))) h
    have e' : decide (s = u) = true := e
    rw [e', Bool.true_and] at q; exact q
  · show Q (.bl (decide (s = u))) h
    have e' : decide (s = u) = false := e
    rw [e', Bool.false_and] at q
    rw [e']; exact q
theorem v5 : Vc T 5 d5 := by
  rintro xs h Q E ⟨ns, rfl, l, q⟩ _
  exact src_ok l q
theorem v6 : Vc T 6 d6 := by
  rintro xs h Q E ⟨a, c, n, rfl, sr, hn, q⟩ _
  exact pick_ok sr hn q
theorem v7 : Vc T 7 d7 := by
  rintro xs h Q E ⟨a, c, ds, rfl, sr, hne, hl, q⟩ _
  exact of_ok (T := T) (j := 6) (fun _ _ _ _ z => z) sr hne hl q
theorem cpow39 : CPow 10 39 := ⟨by decide, by decide, by decide⟩
theorem cpow30 : CPow 10 30 := ⟨by decide, by decide, by decide⟩
theorem v8 : Vc T 8 d8 := by
  rintro xs h Q E ⟨a, c, rfl, sr, q⟩ _
  refine ⟨cpow39, a, c, _, rfl, sr, List.cons_ne_nil _ _, by decide, fun d h' hd s' o' => q d h' hd s' o'⟩
theorem v9 : Vc T 9 d9 := by
  rintro xs h Q E ⟨a, c, ss, rfl, sr, hne, hl, q⟩ _
  refine ⟨a, c, 41, rfl, sr, by decide, fun r h1 r0 r1 s1 o1 => ?_⟩
  refine ⟨cpow30, cpow30, a, c, _, rfl, s1, List.cons_ne_nil _ _, by decide, fun d h2 hd s2 o2 => ?_⟩
  have go : ∀ v : Int, d = .int v → -(10 ^ 31) < r - 20 + v → r - 20 + v < 10 ^ 31 → binP .Add (.int (r - 20)) d h2 (fun z => wpEs T (.cons (.call 7 (.cons (.v 0) (.cons (.v 1) .nil))) .nil) [some (.ref a), some (.lst (ss.map .int)), some (.int (r - 20))] h2 (fun xs h1 => Q (.tup (z :: xs)) h1) E) := by
    intro v e l1 l2
    subst e
    refine ⟨a, c, ss.map .int, rfl, s2, by simpa using hne, by simp; omega, fun d h3 hd3 s3 o3 => ?_⟩
    obtain ⟨s, hs, rfl⟩ := List.mem_map.mp hd3
    exact q _ _ _ l1 l2 hs s3 ((o1.trans o2).trans o3)
  have b0 : 0 ≤ r ∧ r < 41 := ⟨r0, by omega⟩
  have hd' : d = .int 0 ∨ d = .int 0 ∨ d = .int 0 ∨ d = .int (10 ^ 30 - 1000) ∨ d = .int (1000 - 10 ^ 30) := by
    rcases List.mem_cons.mp hd with e | hd
    · exact .inl e
    rcases List.mem_cons.mp hd with e | hd
    · exact .inl e
    rcases List.mem_cons.mp hd with e | hd
    · exact .inl e
    rcases List.mem_cons.mp hd with e | hd
    · exact .inr (.inr (.inr (.inl e)))
    rcases List.mem_cons.mp hd with e | hd
    · exact .inr (.inr (.inr (.inr e)))
    · cases hd
  rcases hd' with e | e | e | e | e
  · exact go _ e (by omega) (by omega)
  · exact go _ e (by omega) (by omega)
  · exact go _ e (by omega) (by omega)
  · exact go _ e (by omega) (by omega)
  · exact go _ e (by omega) (by omega)
theorem v12 : Vc T 12 d12 := by
  rintro xs h Q E ⟨a, c, f, s, rfl, sr, q⟩ _
  refine ⟨a, c, [0, 0, 1, -3, 7].map .int, rfl, sr, List.cons_ne_nil _ _, by decide, fun d h2 hd s2 o2 => ?_⟩
  obtain ⟨k, hk, rfl⟩ := List.mem_map.mp hd
  refine ⟨mul_r ?_, q k _ s2 o2⟩
  simp at hk
  omega

/-! ### the law -/
theorem txt2 (b c : Bool) : (toP (.lst [.bl b, .bl c])).showable = true ∧ (toP (.lst [.bl b, .bl c])).depth ≤ 64 ∧ (toP (.lst [.bl b, .bl c])).shown.length ≤ sizeLine := by
  rw [sizeLine_eq]
  cases b <;> cases c <;> exact ⟨by decide +kernel, by decide +kernel, by decide +kernel⟩
theorem txt1 (b : Bool) : (toP (.bl b)).showable = true ∧ (toP (.bl b)).depth ≤ 64 ∧ (toP (.bl b)).shown.length ≤ sizeLine := by
  rw [sizeLine_eq]
  cases b <;> exact ⟨by decide +kernel, by decide +kernel, by decide +kernel⟩
theorem isPs_ints : ∀ ns : List Int, isPs (ns.map .int) = true
  | [] => rfl
  | n :: ns => by
    rw [List.map_cons]
    show (isP (.int n) && isPs (ns.map .int)) = true
    rw [isPs_ints ns]
    rfl
theorem toPs_ints : ∀ ns : List Int, toPs (ns.map .int) = ns.map .int
  | [] => rfl
  | n :: ns => by
    rw [List.map_cons, List.map_cons, ← toPs_ints ns]
    rfl
theorem okE_ints (ns : List Int) (h : Hd) : okEq (rdO (.lst (ns.map .int)) h) := by
  refine ⟨isPs_ints ns, ?_⟩
  show SeqAt.shaped (.list (toPs (ns.map .int))) = true
  rw [toPs_ints]
  have lay : ∀ ns : List Int, PyData.canLayAll0 (ns.map .int) = true := fun ns => by
    induction ns with
    | nil => rfl
    | cons n ns ih =>
      rw [List.map_cons]
      show (PyData.canLay0 (.int n) && PyData.canLayAll0 (ns.map .int)) = true
      rw [ih]
      rfl
  have dep : ∀ ns : List Int, PyData.depthAll (ns.map .int) = 0 := fun ns => by
    induction ns with
    | nil => rfl
    | cons n ns ih =>
      rw [List.map_cons]
      show max 0 (PyData.depthAll (ns.map .int)) = 0
      rw [ih]
      rfl
  unfold SeqAt.shaped
  rw [Bool.and_eq_true, decide_eq_true_eq]
  refine ⟨lay ns, ?_⟩
  show PyData.depthAll (ns.map .int) + 1 ≤ 64
  rw [dep]
  decide
theorem eqv_ints : ∀ (ms ns : List Int), PyData.eqvAll (ms.map .int) (ns.map .int) = decide (ms = ns)
  | [], [] => rfl
  | [], _ :: _ => by simp [PyData.eqvAll]
  | _ :: _, [] => by simp [PyData.eqvAll]
  | m :: ms, n :: ns => by
    rw [List.map_cons, List.map_cons]
    show (m == n && PyData.eqvAll (ms.map .int) (ns.map .int)) = _
    rw [eqv_ints ms ns]
    by_cases e : m = n
    · subst e; simp
    · simp [e]
theorem up_on {f s i : Int} : onB f s (.int (i + (f - i) % s)) = true := by
  show decide ((i + (f - i) % s - f) % s = 0) = true
  rw [decide_eq_true_eq]
  have e : i + (f - i) % s - f = (f - i) % s - (f - i) := by omega
  rw [e, Int.sub_emod, Int.emod_emod_of_dvd _ (Int.dvd_refl s), Int.sub_self, Int.zero_emod]
theorem down_on {f s i : Int} : onB f s (.int (i - (i - f) % s)) = true := by
  show decide ((i - (i - f) % s - f) % s = 0) = true
  rw [decide_eq_true_eq]
  have e : i - (i - f) % s - f = (i - f) - (i - f) % s := by omega
  rw [e, Int.sub_emod, Int.emod_emod_of_dvd _ (Int.dvd_refl s), Int.sub_self, Int.zero_emod]
theorem up_eq {f s i : Int} : decide (i + (f - i) % s = i) = onB f s (.int i) := by
  show _ = decide ((i - f) % s = 0)
  have := @mod_flip f i s
  by_cases y : (i - f) % s = 0
  · rw [decide_eq_true y, decide_eq_true]
    have := this.mpr y
    omega
  · rw [decide_eq_false y, decide_eq_false]
    intro w
    exact y (this.mp (by omega))
theorem down_eq {f s i : Int} : decide (i - (i - f) % s = i) = onB f s (.int i) := by
  show _ = decide ((i - f) % s = 0)
  by_cases y : (i - f) % s = 0
  · rw [decide_eq_true y, decide_eq_true]
    omega
  · rw [decide_eq_false y, decide_eq_false]
    omega
theorem gap {f s i : Int} (hs : 0 < s) : (i + (f - i) % s) - (i - (i - f) % s) = s * (if (!decide (i + (f - i) % s = i)) = true then 1 else 0) := by
  rw [up_eq]
  show _ = s * (if (!decide ((i - f) % s = 0)) = true then 1 else 0)
  have a0 := Int.emod_nonneg (i - f) (Int.ne_of_gt hs)
  have a1 := Int.emod_lt_of_pos (i - f) hs
  have b0 := Int.emod_nonneg (f - i) (Int.ne_of_gt hs)
  have b1 := Int.emod_lt_of_pos (f - i) hs
  have fl := @mod_flip f i s
  by_cases y : (i - f) % s = 0
  · have := fl.mpr y
    rw [decide_eq_true y]
    simp
    omega
  · rw [decide_eq_false y]
    have nz : (f - i) % s ≠ 0 := fun z => y (fl.mp z)
    have sum : ((i - f) % s + (f - i) % s) % s = 0 := by
      rw [← Int.add_emod]
      have : i - f + (f - i) = 0 := by omega
      rw [this]; rfl
    have e : (i - f) % s + (f - i) % s = s := by
      obtain ⟨k, hk⟩ := Int.dvd_of_emod_eq_zero sum
      have k1 : 0 < s * k := by omega
      have k2 : s * k < s * 2 := by omega
      have k0 : 0 < k := by
        by_cases z : 0 < k
        · exact z
        · have := Int.mul_le_mul_of_nonneg_left (show k ≤ 0 by omega) (Int.le_of_lt hs)
          rw [Int.mul_zero] at this
          omega
      have k3 : k < 2 := Int.lt_of_mul_lt_mul_left k2 (by omega)
      have : k = 1 := by omega
      rw [hk, this, Int.mul_one]
    simp
    omega
theorem up_far {f s i : Int} : (i + 5 * s) + (f - (i + 5 * s)) % s = i + (f - i) % s + 5 * s := by
  have e : f - (i + 5 * s) = (f - i) + s * (-5) := by omega
  rw [e, Int.add_mul_emod_self_left]
  omega
theorem down_far {f s i : Int} : (i - s) - (i - s - f) % s = i - (i - f) % s - s := by
  have e : i - s - f = (i - f) + s * (-1) := by omega
  rw [e, Int.add_mul_emod_self_left]
  omega
theorem no {b : Bool} {A : Prop} (e : b = false) : b = true → A := fun z => by rw [e] at z; cases z
theorem ye {b : Bool} {A : Prop} (e : b = true) : b = false → A := fun z => by rw [e] at z; cases z
abbrev ST (y : Nat → Option D) (a : Addr) (f s b : Int) : Sg := [y 0, some (.ref a), y 2, some (.tup [.int f, .int s]), some (.int b), y 5, y 6, y 7, y 8, y 9, y 10, y 11, y 12, y 13]
theorem le_up {f s i : Int} (hs : 0 < s) : i ≤ i + (f - i) % s := by have := Int.emod_nonneg (f - i) (Int.ne_of_gt hs); omega
theorem down_le {f s i : Int} (hs : 0 < s) : i - (i - f) % s ≤ i := by have := Int.emod_nonneg (i - f) (Int.ne_of_gt hs); omega
theorem eqv2 (a b : Int) : PyData.eqv (.list [.int a, .int b]) (.list [.int a, .int b]) = true := by
  show (a == a && (b == b && true)) = true
  simp
theorem log_f {f : Int} (f0 : -(10 ^ 31) < f) (f1 : f < 10 ^ 31) : f.natAbs.log2 < 1920 := by
  by_cases z : f.natAbs = 0
  · rw [z]; decide
  · rw [Nat.log2_lt z]
    have h1 : f.natAbs < 10 ^ 31 := by omega
    exact Nat.lt_of_lt_of_le h1 (Nat.le_trans (show 10 ^ 31 ≤ 2 ^ 128 by decide) (Nat.pow_le_pow_right (by decide) (by decide)))
theorem odds_plain : ∀ d ∈ odds, plainD d := by
  intro d hd
  simp only [odds, List.mem_cons, List.not_mem_nil, or_false] at hd
  rcases hd with h | h | h | h | h | h | h | h | h | h | h | h | h | h | h | h | h <;> (subst h; trivial)
def ifeD : Sm := (.ife (.cmp .NotEq (.bif .repr (.cons (.lst false (.cons (.call 4 (.cons (.v 3) (.cons (.v 10) .nil))) (.cons (.call 4 (.cons (.v 10) (.cons (.v 3) .nil))) .nil))) .nil)) (.bif .repr (.cons (.lst false (.cons (.v 11) (.cons (.v 11) .nil))) .nil))) (.cons (.ret (.k (.bl false))) .nil) .nil)
theorem alike_flip {f s g u : Int} : (decide (u = s) && decide ((f - g) % u = 0)) = (decide (s = u) && decide ((g - f) % s = 0)) := by
  by_cases e : s = u
  · subst e
    have := @mod_flip f g s
    simp [this]
  · have e' : ¬ u = s := fun z => e z.symm
    simp [e, e']
theorem due_ok {y0 y2 y4 y5 y6 y7 y8 y9 y12 y13 : Option D} {a : Addr} {f s g u : Int} {due : Bool} {h : Hd} {kt : Kt} (s0 : 0 < s) (u0 : 0 < u) (e : due = (decide (s = u) && decide ((g - f) % s = 0)))
    (k : kt.nx [y0, some (.ref a), y2, some (.tup [.int f, .int s]), y4, y5, y6, y7, y8, y9, some (.tup [.int g, .int u]), some (.bl due), y12, y13] h) :
    wpSs T (.cons ifeD .nil) [y0, some (.ref a), y2, some (.tup [.int f, .int s]), y4, y5, y6, y7, y8, y9, some (.tup [.int g, .int u]), some (.bl due), y12, y13] h kt := by
  have t := txt2 (decide (s = u) && decide ((g - f) % s = 0)) (decide (u = s) && decide ((f - g) % u = 0))
  have t' := txt2 due due
  refine ⟨f, s, g, u, rfl, s0, g, u, f, s, rfl, u0, rfl, t.1, t.2.1, t.2.2, rfl, t'.1, t'.2.1, t'.2.2, no ?_, fun _ => k⟩
  show (!decide ((toP (.lst [.bl (decide (s = u) && decide ((g - f) % s = 0)), .bl (decide (u = s) && decide ((f - g) % u = 0))])).shown = (toP (.lst [.bl due, .bl due])).shown)) = false
  have e2 := @alike_flip f s g u
  rw [e2, ← e]
  simp
def skip (f s g u : Int) : D → Option D := fun d => match d with
  | .int k => if (g + k * u - f) % s = 0 then none else some (.int k)
  | _ => none
theorem skip_all {f s g : Int} {n : Nat} (hn : 0 < n) : ∃ ks : List Int, (rangeL 0 1 n).filterMap (skip f s g s) = ks.map .int ∧ decide (ks = []) = decide ((g - f) % s = 0) := by
  have at_ : ∀ k : Int, (g + k * s - f) % s = (g - f) % s := fun k => by
    have e : g + k * s - f = (g - f) + s * k := by rw [Int.mul_comm]; omega
    rw [e, Int.add_mul_emod_self_left]
  have rl : rangeL 0 1 n = ((List.range n).map fun i : Nat => (0 + (i : Int) * 1)).map .int := by
    unfold rangeL
    rw [List.map_map]
    rfl
  rw [rl]
  by_cases z : (g - f) % s = 0
  · refine ⟨[], ?_, by simp [z]⟩
    rw [List.map_nil, List.filterMap_eq_nil_iff]
    intro d hd
    obtain ⟨k, _, rfl⟩ := List.mem_map.mp hd
    show (if (g + k * s - f) % s = 0 then none else some (D.int k)) = none
    rw [at_, if_pos z]
  · refine ⟨(List.range n).map fun i : Nat => (0 + (i : Int) * 1), ?_, ?_⟩
    · have : ∀ l : List Int, (l.map D.int).filterMap (skip f s g s) = l.map .int := fun l => by
        induction l with
        | nil => rfl
        | cons k l ih =>
          rw [List.map_cons, List.filterMap_cons]
          have e : skip f s g s (.int k) = some (.int k) := by
            show (if (g + k * s - f) % s = 0 then none else some (D.int k)) = _
            rw [at_, if_neg z]
          rw [e, ih]
      exact this _
    · rw [decide_eq_false z, decide_eq_false]
      intro e
      have := congrArg List.length e
      simp at this
      omega
theorem rng_int {lo k : Int} {n : Nat} {x : D} (h : x ∈ rangeL lo k n) : ∃ i : Int, x = .int i := by
  unfold rangeL at h
  obtain ⟨j, _, e⟩ := List.mem_map.mp h
  exact ⟨_, e.symm⟩
theorem v13 : Vc T 13 d13 := by
  rintro xs h Q E ⟨ns, rfl, hl, rfl, q⟩ _
  refine ⟨ns, rfl, hl, fun a c h ha hc sr o => ?_⟩
  show forP _ (rangeL 0 1 (6 : Int).toNat) _ h _
  refine forP_ind (I := fun σ h' => Src a c h' ∧ ∃ y : Nat → Option D, σ = [y 0, some (.ref a), y 2, y 3, y 4, y 5, y 6, y 7, y 8, y 9, y 10, y 11, y 12, y 13]) (fun x hx σ h' R i r => ?_) ⟨sr, fun j => if j = 0 then some (.scr (ns.map .int)) else none, rfl⟩ fun σ h' i => ?_
  · obtain ⟨sr, y, rfl⟩ := i
    refine ⟨a, c, 60, rfl, sr, by decide, fun r1 h1 r0 r1' s1 o1 => ?_⟩
    refine ⟨a, c, [1, 2, 3, 4, 5, 6, 12, 30, 60, 1 + r1], rfl, s1, List.cons_ne_nil _ _, show 10 < 1000 by decide, fun f s h2 f0 f1 hs s2 o2 => ?_⟩
    have sb : 1 ≤ s ∧ s ≤ 60 := by
      simp at hs
      omega
    have s0 : 0 < s := by omega
    refine ⟨cpow39, cpow39, a, c, _, rfl, s2, List.cons_ne_nil _ _, show 5 < 1000000000 by decide, fun d h3 hd s3 o3 => ?_⟩
    obtain ⟨b, rfl⟩ : ∃ b : Int, d = .int b := by
      rcases List.mem_cons.mp hd with e | hd
      · exact ⟨_, e⟩
      rcases List.mem_cons.mp hd with e | hd
      · exact ⟨_, e⟩
      rcases List.mem_cons.mp hd with e | hd
      · exact ⟨_, e⟩
      rcases List.mem_cons.mp hd with e | hd
      · exact ⟨_, e⟩
      rcases List.mem_cons.mp hd with e | hd
      · exact ⟨_, e⟩
      · cases hd
    show forP _ (rangeL (b - 3) 1 ((b + 4) - (b - 3)).toNat) _ h3 _
    refine forP_ind (I := fun σ h' => h' = h3 ∧ ∃ y : Nat → Option D, σ = ST y a f s b) (fun x hx σ h' R i r => ?_) ⟨rfl, fun j => match j with | 2 => some x | j => y j, rfl⟩ fun σ h' i => ?_
    · obtain ⟨rfl, y, rfl⟩ := i
      obtain ⟨i, rfl⟩ : ∃ i : Int, x = .int i := rng_int hx
      refine ⟨f, s, i, rfl, s0, f, s, i, rfl, s0, ?_⟩
      refine ⟨f, s, .int (i + (f - i) % s), rfl, s0, trivial, no (by rw [up_on]; rfl), fun _ => ⟨f, s, .int (i - (i - f) % s), rfl, s0, trivial, no (by rw [down_on]; rfl), fun _ => ⟨fun _ => ⟨no (by rw [decide_eq_true (le_up s0)]; rfl), fun _ => ?_⟩, ye (decide_eq_true (down_le s0))⟩⟩⟩
      refine ⟨mul_r (by split <;> decide), no (by rw [decide_eq_true (gap s0)]; rfl), fun _ => ⟨no (by rw [up_eq, down_eq]; simp), fun _ => ?_⟩⟩
      have t := txt2 (onB f s (.int i)) (onB f s (.int (i + (f - i) % s)))
      have t' := txt2 (decide (i + (f - i) % s = i)) true
      refine ⟨f, s, .int i, rfl, s0, trivial, f, s, .int (i + (f - i) % s), rfl, s0, trivial, rfl, t.1, t.2.1, t.2.2, rfl, t'.1, t'.2.1, t'.2.2, no ?_, fun _ => ?_⟩
      · show (!decide ((toP (.lst [.bl (onB f s (.int i)), .bl (onB f s (.int (i + (f - i) % s)))])).shown = (toP (.lst [.bl (decide (i + (f - i) % s = i)), .bl true])).shown)) = false
        rw [up_eq, up_on]
        simp
      refine ⟨mul_l ⟨by decide, by decide⟩, f, s, i + 5 * s, rfl, s0, f, s, i - s, rfl, s0, mul_l ⟨by decide, by decide⟩, okE_ints [_, _] _, okE_ints [_, _] _, no ?_, fun _ => r _ _ ⟨rfl, fun j => match j with | 5 => some (.int i) | 6 => some (.int (i + (f - i) % s)) | 7 => some (.int (i - (i - f) % s)) | j => y j, rfl⟩⟩
      show (!PyData.eqv (.list [.int ((i + 5 * s) + (f - (i + 5 * s)) % s), .int ((i - s) - (i - s - f) % s)]) (.list [.int (i + (f - i) % s + 5 * s), .int (i - (i - f) % s - s)])) = false
      rw [up_far, down_far, eqv2]
      rfl
    · obtain ⟨rfl, y, rfl⟩ := i
      refine ⟨by rw [rangeL_len, sizeLine_eq]; decide, lcP_ind (I := fun n acc h' => Src a c h' ∧ acc.length = n ∧ ∀ d ∈ acc, plainD d) (fun x hx n acc h' R i r => ?_) 0 ⟨s3, rfl, fun _ z => (nomatch z)⟩ fun acc h4 i => ?_⟩
      · refine ⟨fun _ => ⟨a, c, rfl, i.1, fun d h5 hd s5 o5 => r (some d) h5 ⟨s5, by simp [i.2.1], fun e he => ?_⟩⟩, fun z => (nomatch z)⟩
        rcases List.mem_append.mp he with he | he
        · exact i.2.2 e he
        · cases List.mem_singleton.mp he
          exact odds_plain _ hd
      · obtain ⟨s4, la, pa⟩ := i
        have la' : acc.length = 4 := by rw [la, rangeL_len]; rfl
        refine ⟨log_f f0 f1, ?_, ?_⟩
        · rw [la', sizeLine_eq]
          show 4 + 6 ≤ 16777216
          decide
        show forP _ (acc ++ _) _ h4 _
        refine forP_ind (I := fun σ h' => h' = h4 ∧ ∃ y : Nat → Option D, σ = ST y a f s b) (fun x hx σ h' R i r => ?_) ⟨rfl, y, rfl⟩ fun σ h' i => ?_
        · obtain ⟨rfl, y, rfl⟩ := i
          have px : plainD x := by
            rcases List.mem_append.mp hx with hx | hx
            · exact pa x hx
            · simp only [List.mem_cons, List.not_mem_nil, or_false] at hx
              rcases hx with e | e | e | e | e | e <;> (subst e; trivial)
          have t := txt1 (onB f s x)
          exact ⟨f, s, x, rfl, s0, px, rfl, t.1, t.2.1, t.2.2, f, s, x, rfl, s0, px, rfl, t.1, t.2.1, t.2.2, no (by simp [fastEq]), fun _ => r _ _ ⟨rfl, fun j => match j with | 8 => some x | j => y j, rfl⟩⟩
        · obtain ⟨rfl, y, rfl⟩ := i
          refine ⟨a, c, f, s, rfl, s4, fun k h5 s5 o5 => ⟨a, c, _, rfl, s5, List.cons_ne_nil _ _, show 3 < 1000000000 by decide, fun d h6 hd s6 o6 => ?_⟩⟩
          obtain ⟨g1, w1, rfl, w0, w2⟩ : ∃ g u : Int, d = .tup [.int g, .int u] ∧ 1 ≤ u ∧ u ≤ 60 := by
            rcases List.mem_cons.mp hd with e | hd
            · exact ⟨_, _, e, sb.1, sb.2⟩
            rcases List.mem_cons.mp hd with e | hd
            · exact ⟨_, _, e, sb.1, sb.2⟩
            rcases List.mem_cons.mp hd with e | hd
            · exact ⟨_, _, e, by omega, by omega⟩
            · cases hd
          refine ⟨mul_l ⟨by decide, by decide⟩, a, c, _, rfl, s6, List.cons_ne_nil _ _, show 3 < 1000000000 by decide, fun d h7 hd s7 o7 => ?_⟩
          obtain ⟨g, u, rfl, u0, u1⟩ : ∃ g u : Int, d = .tup [.int g, .int u] ∧ 1 ≤ u ∧ u ≤ 60 := by
            rcases List.mem_cons.mp hd with e | hd
            · exact ⟨_, _, e, w0, w2⟩
            rcases List.mem_cons.mp hd with e | hd
            · exact ⟨_, _, e, by split <;> omega, by split <;> omega⟩
            rcases List.mem_cons.mp hd with e | hd
            · exact ⟨_, _, e, sb.1, sb.2⟩
            · cases hd
          have up0 : 0 < u := by omega
          refine ⟨fun e => ?_, fun e => ?_⟩
          · have es : u = s := of_decide_eq_true e
            subst es
            refine ⟨by rw [rangeL_len, sizeLine_eq]; decide, lcP_fil (f := skip f u g u) (fun x hx R r => ?_) ?_⟩
            · obtain ⟨k, rfl⟩ : ∃ k : Int, x = .int k := rng_int hx
              have r' : R (if (g + k * u - f) % u = 0 then none else some (.int k)) h7 := r
              refine ⟨mul_r ⟨by omega, by omega⟩, f, u, .int (g + k * u), rfl, s0, trivial, fun e => ?_, fun e => ?_⟩
              · have e' : (!decide ((g + k * u - f) % u = 0)) = true := e
                rw [if_neg (by simpa using e')] at r'
                exact r'
              · have e' : (!decide ((g + k * u - f) % u = 0)) = false := e
                rw [if_pos (by simpa using e')] at r'
                exact r'
            · obtain ⟨ks, e1, e2⟩ := skip_all (f := f) (s := u) (g := g) (n := 60) (by decide)
              have e3 : [] ++ List.filterMap (skip f u g u) (rangeL 0 1 (Int.toNat 60)) = ks.map D.int := e1
              rw [e3]
              refine ⟨okE_ints ks _, okE_ints [] _, due_ok s0 up0 ?_ (r _ _ ⟨s7, fun j => match j with | 3 => some (.tup [.int f, .int u]) | 4 => some (.int b) | 10 => some (.tup [.int g, .int u]) | 11 => some (.bl (PyData.eqv (toP (.lst (ks.map .int))) (toP (.lst [])))) | j => y j, rfl⟩)⟩
              show PyData.eqvAll (toPs (ks.map .int)) [] = _
              rw [toPs_ints]
              have e4 := eqv_ints ks []
              rw [List.map_nil] at e4
              rw [e4, e2]
              simp
          · have e' : decide (u = s) = false := e
            refine due_ok s0 up0 ?_ (r _ _ ⟨s7, fun j => match j with | 3 => some (.tup [.int f, .int s]) | 4 => some (.int b) | 10 => some (.tup [.int g, .int u]) | 11 => some (.bl (decide (u = s))) | j => y j, rfl⟩)
            rw [e']
            have ne : ¬ s = u := fun z => by
              rw [z] at e'
              simp at e'
            simp [ne]
  · obtain ⟨sr, y, rfl⟩ := i
    refine ⟨5, 7, 13, rfl, by decide, 5, 7, 13, rfl, by decide, 0, 3, -4, rfl, by decide, 0, 3, -4, rfl, by decide, 1, 2, 1, rfl, by decide, 0, 1, .bl true, rfl, by decide, trivial, ?_⟩
    refine ⟨5, 7, -2, 7, rfl, by decide, ?_, ⟨rfl, by kernel_rfl⟩, ⟨rfl, by kernel_rfl⟩, ?_⟩
    · rw [sizeLine_eq]; decide
    · exact q _

theorem vcs : AllI (Vc T) 0 ds := ⟨v0, v1, v2, v3, v4, v5, v6, v7, v8, v9, v10, v11, v12, v13, trivial⟩
/-! ### the head -/
abbrev R : PySem.W.OpenRow := PySem.W.OpenLaw.row PySem.Challenge.rw_roundticks_k05_whole_rounding
abbrev hk : PySem.W.Hook := He.hookD 4 (faOf ds fr) (ds.map toD)
def ob (s : PySem.W.SharedT) : He.AlD := He.obsDG 4 (faOf ds fr) (ds.map toD) (HandSHeadRun.getT s)
theorem ob_eq (s : PySem.W.SharedT) : ob s = hk.obs s.abs := He.obsDG_eq (HandSHeadRun.getT_eq s)
def lawAt : Nat := 16
def others : List Str := ["is_integer", "up", "down", "is_on", "are_alike_clocks", "_law_source", "_law_pick", "_law_of", "_law_odd", "_law_clock", "_law_is_integer", "_law_is_on", "_law_alike"]
theorem run (w : World) : HandSHeadRun.RunEq R (PySem.W.view R.prog [16]) hk ob 4000 others w := by
  intro os
  kernel_rfl
end RtLaw
open PySem PySem.W PySem.Calls PyProof.Rows
theorem PySem.Challenge.cw_roundticks_k05_whole_rounding_holds : PySem.Challenge.rw_roundticks_k05_whole_rounding.Holds := by
  w_on; o_law
  refine HandSHeadRun.head_any (r := OpenLaw.row PySem.Challenge.rw_roundticks_k05_whole_rounding) (q := view (OpenLaw.row PySem.Challenge.rw_roundticks_k05_whole_rounding).prog [16]) (H := RtLaw.hk) (ob := RtLaw.ob) (M := 4000) (loose := RtLaw.others)
    (d := HandSHeadRun.topDef (OpenLaw.row PySem.Challenge.rw_roundticks_k05_whole_rounding).prog 16) (kwd := []) RtLaw.ob_eq (by kernel_rfl) (fun s => by kernel_rfl) RtLaw.run (by kernel_rfl) (by kernel_rfl) (by kernel_rfl) (by rfl) (by first | assumption | decide +kernel) (by decide +kernel)
    ⟨rfl, rfl, rfl, rfl, rfl, by decide +kernel⟩ ?hw ?hc
  case hw => w_witness2
  case hc =>
    refine Rt.walkG (l := PySem.Challenge.rw_roundticks_k05_whole_rounding) (n := 63) (k := 4) (x := "script") rfl (by decide) (by kernel_rfl) ⟨rfl, by decide, by decide⟩ ?F
    intro w mg fa h Y G hmg0
    obtain ⟨K, KX, c⟩ := Y
    have hmg : mg ("law" : PySem.Str) = some (.ref fa) := by
      have e : (HandSHeadRun.topDef (OpenLaw.row PySem.Challenge.rw_roundticks_k05_whole_rounding).prog 16).name = ("law" : PySem.Str) := by kernel_rfl
      rw [← e]
      exact hmg0
    obtain ⟨fd, sp, f1, f2, f3⟩ := Rt.law_facts (P := (PySem.Challenge.rw_roundticks_k05_whole_rounding).prog) (w := w) (T := RtLaw.T) (ca := fun _ => 0) (i := 13) (most := 63) (d := RtLaw.d13) (x := "script") KX G c rfl rfl hmg RtLaw.ba RtLaw.ck RtLaw.vcs rfl
    exact ⟨K, fd, sp, KX, f1, f2, f3⟩

