import GoSem.Core.Code
import GoSem.Core.World
import GoSem.Core.View
import GoSem.Core.Region
import Derived.Calls
import Derived.Below
import Derived.Laws.AppendOwn
import Derived.WalkKit
import Derived.Maps.AppendAt
set_option linter.all false
namespace Go.Fw
inductive Knd where
  | int (k : IntKind)
  | bool
  | str
  | lst (e : Nat)
  | fresh (e : Nat)
  | agg (t : Nat)
  | fbox (t : Nat)
  | ifc
inductive XK where
  | cst
  | box (t : Nat)
  | mp (kt vt : Nat)
inductive Val (T : Nat → Type) : Type where
  | junk
  | int (k : IntKind) (n : Int)
  | bool (b : Bool)
  | str (s : ByteArray)
  | nil
  | lst (e : Nat) (xs : List (T e))
  | agg (cs : List (Val T))
  | tup (vs : List (Val T))
  | adr (cs : List (Val T)) (off : Nat)
  | clo (f : Nat) (first caps : List (Val T))
  | ptr (key ver off : Nat)
  | own (key ver : Nat)
  | rad (key ver : Nat) (i : Int) (off : Nat)
  | mref (key ver : Nat)
  | mpv (kt vt : Nat) (kvs : List (T kt × T vt))
  | cnd (t : Nat) (w : Bool) (e : Bool) (v : Val T)
  | ifc (isNil : Bool)
  | ownx (key ver k0 v0 : Nat)
  | radx (key ver : Nat)
inductive Body (T : Nat → Type) : Type where
  | dead
  | box (fz : Bool) (cs : List (Val T))
  | row (fz : Bool) (e : Nat) (xs : List (T e))
  | rowx (e : Nat) (xs : List (T e)) (k0 v0 : Nat)
  | mp (kt vt : Nat) (kvs : List (T kt × T vt))
structure Obj' (T : Nat → Type) where
  ver : Nat
  body : Body T
structure St (T : Nat → Type) where
  sl : List (Val T)
  ob : List (Obj' T)
  gs : List Nat
structure Tab (T : Nat → Type) where
  cells : (e : Nat) → T e → List (Val T)
  unc : (e : Nat) → List (Val T) → Option (T e)
  dflt : (e : Nat) → T e
  has : Nat → Bool
  size : Nat → Nat
  bytes : Nat → Nat
  agg : Nat → Bool
  elem : Nat → Option Nat
  fld : Nat → Nat → Option (Nat × Nat)
  part : Nat → Nat → Option (Nat × Nat)
  zero : Nat → Option (List (Val T))
  ikind : Nat → Option IntKind
  eqs : Nat → Bool
  isStr : Nat → Bool
  fn : Nat → Bool
  rk : Nat → List Knd
  xk : Nat → List XK
  nt : Nat → Nat
  arr : Nat → Option (Nat × Nat)
  mp : Nat → Option (Nat × Nat)
  flt : Nat → Bool
  split : (t : Nat) → (R : Type) → T t → (T t → R) → R
  splitOk : ∀ t R x k, split t R x k = k x
  iface : Nat → Bool
  gl : Nat
  gok : World → Prop
  gokOk : ∀ w w' : World, (∀ k, k < gl → w'.heap[k]? = w.heap[k]?) → gok w → gok w'
variable {T : Nat → Type}
def Knd.ty (T : Nat → Type) : Knd → Type
  | .int _ => Int
  | .bool => Bool
  | .str => ByteArray
  | .lst e => List (T e)
  | .fresh e => List (T e)
  | .agg t => T t
  | .fbox t => T t
  | .ifc => Bool
def XTup (T : Nat → Type) : List XK → Type
  | [] => Unit
  | .cst :: r => XTup T r
  | .box t :: r => T t × XTup T r
  | .mp kt vt :: r => List (T kt × T vt) × XTup T r
def Tup (T : Nat → Type) : List Knd → Type
  | [] => Unit
  | k :: [] => k.ty T
  | k :: l :: r => k.ty T × Tup T (l :: r)
def Knd.dflt (tb : Tab T) : (k : Knd) → k.ty T
  | .int _ => (0 : Int)
  | .bool => false
  | .str => ByteArray.empty
  | .lst e => ([] : List (T e))
  | .fresh e => ([] : List (T e))
  | .agg t => tb.dflt t
  | .fbox t => tb.dflt t
  | .ifc => true
def XTup.dflt (tb : Tab T) : (l : List XK) → XTup T l
  | [] => ()
  | .cst :: r => XTup.dflt tb r
  | .box t :: r => (tb.dflt t, XTup.dflt tb r)
  | .mp _ _ :: r => ([], XTup.dflt tb r)
def Tup.dflt (tb : Tab T) : (l : List Knd) → Tup T l
  | [] => ()
  | k :: [] => k.dflt tb
  | k :: l :: r => (k.dflt tb, Tup.dflt tb (l :: r))
def Knd.val (tb : Tab T) (key ver : Nat) : (k : Knd) → k.ty T → Val T
  | .int k, n => .int k n
  | .bool, b => .bool b
  | .str, s => .str s
  | .lst e, xs => .lst e xs
  | .fresh _, _ => .own key ver
  | .agg t, x => .agg (tb.cells t x)
  | .fbox _, _ => .ptr key ver 0
  | .ifc, b => .ifc b
def Tup.vals (tb : Tab T) (key ver : Nat) : (l : List Knd) → Tup T l → List (Val T)
  | [], _ => []
  | k :: [], x => [k.val tb key ver x]
  | k :: l :: r, (x, y) => k.val tb key ver x :: Tup.vals tb key ver (l :: r) y
def Knd.isFresh : Knd → Bool
  | .fresh _ => true
  | .fbox _ => true
  | _ => false
def Knd.flat : Knd → Bool
  | .int _ => true
  | .bool => true
  | .str => true
  | .ifc => true
  | _ => false
def Knd.row (tb : Tab T) : (k : Knd) → k.ty T → Option (Body T)
  | .fresh e, xs => some (.row false e xs)
  | .fbox t, x => some (.box false (tb.cells t x))
  | _, _ => none
def Tup.row (tb : Tab T) : (l : List Knd) → Tup T l → Option (Body T)
  | [], _ => none
  | k :: [], x => k.row tb x
  | k :: l :: r, (x, y) => match k.row tb x with
    | some b => some b
    | none => Tup.row tb (l :: r) y
abbrev Ret (T : Nat → Type) (tb : Tab T) (f : Nat) : Type := Tup T (tb.rk f) × XTup T (tb.xk f)
def Ret.dflt (tb : Tab T) (f : Nat) : Ret T tb f := (Tup.dflt tb (tb.rk f), XTup.dflt tb (tb.xk f))
def St.get (s : St T) (t : Nat) : Val T := s.sl.getD t .junk
def getO (ob : List (Obj' T)) (k : Nat) : Obj' T := ob.getD k ⟨0, .dead⟩
def constV : Value → Val T
  | .int k n => if k.wrap n = n then .int k n else .junk
  | .bool b => .bool b
  | .string s => if Nat.ble s.size 9223372036854775807 then .str s else .junk
  | .slice none 0 0 => .nil
  | .nilIface => .ifc true
  | _ => .junk
def opv (s : St T) : Operand → Val T
  | .tmp t => s.get t
  | .const v => constV v
  | .func f => .clo f [] []
  | .global _ => .junk
def unG (g : Option (Nat × Bool)) : Val T → Val T
  | .cnd t w e v => match g with
    | some (t', w') => if t = t' then (if w = w' then v else .junk) else .junk
    | none => .junk
  | v => v
def res (ob : List (Obj' T)) : Val T → Val T
  | .own k ver => match getO ob k with
    | ⟨ver', .row true e xs⟩ => if ver' = ver then .lst e xs else .junk
    | _ => .own k ver
  | v => v
mutual
def Val.hp : Val T → Bool
  | .int .. => true
  | .bool _ => true
  | .str _ => true
  | .ifc _ => true
  | .nil => true
  | .lst .. => true
  | .adr .. => true
  | .clo _ a b => hpL a && hpL b
  | .agg cs => hpL cs
  | _ => false
def hpL : List (Val T) → Bool
  | [] => true
  | v :: r => v.hp && hpL r
end
def Val.pure1 : Val T → Bool
  | .int .. => true
  | .bool _ => true
  | .str _ => true
  | .ifc _ => true
  | .nil => true
  | .lst .. => true
  | .adr .. => true
  | .clo _ a b => hpL a && hpL b
  | _ => false
def Val.flat1 : Val T → Bool
  | .int .. => true
  | .bool _ => true
  | .str _ => true
  | _ => false
def frz1 (ob : List (Obj' T)) : Val T → Option (Val T × List (Obj' T))
  | .own k ver => match getO ob k with
    | ⟨ver', .row _ e xs⟩ => if ver' = ver then some (.lst e xs, ob.set k ⟨ver, .row true e xs⟩) else none
    | _ => none
  | .ptr k ver off => match getO ob k with
    | ⟨ver', .box true cs⟩ => if ver' = ver then (if cs.all Val.pure1 then some (.adr cs off, ob) else none) else none
    | _ => none
  | v => if v.pure1 then some (v, ob) else none
def cap1 (ob : List (Obj' T)) : Val T → Option (Val T)
  | .ptr k ver off => some (.ptr k ver off)
  | .mref k ver => some (.mref k ver)
  | .clo f a b => some (.clo f a b)
  | v => if (res ob v).pure1 then some (res ob v) else none
def frzL : List (Val T) → List (Obj' T) → Option (List (Val T) × List (Obj' T))
  | [], ob => some ([], ob)
  | v :: r, ob => match frz1 ob v with
    | none => none
    | some (v', ob1) => match frzL r ob1 with
      | none => none
      | some (r', ob2) => some (v' :: r', ob2)
def frz (ob : List (Obj' T)) : Val T → Option (Val T × List (Obj' T))
  | .agg cs => match frzL cs ob with
    | none => none
    | some (cs', ob') => some (.agg cs', ob')
  | v => frz1 ob v
def frzA : List (Val T) → List (Obj' T) → Option (List (Val T) × List (Obj' T))
  | [], ob => some ([], ob)
  | v :: r, ob => match frz ob v with
    | none => none
    | some (v', ob1) => match frzA r ob1 with
      | none => none
      | some (r', ob2) => some (v' :: r', ob2)
def lend1 (tb : Tab T) (ob : List (Obj' T)) : Val T → Option (Val T)
  | .ownx key ver k0 v0 => match getO ob key, getO ob k0 with
    | ⟨ver', .rowx e xs k1 v1⟩, ⟨ver2, .row _ e2 ys⟩ => if ver' = ver ∧ k1 = k0 ∧ v1 = v0 ∧ ver2 = v0 then (match tb.unc e [.lst e2 ys] with
      | some y => some (.lst e (xs ++ [y]))
      | none => none) else none
    | _, _ => none
  | .own k ver => match getO ob k with
    | ⟨ver', .row _ e xs⟩ => if ver' = ver then some (.lst e xs) else none
    | _ => none
  | v => if v.pure1 then some v else none
def lendL (tb : Tab T) (ob : List (Obj' T)) : List (Val T) → Option (List (Val T))
  | [] => some []
  | v :: r => match lend1 tb ob v with
    | none => none
    | some v' => match lendL tb ob r with
      | none => none
      | some r' => some (v' :: r')
def lend (tb : Tab T) (ob : List (Obj' T)) : Val T → Option (Val T)
  | .agg cs => match lendL tb ob cs with
    | none => none
    | some cs' => some (.agg cs')
  | v => lend1 tb ob v
def lendA (tb : Tab T) (ob : List (Obj' T)) : List (Val T) → Option (List (Val T))
  | [] => some []
  | v :: r => match lend tb ob v with
    | none => none
    | some v' => match lendA tb ob r with
      | none => none
      | some r' => some (v' :: r')
inductive OpR (T : Nat → Type) (rk : Nat → List Knd) where
  | bad
  | ok (c : Bool) (v : Val T) (ob : List (Obj' T))
  | call (f : Nat) (args : List (Val T)) (L : List Nat) (ob : List (Obj' T))
def cellsV : Val T → Option (List (Val T))
  | .agg cs => some cs
  | .junk => none
  | .tup _ => none
  | .cnd .. => none
  | .mpv .. => none
  | v => some [v]
def mkVal (agg : Bool) (cs : List (Val T)) : Option (Val T) :=
  match agg, cs with
  | true, cs => some (.agg cs)
  | false, [c] => some c
  | _, _ => none
def slc (cs : List (Val T)) (off n : Nat) : Option (List (Val T)) :=
  if off + n ≤ cs.length then some ((cs.drop off).take n) else none
def splice (cs : List (Val T)) (off : Nat) (vs : List (Val T)) : Option (List (Val T)) :=
  if off + vs.length ≤ cs.length then some (cs.take off ++ vs ++ cs.drop (off + vs.length)) else none
def wrapK (k : IntKind) (n : Int) : Int := k.wrap n
def eqC (a b : Val T) : Option Bool :=
  match a, b with
  | .int k m, .int k' n => if k = k' then some (m == n) else none
  | .bool x, .bool y => some (x == y)
  | .str s, .str t => some (s == t)
  | _, _ => none
def eqCs : List (Val T) → List (Val T) → Option Bool
  | [], [] => some true
  | a :: r, b :: q => match eqC a b, eqCs r q with
    | some x, some y => some (x && y)
    | _, _ => none
  | _, _ => none
def strB (op : BinOp) (x y : ByteArray) : Option Bool :=
  match op with
  | .eql => some (x.toList == y.toList)
  | .neq => some (!(x.toList == y.toList))
  | _ => none
def intB (op : BinOp) (x y : Int) : Option Bool :=
  match op with
  | .eql => some (x == y)
  | .neq => some (x != y)
  | .lss => some (decide (x < y))
  | .leq => some (decide (x ≤ y))
  | .gtr => some (decide (y < x))
  | .geq => some (decide (y ≤ x))
  | _ => none
def maxRoom : Nat := 140737488355328
def binV (tb : Tab T) (op : BinOp) (t : Nat) (x y : Val T) : Bool × Val T :=
  match x, y with
  | .int k a, .int k' b =>
    if k = k' then
      match op with
      | .add => (true, .int k (wrapK k (a + b)))
      | .sub => (true, .int k (wrapK k (a - b)))
      | .mul => (true, .int k (wrapK k (a * b)))
      | .quo => (b != 0, .int k (wrapK k (a.tdiv b)))
      | .rem => (b != 0, .int k (a.tmod b))
      | op => match intB op a b with
        | some r => (true, .bool r)
        | none => (false, .junk)
    else (false, .junk)
  | .str a, .str b =>
    match op with
    | .add => (decide (a.size + b.size ≤ 9223372036854775807), .str (a ++ b))
    | op => match strB op a b with
      | some r => (true, .bool r)
      | none => (false, .junk)
  | .agg cs, .agg ds =>
    match op, tb.eqs t, eqCs cs ds, tb.unc t cs, tb.unc t ds with
    | .eql, true, some r, some _, some _ => (true, .bool r)
    | .neq, true, some r, some _, some _ => (true, .bool (!r))
    | _, _, _, _, _ => (false, .junk)
  | _, _ => (false, .junk)
def ifcV (tb : Tab T) (op : BinOp) (t : Nat) (x : Val T) (y : Operand) : Option (Val T) :=
  match y, x with
  | .const .nilIface, .ifc a => (match tb.iface t, op with
    | true, .eql => some (.bool a)
    | true, .neq => some (.bool (!a))
    | _, _ => none)
  | _, _ => none
def pickA (t : Nat) (w : Bool) : Val T → Val T
  | .cnd t' w' _ v => if t' = t then (if w' = w then v else .junk) else .junk
  | v => v
def mergeV (b : Bool) : Val T → Val T → Val T
  | .bool p, .bool q => .bool (bif b then p else q)
  | .int k m, .int k' n => if k = k' then .int k (bif b then m else n) else .junk
  | .str p, .str q => .str (bif b then p else q)
  | _, _ => .junk
def pickV (t : Nat) (b : Bool) (x y : Val T) : Val T := mergeV b (pickA t true x) (pickA t false y)
def rdl (tb : Tab T) (e : Nat) (xs : List (T e)) (n : Int) : T e := xs.getD n.toNat (tb.dflt e)
def place (tb : Tab T) (t : Nat) (i : Nat) : Option (Nat × Nat) := tb.part t i
def fillV (tb : Tab T) (t : Nat) (ρ : Operand → Val T) : List (Nat × Operand) → List (Val T) → Option (List (Val T))
  | [], cs => some cs
  | (i, x) :: r, cs => match tb.part t i, cellsV (ρ x) with
    | some (off, size), some vs => if vs.length = size then (match splice cs off vs with
      | some cs' => fillV tb t ρ r cs'
      | none => none) else none
    | _, _ => none
def elemsV (tb : Tab T) (e : Nat) (ρ : Operand → Val T) : List (Nat × Operand) → Nat → List (Obj' T) → Option (List (T e) × List (Obj' T))
  | [], _, ob => some ([], ob)
  | (i, x) :: r, n, ob => if i = n then (match cellsV (ρ x) with
    | none => none
    | some cs => if cs.length = tb.size e then (match frzL cs ob with
      | none => none
      | some (cs', ob1) => match tb.unc e cs' with
        | none => none
        | some y => match elemsV tb e ρ r (n + 1) ob1 with
          | none => none
          | some (ys, ob2) => some (y :: ys, ob2)) else none) else none
def newRow (ob : List (Obj' T)) (d : Nat) (e : Nat) (xs : List (T e)) : Val T × List (Obj' T) :=
  (.own d ((getO ob d).ver + 1), ob.set d ⟨(getO ob d).ver + 1, .row false e xs⟩)
def newBox (ob : List (Obj' T)) (d : Nat) (cs : List (Val T)) : Val T × List (Obj' T) :=
  (.ptr d ((getO ob d).ver + 1) 0, ob.set d ⟨(getO ob d).ver + 1, .box false cs⟩)
def okp {rk : Nat → List Knd} (p : Val T × List (Obj' T)) : OpR T rk := .ok true p.1 p.2
def mkAt (ag : Bool) (size : Nat) (cs : List (Val T)) (off : Nat) : Option (Val T) :=
  match slc cs off size with
  | some l => mkVal ag l
  | none => none
def readAt (tb : Tab T) (ob : List (Obj' T)) (ag : Bool) (size : Nat) : Val T → Option (Val T)
  | .ptr k ver off => match getO ob k with
    | ⟨ver', .box _ cs⟩ => if ver' = ver then mkAt ag size cs off else none
    | _ => none
  | .adr cs off => mkAt ag size cs off
  | .rad k ver i off => match getO ob k with
    | ⟨ver', .row false e xs⟩ => if ver' = ver then mkAt ag size (tb.cells e (rdl tb e xs i)) off else none
    | _ => none
  | .radx k ver => match getO ob k with
    | ⟨ver', .rowx _ _ k0 v0⟩ => if ver' = ver then mkAt ag size [.own k0 v0] 0 else none
    | _ => none
  | _ => none
def oneC : Val T → Bool
  | .junk => false
  | .agg _ => false
  | .tup _ => false
  | .cnd .. => false
  | .mpv .. => false
  | _ => true
def storeC (tb : Tab T) (t : Nat) (v : Val T) : Option (List (Val T)) :=
  match cellsV v with
  | some vs => if vs.length = tb.size t then (if vs.all oneC then some vs else none) else none
  | none => none
def lenV (ob : List (Obj' T)) : Val T → Option Int
  | .str s => some s.size
  | .nil => some 0
  | .lst _ xs => some xs.length
  | .own k ver => match getO ob k with
    | ⟨ver', .row _ _ xs⟩ => if ver' = ver then some xs.length else none
    | _ => none
  | _ => none
def lenOk (tb : Tab T) (t : Nat) : Val T → Bool
  | .str _ => tb.isStr t
  | _ => (tb.elem t).isSome
def lstV (ob : List (Obj' T)) (e : Nat) (k0 : Nat) : Val T → Option (List (T e))
  | .nil => some []
  | .lst e' xs => if h : e' = e then some (h ▸ xs) else none
  | .own k ver => if k = k0 then none else match getO ob k with
    | ⟨ver', .row _ e' xs⟩ => if ver' = ver then (if h : e' = e then some (h ▸ xs) else none) else none
    | _ => none
  | _ => none
def nestB (tb : Tab T) (t : Nat) : Bool := match tb.elem t with
  | some e => match tb.elem e with
    | some e2 => (match tb.zero e2 with
      | some [.bool false] => Nat.beq (tb.size e) 1
      | _ => false)
    | none => false
  | none => false
def nestV (tb : Tab T) (t : Nat) (ob : List (Obj' T)) (d : Nat) : List (Val T) → Option (Nat × Nat)
  | [.own k0 v0] => match nestB tb t, getO ob k0 with
    | true, ⟨v1, .row false _ _⟩ => if v1 = v0 ∧ k0 ≠ d then some (k0, v0) else none
    | _, _ => none
  | _ => none
def newRowx (ob : List (Obj' T)) (d : Nat) (e : Nat) (k0 v0 : Nat) : Val T × List (Obj' T) :=
  (.ownx d ((getO ob d).ver + 1) k0 v0, ob.set d ⟨(getO ob d).ver + 1, .rowx e [] k0 v0⟩)
def appX (tb : Tab T) {rk : Nat → List Knd} (ob : List (Obj' T)) (e : Nat) (k ver kb vb k0 v0 : Nat) : OpR T rk :=
  match getO ob k, getO ob kb with
  | ⟨ver', .row false e' xs⟩, ⟨vb', .rowx e'' ys k1 v1⟩ => if h : ver' = ver ∧ vb' = vb ∧ e' = e ∧ e'' = e ∧ k1 = k0 ∧ v1 = v0 ∧ k ≠ kb ∧ k ≠ k0 then
      .ok (decide ((xs.length + (ys.length + 1)) * tb.bytes e ≤ maxRoom)) (.ownx k (ver + 1) k0 v0) (ob.set k ⟨ver + 1, .rowx e ((h.2.2.1 ▸ xs) ++ (h.2.2.2.1 ▸ ys)) k0 v0⟩)
    else .bad
  | _, _ => .bad
def appV (tb : Tab T) {rk : Nat → List Knd} (ob : List (Obj' T)) (d e : Nat) (a b : Val T) : OpR T rk :=
  match a with
  | .nil => match lstV ob e d b with
    | some ys => .ok (decide (ys.length * tb.bytes e ≤ maxRoom)) (newRow ob d e ys).1 (newRow ob d e ys).2
    | none => .bad
  | .own k ver => match b with
   | .ownx kb vb k0 v0 => appX tb ob e k ver kb vb k0 v0
   | _ => match getO ob k with
    | ⟨ver', .row fz e' xs⟩ => if ver' = ver then (if h : e' = e then (match lstV ob e k b with
      | some ys => .ok (decide ((xs.length + ys.length) * tb.bytes e ≤ maxRoom)) (.own k (ver + 1)) (ob.set k ⟨ver + 1, .row fz e ((h ▸ xs) ++ ys)⟩)
      | none => .bad) else .bad) else .bad
    | _ => .bad
  | _ => .bad
def allFlat : List Knd → Bool
  | [] => true
  | k :: r => k.flat && allFlat r
def inB (n : Nat) : List Nat → Bool
  | [] => false
  | a :: r => Nat.beq a n || inB n r
mutual
def Val.refs : Val T → List Nat
  | .ptr k _ _ => [k]
  | .own k _ => [k]
  | .rad k _ _ _ => [k]
  | .mref k _ => [k]
  | .ownx k _ k0 _ => [k, k0]
  | .radx k _ => [k]
  | .agg cs => refsL cs
  | .tup cs => refsL cs
  | .cnd _ _ _ v => v.refs
  | .clo _ first caps => refsL first ++ refsL caps
  | _ => []
def refsL : List (Val T) → List Nat
  | [] => []
  | v :: r => v.refs ++ refsL r
end
def idx (k : Nat) : List Nat → Nat → Option Nat
  | [], _ => none
  | a :: r, i => match Nat.beq a k with
    | true => some i
    | false => idx k r (i + 1)
mutual
def pass (ob : List (Obj' T)) (L : List Nat) (nb : Nat) : Val T → Option (Val T)
  | .own k ver => match getO ob k with
    | ⟨ver', .row _ e xs⟩ => if ver' = ver then some (.lst e xs) else none
    | _ => none
  | .ptr k ver off => match idx k L 0 with
    | some i => (match getO ob k with
      | ⟨ver', .box _ _⟩ => if ver' = ver then some (.ptr (nb + i) 0 off) else none
      | _ => none)
    | none => none
  | .mref k ver => match idx k L 0 with
    | some i => (match getO ob k with
      | ⟨ver', .mp _ _ _⟩ => if ver' = ver then some (.mref (nb + i) 0) else none
      | _ => none)
    | none => none
  | .agg cs => match passL ob L nb cs with
    | some cs' => some (.agg cs')
    | none => none
  | .clo f a b => match passL ob L nb a, passL ob L nb b with
    | some a', some b' => some (.clo f a' b')
    | _, _ => none
  | .int k n => some (.int k n)
  | .bool b => some (.bool b)
  | .str x => some (.str x)
  | .ifc b => some (.ifc b)
  | .nil => some .nil
  | .lst e xs => some (.lst e xs)
  | .adr cs off => some (.adr cs off)
  | _ => none
def passL (ob : List (Obj' T)) (L : List Nat) (nb : Nat) : List (Val T) → Option (List (Val T))
  | [] => some []
  | v :: r => match pass ob L nb v, passL ob L nb r with
    | some v', some r' => some (v' :: r')
    | _, _ => none
end
def keysOf (ob : List (Obj' T)) : List Nat → List Nat → List Nat
  | L, [] => L
  | L, k :: r => match (getO ob k).body with
    | .box _ _ => keysOf ob (bif inB k L then L else L ++ [k]) r
    | .mp _ _ _ => keysOf ob (bif inB k L then L else L ++ [k]) r
    | _ => keysOf ob L r
def bodyRefs : Body T → List Nat
  | .box _ cs => refsL cs
  | _ => []
def bodiesRefs (ob : List (Obj' T)) : List Nat → List Nat
  | [] => []
  | k :: r => bodyRefs (getO ob k).body ++ bodiesRefs ob r
def extK (ob : List (Obj' T)) : Nat → List Nat → List Nat
  | 0, L => L
  | n + 1, L => extK ob n (keysOf ob L (bodiesRefs ob L))
def extKeys (ob : List (Obj' T)) (args : List (Val T)) : List Nat :=
  match keysOf ob [] (refsL args) with
  | [] => []
  | k :: ks => extK ob 3 (k :: ks)
def encB (tb : Tab T) (ob : List (Obj' T)) (L : List Nat) (nb : Nat) (k : Nat) : XK → Option (Val T)
  | .cst => match (getO ob k).body with
    | .box _ cs => match passL ob L nb cs with
      | some cs' => some (.agg cs')
      | none => none
    | _ => none
  | .box t => match (getO ob k).body with
    | .box false cs => match tb.flt t, tb.unc t cs, passL ob L nb cs with
      | true, some _, some cs' => some (.tup cs')
      | _, _, _ => none
    | _ => none
  | .mp kt vt => match (getO ob k).body with
    | .mp kt' vt' kvs => if kt = kt' ∧ vt = vt' then (match tb.flt kt, tb.flt vt with
      | true, true => some (.mpv kt' vt' kvs)
      | _, _ => none) else none
    | _ => none
def encL (tb : Tab T) (ob : List (Obj' T)) (L0 : List Nat) (nb : Nat) : List XK → List Nat → Option (List (Val T))
  | [], [] => some []
  | x :: xs, k :: L => match encB tb ob L0 nb k x, encL tb ob L0 nb xs L with
    | some v, some r => some (v :: r)
    | _, _ => none
  | _, _ => none
def outX (tb : Tab T) (e : Bool) : (l : List XK) → XTup T l → List Nat → List (Obj' T) → List (Obj' T)
  | .cst :: l, x, _ :: L, ob => outX tb e l x L ob
  | .box t :: l, x, k :: L, ob => match getO ob k with
    | ⟨ver, .box false cs⟩ => match tb.unc t cs with
      | some x0 => outX tb e l x.2 L (ob.set k ⟨ver, .box false (tb.cells t (bif e then x.1 else x0))⟩)
      | none => ob
    | _ => ob
  | .mp kt vt :: l, x, k :: L, ob => match getO ob k with
    | ⟨ver, .mp kt' vt' kvs⟩ => if h : kt = kt' ∧ vt = vt' then
        outX tb e l x.2 L (ob.set k ⟨ver, .mp kt' vt' (bif e then (h.1 ▸ h.2 ▸ x.1) else kvs)⟩) else ob
    | _ => ob
  | _, _, _, ob => ob
def realF (v : Nat) : Nat := v % 50000
def cloNo : List (Val T) → Nat
  | [] => 0
  | .clo g _ _ :: _ => g + 1
  | _ :: r => cloNo r
def numF (f : Nat) (lent : Bool) (args : List (Val T)) : Nat := match cloNo args with
  | 0 => bif lent then f + 50000 else f
  | n + 1 => bif lent then f + 50000 * (3 + 2 * n) else f + 50000 * (2 + 2 * n)
def callP (tb : Tab T) (f : Nat) (args : List (Val T)) (ob : List (Obj' T)) : OpR T tb.rk :=
  match tb.xk f with
  | [] => if allFlat (tb.rk f) then (match lendA tb ob args with
      | some as => .call f as [] ob
      | none => match frzA args ob with
        | some (as, ob') => .call f as [] ob'
        | none => .bad)
    else match frzA args ob with
      | some (as, ob') => .call f as [] ob'
      | none => .bad
  | _ => .bad
def callX (tb : Tab T) (f : Nat) (L : List Nat) (args : List (Val T)) (ob : List (Obj' T)) : OpR T tb.rk :=
  if allFlat (tb.rk f) then (match passL ob L (tb.nt f) args, encL tb ob L (tb.nt f) (tb.xk f) L with
    | some as, some es => .call f (as ++ es) L ob
    | _, _ => .bad)
  else .bad
def callV (tb : Tab T) (f : Nat) (args : List (Val T)) (ob : List (Obj' T)) : OpR T tb.rk :=
  if (tb.fn f && Nat.blt f 50000) = true then
    (match extKeys ob args with
    | [] => callP tb (numF f false args) args ob
    | k :: ks => callX tb (numF f true args) (k :: ks) args ob)
  else .bad
def argV (tb : Tab T) (t : Nat) : Val T → Val T
  | .nil => match tb.elem t with
    | some e => .lst e []
    | none => .nil
  | v => v
def argsV (tb : Tab T) (ρ : Operand → Val T) : List Operand → List Nat → List (Val T)
  | [], _ => []
  | x :: r, [] => ρ x :: argsV tb ρ r []
  | x :: r, t :: ts => argV tb t (ρ x) :: argsV tb ρ r ts
def capV (ob : List (Obj' T)) : Val T → Option (Val T)
  | .agg cs => if hpL cs then some (.agg cs) else none
  | v => cap1 ob v
def capA (ob : List (Obj' T)) : List (Val T) → Option (List (Val T))
  | [] => some []
  | v :: r => match capV ob v, capA ob r with
    | some v', some r' => some (v' :: r')
    | _, _ => none
def newMap (ob : List (Obj' T)) (d kt vt : Nat) : Val T × List (Obj' T) :=
  (.mref d ((getO ob d).ver + 1), ob.set d ⟨(getO ob d).ver + 1, .mp kt vt []⟩)
def typedV (tb : Tab T) (t : Nat) (v : Val T) : Option (T t) :=
  match tb.flt t, tb.agg t, v with
  | true, true, .agg cs => tb.unc t cs
  | true, false, .int k n => tb.unc t [.int k n]
  | true, false, .bool b => tb.unc t [.bool b]
  | true, false, .str s => tb.unc t [.str s]
  | _, _, _ => none
def zeroT (tb : Tab T) (t : Nat) : Option (T t) :=
  match tb.flt t, tb.zero t with
  | true, some cs => tb.unc t cs
  | _, _ => none
def eqT (tb : Tab T) (t : Nat) (a b : T t) : Option Bool := eqCs (tb.cells t a) (tb.cells t b)
def findKV (tb : Tab T) (kt vt : Nat) : List (T kt × T vt) → T kt → Option (Option (T vt))
  | [], _ => some none
  | (k, v) :: r, x => match eqT tb kt x k with
    | none => none
    | some b => match findKV tb kt vt r x with
      | none => none
      | some q => some (bif b then some v else q)
def putKV (tb : Tab T) (kt vt : Nat) : List (T kt × T vt) → T kt → T vt → Option (List (T kt × T vt))
  | [], x, y => some [(x, y)]
  | (k, v) :: r, x, y => match eqT tb kt x k with
    | none => none
    | some b => match putKV tb kt vt r x y with
      | none => none
      | some q => some (bif b then (x, y) :: r else (k, v) :: q)
def eqTb (tb : Tab T) (t : Nat) (a b : T t) : Bool := match eqT tb t a b with
  | some r => r
  | none => false
def findT (tb : Tab T) (kt vt : Nat) : List (T kt × T vt) → T kt → Option (T vt)
  | [], _ => none
  | p :: r, x => bif eqTb tb kt x p.1 then some p.2 else findT tb kt vt r x
def putT (tb : Tab T) (kt vt : Nat) : List (T kt × T vt) → T kt → T vt → List (T kt × T vt)
  | [], x, y => [(x, y)]
  | p :: r, x, y => bif eqTb tb kt x p.1 then (x, y) :: r else p :: putT tb kt vt r x y
def valT (tb : Tab T) (t : Nat) (x : T t) : Val T :=
  match tb.agg t, tb.cells t x with
  | true, cs => .agg cs
  | false, [c] => c
  | _, _ => .junk
def lookV (tb : Tab T) (okk : Bool) (vt : Nat) (v : T vt) (b : Bool) : Val T :=
  match okk with
  | true => .tup [valT tb vt v, .bool b]
  | false => valT tb vt v
def boundV (ρ : Operand → Val T) (d : Int) : Option Operand → Option Int
  | none => some d
  | some x => match ρ x with
    | .int _ n => some n
    | _ => none
def isU8 : Option IntKind → Bool
  | some .u8 => true
  | _ => false
def bytesL (tb : Tab T) (e : Nat) : List (T e) → Option (List UInt8)
  | [] => some []
  | x :: r => match tb.cells e x, bytesL tb e r with
    | [.int .u8 n], some bs => some (UInt8.ofNat n.toNat :: bs)
    | _, _ => none
def evOp (tb : Tab T) (ρ ρ0 : Operand → Val T) (ob : List (Obj' T)) (d : Nat) (op : Op) (ty : Nat) : OpR T tb.rk :=
  match op with
  | .move x => .ok true (ρ x) ob
  | .assign x => match ρ x with
    | .nil => match tb.elem ty with
      | some e => okp (newRow ob d e [])
      | none => .ok true .nil ob
    | v => .ok true v ob
  | .pick (.tmp t) x y => match ρ (.tmp t) with
    | .bool b => .ok true (pickV t b (ρ0 x) (ρ0 y)) ob
    | _ => .bad
  | .alloc e => match tb.zero e with
    | some cs => okp (newBox ob d cs)
    | none => .bad
  | .box _ x => match cellsV (ρ x) with
    | some cs => okp (newBox ob d cs)
    | none => .bad
  | .build t parts => if !(tb.agg t) then .bad else match tb.zero t with
    | some zs => match fillV tb t ρ parts.toList zs with
      | some cs => .ok true (.agg cs) ob
      | none => .bad
    | none => .bad
  | .buildSlice t len parts => match tb.elem t with
    | some e => match nestV tb t ob d (parts.toList.map fun p => ρ p.2) with
     | some (k0, v0) => if Nat.beq len 1 && Nat.beq (parts.toList.map (·.1)).sum 0 then okp (newRowx ob d e k0 v0) else .bad
     | none => if parts.toList.length = len ∧ len * tb.size e ≤ 16777216 then (match elemsV tb e ρ parts.toList 0 ob with
      | some (ys, ob') => okp (newRow ob' d e ys)
      | none => .bad) else .bad
    | none => .bad
  | .load t x => if tb.has t then (match readAt tb ob (tb.agg t) (tb.size t) (ρ x) with
    | some v => .ok true v ob
    | none => .bad) else .bad
  | .store t a x => if !(tb.has t) then .bad else match ρ a, storeC tb t (ρ x) with
    | .ptr k ver off, some vs => match getO ob k with
      | ⟨ver', .box false cs⟩ => if ver' = ver then (match splice cs off vs with
        | some cs' => .ok true .junk (ob.set k ⟨ver, .box false cs'⟩)
        | none => .bad) else .bad
      | _ => .bad
    | .rad k ver i off, some vs => match frzL vs ob with
      | some (vs', ob') => match getO ob' k with
        | ⟨ver', .row false e xs⟩ => if ver' = ver then (match splice (tb.cells e (rdl tb e xs i)) off vs' with
          | some cs' => match tb.unc e cs' with
            | some y => .ok true .junk (ob'.set k ⟨ver, .row false e (xs.set i.toNat y)⟩)
            | none => .bad
          | none => .bad) else .bad
        | _ => .bad
      | none => .bad
    | _, _ => .bad
  | .nilCheck x => match ρ x with
    | .ptr k ver off => .ok true (.ptr k ver off) ob
    | .adr cs off => .ok true (.adr cs off) ob
    | _ => .bad
  | .binOp op t x y _ => match ifcV tb op t (ρ x) y with
    | some v => .ok true v ob
    | none => .ok (binV tb op t (ρ x) (ρ y)).1 (binV tb op t (ρ x) (ρ y)).2 ob
  | .unOp .not _ x => match ρ x with
    | .bool b => .ok true (.bool (!b)) ob
    | _ => .bad
  | .unOp .neg _ x => match ρ x with
    | .int k n => .ok true (.int k (wrapK k (0 - n))) ob
    | _ => .bad
  | .convert s t x => match tb.elem s with
    | some e => if (tb.isStr t && isU8 (tb.ikind e)) = true then (match lend1 tb ob (ρ x) with
      | some (.lst e' xs) => if e = e' then (match bytesL tb e' xs with
        | some bs => .ok (decide (bs.length ≤ 9223372036854775807)) (.str ⟨bs.toArray⟩) ob
        | none => .bad) else .bad
      | _ => .bad) else .bad
    | none => match ρ x, tb.ikind s, tb.ikind t with
      | .int k n, some k', some k'' => if k = k' then (if k = k'' then .ok true (.int k n) ob else .ok true (.int k'' (wrapK k'' n)) ob) else .bad
      | _, _, _ => .bad
  | .fieldAddr s x f => match tb.fld s f, ρ x with
    | some (o, _), .ptr k ver off => .ok true (.ptr k ver (off + o)) ob
    | some (o, _), .adr cs off => .ok true (.adr cs (off + o)) ob
    | some (o, _), .rad k ver i off => .ok true (.rad k ver i (off + o)) ob
    | _, _ => .bad
  | .field t x f => match tb.fld t f, ρ x with
    | some (o, ft), .agg cs => match mkAt (tb.agg ft) (tb.size ft) cs o with
      | some v => .ok true v ob
      | none => .bad
    | _, _ => .bad
  | .indexAddr t x i => match tb.arr t with
   | some (e, n) => match ρ x, ρ i with
    | .ptr k ver off, .int _ j => .ok (decide (0 ≤ j) && decide (j < n)) (.ptr k ver (off + j.toNat * tb.size e)) ob
    | .adr cs off, .int _ j => .ok (decide (0 ≤ j) && decide (j < n)) (.adr cs (off + j.toNat * tb.size e)) ob
    | .rad k ver i off, .int _ j => .ok (decide (0 ≤ j) && decide (j < n)) (.rad k ver i (off + j.toNat * tb.size e)) ob
    | _, _ => .bad
   | none => match res ob (ρ x), ρ i, tb.elem t with
    | .lst e xs, .int _ n, some e' => if e = e' then .ok (decide (0 ≤ n) && decide (n < xs.length)) (.adr (tb.cells e (rdl tb e xs n)) 0) ob else .bad
    | .ownx k ver k0 v0, .int _ n, some e' => match getO ob k with
      | ⟨ver', .rowx e xs k1 v1⟩ => if ver' = ver ∧ k1 = k0 ∧ v1 = v0 then (if e = e' then .ok (n == (xs.length : Int)) (.radx k ver) ob else .bad) else .bad
      | _ => .bad
    | .own k ver, .int _ n, some e' => match getO ob k with
      | ⟨ver', .row false e xs⟩ => if ver' = ver then (if e = e' then .ok (decide (0 ≤ n) && decide (n < xs.length)) (.rad k ver n 0) ob else .bad) else .bad
      | _ => .bad
    | _, _, _ => .bad
  | .index t x i => match tb.arr t with
   | some (e, n) => match ρ x, ρ i with
    | .agg cs, .int _ j => match mkAt (tb.agg e) (tb.size e) cs (j.toNat * tb.size e) with
      | some v => if tb.has e then .ok (decide (0 ≤ j) && decide (j < n)) v ob else .bad
      | none => .bad
    | _, _ => .bad
   | none => match ρ x, ρ i, tb.isStr t with
    | .str s, .int _ n, true => .ok (decide (0 ≤ n) && decide (n < s.size)) (.int .u8 ((s.data.getD n.toNat 0).toNat : Int)) ob
    | _, _, _ => .bad
  | .extract x i => match ρ x with
    | .tup vs => match vs[i]? with
      | some v => .ok true v ob
      | none => .bad
    | _ => .bad
  | .makeFunc (.func f) first caps => match capA ob (first.toList.map ρ), capA ob (caps.toList.map ρ) with
    | some fs, some cs => .ok true (.clo f fs cs) ob
    | _, _ => .bad
  | .slice t x lo hi none => match boundV ρ 0 lo with
    | none => .bad
    | some l => if tb.isStr t then (match ρ x with
      | .str s => match boundV ρ s.size hi with
        | some h => .ok (decide (0 ≤ l) && (decide (l ≤ h) && decide (h ≤ s.size))) (.str (s.extract l.toNat h.toNat)) ob
        | none => .bad
      | _ => .bad) else (match frz1 ob (ρ x), tb.elem t with
        | some (.lst e xs, ob'), some e' => if e = e' then (match boundV ρ xs.length hi with
          | some h => .ok (decide (0 ≤ l) && (decide (l ≤ h) && decide (h ≤ xs.length))) (.lst e ((xs.drop l.toNat).take (h.toNat - l.toNat))) ob'
          | none => .bad) else .bad
        | _, _ => .bad)
  | .call c => match c.callee with
    | .value g => match ρ g with
      | .clo f first caps => callV tb f (first ++ argsV tb ρ c.args.toList c.argTypes.toList ++ caps) ob
      | _ => .bad
    | .builtin .len => match c.args.toList, c.argTypes.toList with
      | [x], [t] => match lenV ob (ρ x) with
        | some n => if lenOk tb t (ρ x) then .ok true (.int .i64 n) ob else .bad
        | none => .bad
      | _, _ => .bad
    | .builtin .append => match c.args.toList, c.argTypes.toList with
      | [x, y], [t, t'] => if t = t' then (match tb.elem t with
        | some e => appV tb ob d e (ρ x) (ρ y)
        | none => .bad) else .bad
      | _, _ => .bad
    | .builtin .min => match c.args.toList.map ρ with
      | [.int k m, .int k' n] => if k = k' then .ok true (.int k (bif decide (n < m) then n else m)) ob else .bad
      | _ => .bad
    | .builtin .max => match c.args.toList.map ρ with
      | [.int k m, .int k' n] => if k = k' then .ok true (.int k (bif decide (m < n) then n else m)) ob else .bad
      | _ => .bad
    | _ => .bad
  | .makeSlice t (.tmp a) (.tmp b) => match tb.elem t, ρ (.tmp a) with
    | some e, .int .i64 n => if Nat.beq a b = true then (match tb.zero e with
      | some cs => match tb.unc e cs with
        | some z => .ok (decide (0 ≤ n) && decide (n.toNat * tb.bytes e ≤ maxRoom)) (newRow ob d e (List.replicate n.toNat z)).1 (newRow ob d e (List.replicate n.toNat z)).2
        | none => .bad
      | none => .bad) else .bad
    | _, _ => .bad
  | .makeMap t none => match tb.mp t with
    | some (kt, vt) => okp (newMap ob d kt vt)
    | none => .bad
  | .lookup t m x okk => match tb.mp t, ρ m with
    | some (kt, vt), .mref k ver => match getO ob k with
      | ⟨ver', .mp kt' vt' kvs⟩ => if h : ver' = ver ∧ kt' = kt ∧ vt' = vt then (match typedV tb kt (ρ x), zeroT tb vt with
        | some key, some z => .ok true (lookV tb okk vt' ((findT tb kt' vt' kvs (h.2.1 ▸ key)).getD (h.2.2 ▸ z)) (findT tb kt' vt' kvs (h.2.1 ▸ key)).isSome) ob
        | _, _ => .bad) else .bad
      | _ => .bad
    | _, _ => .bad
  | .mapUpdate t m x y => match tb.mp t, ρ m with
    | some (kt, vt), .mref k ver => match getO ob k with
      | ⟨ver', .mp kt' vt' kvs⟩ => if h : ver' = ver ∧ kt' = kt ∧ vt' = vt then (match typedV tb kt (ρ x), typedV tb vt (ρ y) with
        | some key, some v => .ok true .junk (ob.set k ⟨ver, .mp kt' vt' (putT tb kt' vt' kvs (h.2.1 ▸ key) (h.2.2 ▸ v))⟩)
        | _, _ => .bad) else .bad
      | _ => .bad
    | _, _ => .bad
  | _ => .bad
end Go.Fw
namespace Go.Fw
variable {T : Nat → Type}
inductive SR (T : Nat → Type) (tb : Tab T) : Type where
 | bad
 | ok (c : Bool) (s : St T)
 | call (e : Bool) (f : Nat) (args : List (Val T)) (k : Ret T tb f → St T)
def SR.run {tb : Tab T} (C : (f : Nat) → List (Val T) → Option (Ret T tb f)) : SR T tb → Option (St T)
 | .bad => none
 | .ok c s => bif c then some s else none
 | .call e f args k => (bif e then C f args else some (Ret.dflt tb f)).bind fun r => some (k r)
def splitT {R : Type} (tb : Tab T) : (l : List Knd) → Tup T l → (Tup T l → R) → R
 | [.agg t], x, k => tb.split t R x k
 | .agg t :: _ :: _, x, k => tb.split t R x.1 fun y => k (y, x.2)
 | _, x, k => k x
theorem splitT_eq {R : Type} (tb : Tab T) (l : List Knd) (x : Tup T l) (k : Tup T l → R) : splitT tb l x k = k x := by
 unfold splitT
 split
 ·exact tb.splitOk _ _ _ _
 ·exact tb.splitOk _ _ _ _
 ·rfl
def SR.cps {R : Type} {tb : Tab T} (C : (f : Nat) → List (Val T) → Option (Ret T tb f)) : SR T tb → (St T → Option R) → Option R
 | .bad, _ => none
 | .ok c s, k => bif c then k s else none
 | .call e f args ks, k => (bif e then C f args else some (Ret.dflt tb f)).bind fun r => splitT tb (tb.rk f) r.1 fun y => k (ks (y, r.2))
theorem SR.cps_call {R : Type} {tb : Tab T} (C : (f : Nat) → List (Val T) → Option (Ret T tb f)) (e : Bool) (f : Nat) (args : List (Val T)) (ks : Ret T tb f → St T) (k : St T → Option R) :
  (SR.call e f args ks).cps C k = (bif e then C f args else some (Ret.dflt tb f)).bind fun r => k (ks r) := by
 show (bif e then C f args else some (Ret.dflt tb f)).bind (fun r => splitT tb (tb.rk f) r.1 fun y => k (ks (y, r.2))) = _
 congr 1
 funext r
 exact splitT_eq tb _ _ _
theorem SR.cps_run {R : Type} {tb : Tab T} (C : (f : Nat) → List (Val T) → Option (Ret T tb f)) (x : SR T tb) (k : St T → Option R) :
  x.cps C k = (x.run C).bind k := by
 cases x with
 | bad => rfl
 | ok c s => cases c <;> rfl
 | call e f args ks =>
  rw [SR.cps_call]
  cases e
  ·rfl
  ·simp only [SR.run, cond_true]
   cases C f args <;> rfl
inductive Gd where
 | bad
 | free
 | on (t : Nat) (w e : Bool)
def gdV (w : Bool) (g : Bool) : Bool := bif w then g else !g
def guardOf (ops : Array Oper) (s : St T) (o : Oper) : Gd :=
 match o.guard with
 | none => .free
 | some (j, w) => match (ops[j]?).bind (·.dst) with
  | some t => match s.get t with
   | .bool g => .on t w (match w with | true => g | false => !g)
   | .cnd _ _ e (.bool g) => .on t w (e && (match w with | true => g | false => !g))
   | _ => .bad
  | none => .bad
def quietOp : Op → Bool
 | .move _ => true
 | .pick .. => true
 | .load .. => true
 | .nilCheck _ => true
 | .binOp .. => true
 | .unOp .. => true
 | .convert .. => true
 | .fieldAddr .. => true
 | .field .. => true
 | .indexAddr .. => true
 | .index .. => true
 | .extract .. => true
 | .makeFunc .. => true
 | .build .. => true
 | .lookup .. => true
 | .call { callee := .builtin .len, .. } => true
 | .call { callee := .builtin .min, .. } => true
 | .call { callee := .builtin .max, .. } => true
 | _ => false
def slcQ (ρ : Operand → Val T) : Op → Bool
 | .slice _ x _ _ _ => match ρ x with
  | .lst _ _ => true
  | .str _ => true
  | _ => false
 | _ => false
def quietG (ρ : Operand → Val T) (op : Op) : Bool := quietOp op || slcQ ρ op
def setSl (s : St T) (dst : Option Nat) (v : Val T) (ob : List (Obj' T)) : St T :=
 match dst with
 | some d => ⟨s.sl.set d v, ob, s.gs⟩
 | none => ⟨s.sl, ob, s.gs⟩
def oneV : List (Val T) → Val T
 | [v] => v
 | vs => .tup vs
def backS (tb : Tab T) (s : St T) (dst : Option Nat) (ob : List (Obj' T)) (f : Nat) (r : Tup T (tb.rk f)) : St T :=
 match dst with
 | none => ⟨s.sl, ob, s.gs⟩
 | some d => match Tup.row tb (tb.rk f) r with
  | none => ⟨s.sl.set d (unG none (oneV (Tup.vals tb 0 0 (tb.rk f) r))), ob, s.gs⟩
  | some b => ⟨s.sl.set d (unG none (oneV (Tup.vals tb d ((getO ob d).ver + 1) (tb.rk f) r))), ob.set d ⟨(getO ob d).ver + 1, b⟩, s.gs⟩
def dstOf (o : Oper) : Nat := match o.dst with | some d => d | none => 0
def callee1 : Op → Bool
 | .call { callee := .value _, .. } => true
 | _ => false
def needsDst : Op → Bool
 | .assign _ => true
 | .alloc _ => true
 | .box .. => true
 | .buildSlice .. => true
 | .makeMap .. => true
 | .makeSlice .. => true
 | .call { callee := .builtin .append, .. } => true
 | _ => false
def oneFresh : List Knd → Nat
 | [] => 0
 | k :: r => (if k.isFresh then 1 else 0) + oneFresh r
def memN (l : List Nat) (n : Nat) : Bool :=
 match l with
 | [] => false
 | a :: r => (a == n) || memN r n
def addG (s : St T) (t : Nat) : St T := ⟨s.sl, s.ob, t :: s.gs⟩
def clash (s : St T) : Option Nat → Bool
 | some d => memN s.gs d
 | none => false
def dstIn (s : St T) : Option Nat → Bool
 | some d => Nat.blt d s.ob.length && Nat.blt d s.sl.length
 | none => false
def room1 (s : St T) (dst : Option Nat) : Nat :=
 match dstIn s dst with
 | true => 1
 | false => 0
def impB : Bool → Bool → Bool
 | true, _ => true
 | false, e => !e
def callArgs (tb : Tab T) (ρ : Operand → Val T) : Op → List (Val T)
 | .call c => match c.callee with
  | .value g => match ρ g with
   | .clo _ first caps => first ++ argsV tb ρ c.args.toList c.argTypes.toList ++ caps
   | _ => []
  | _ => []
 | _ => []
def isNilX : List XK → Bool
 | [] => true
 | _ :: _ => false
def step (tb : Tab T) (ops : Array Oper) (o : Oper) (s : St T) : SR T tb :=
 if needsDst o.op && !(dstIn s o.dst) then .bad else
 if clash s o.dst then .bad else
 match guardOf ops s o with
 | .bad => .bad
 | .free => match evOp tb (fun x => unG none (opv s x)) (opv s) s.ob (dstOf o) o.op o.type with
  | .bad => .bad
  | .ok c v ob => .ok c (setSl s o.dst (unG none v) ob)
  | .call f args L ob => if oneFresh (tb.rk f) ≤ room1 s o.dst then .call true f args (fun r => backS tb s o.dst (outX tb true (tb.xk f) r.2 L ob) f r.1) else .bad
 | .on t w e =>
  if quietG (fun x => unG (some (t, w)) (opv s x)) o.op then
   match evOp tb (fun x => unG (some (t, w)) (opv s x)) (opv s) s.ob (dstOf o) o.op o.type with
   | .ok c v _ => if o.dst = some t then .bad else .ok (impB c e) (setSl (addG s t) o.dst (.cnd t w e v) s.ob)
   | _ => .bad
  else if callee1 o.op then
   match evOp tb (fun x => unG (some (t, w)) (opv s x)) (opv s) s.ob (dstOf o) o.op o.type with
   | .call f as0 L _ => match isNilX (tb.xk f) with
    | true => (match lendA tb s.ob (callArgs tb (fun x => unG (some (t, w)) (opv s x)) o.op) with
     | some as => if allFlat (tb.rk f) then (if o.dst = some t then .bad else .call e f as (fun r => setSl (addG s t) o.dst (.cnd t w e (oneV (Tup.vals tb 0 0 (tb.rk f) r.1))) s.ob))
      else if (Nat.beq (oneFresh (tb.rk f)) 0 && hpL (callArgs tb (fun x => unG (some (t, w)) (opv s x)) o.op)) = true then (if o.dst = some t then .bad else .call e f as0 (fun r => setSl (addG s t) o.dst (.cnd t w e (oneV (Tup.vals tb 0 0 (tb.rk f) r.1))) s.ob)) else .bad
     | none => .bad)
    | false => if o.dst = some t then .bad else .call e f as0 (fun r => setSl (addG s t) o.dst (.cnd t w e (oneV (Tup.vals tb 0 0 (tb.rk f) r.1))) (outX tb e (tb.xk f) r.2 L s.ob))
   | _ => .bad
  else .bad
def noCnd : List (Val T) → Nat → List (Val T)
 | [], _ => []
 | _ :: r, 0 => .junk :: noCnd r 0
 | v :: r, n + 1 => unG none v :: noCnd r n
def forget (nl : Nat) (s : St T) : St T := ⟨noCnd s.sl nl, s.ob, []⟩
inductive Ex where
 | normal
 | exit (id : Nat)
 | ret
inductive Step (V R : Type) where
 | again (v : V)
 | out (v : V)
 | ret (r : R)
inductive Out (V R : Type) where
 | out (v : V)
 | ret (r : R)
def loopM {V R : Type} : Nat → (V → Option (Step V R)) → V → Option (Out V R)
 | 0, _, _ => none
 | n + 1, body, v => match body v with
  | none => none
  | some (.again v') => loopM n body v'
  | some (.out v') => some (.out v')
  | some (.ret r) => some (.ret r)
inductive C1 where
 | var (k : Knd)
 | ptr (key off : Nat)
 | mref (key : Nat)
inductive SlT where
 | junk
 | var (k : Knd)
 | ptr (key off : Nat)
 | own (key : Nat)
 | ownx (key k0 : Nat)
 | mref (key : Nat)
 | clo (f : Nat) (a b : List C1)
inductive ObT where
 | dead
 | box (fz : Bool) (cs : List SlT)
 | srt (fz : Bool) (t : Nat)
 | row (fz : Bool) (e : Nat)
 | rowx (e k0 : Nat)
 | mp (kt vt : Nat)
def TC (T : Nat → Type) : List C1 → Type
 | [] => Unit
 | .var k :: r => k.ty T × TC T r
 | _ :: r => TC T r
def TS (T : Nat → Type) : List SlT → Type
 | [] => Unit
 | .var k :: r => k.ty T × TS T r
 | .clo _ a b :: r => TC T a × TC T b × TS T r
 | _ :: r => TS T r
def ObT.ty (T : Nat → Type) : ObT → Type
 | .dead => Unit
 | .box _ cs => TS T cs
 | .srt _ t => T t
 | .row _ e => List (T e)
 | .rowx e _ => List (T e)
 | .mp kt vt => List (T kt × T vt)
def TO (T : Nat → Type) : List ObT → Type
 | [] => Unit
 | .dead :: r => TO T r
 | o :: r => o.ty T × TO T r
structure Tpl where
 sl : List SlT
 ob : List ObT
 xid : Nat
def Tpl.ty (T : Nat → Type) (p : Tpl) : Type := TS T p.sl × TO T p.ob
def Knd.get (tb : Tab T) : (k : Knd) → Val T → Option (k.ty T)
 | .int k, .int k' n => if k = k' then some n else none
 | .bool, .bool b => some b
 | .ifc, .ifc b => some b
 | .str, .str s => some s
 | .lst e, .lst e' xs => if h : e' = e then some (h ▸ xs) else none
 | .lst _, .nil => some []
 | .agg t, .agg cs => tb.unc t cs
 | _, _ => none
def verOk (ob : List (Obj' T)) (key ver : Nat) : Bool := (getO ob key).ver == ver
def ptrOk (ob : List (Obj' T)) (key off : Nat) : Val T → Bool
 | .ptr key' ver off' => if key = key' then (if off = off' then verOk ob key ver else false) else false
 | _ => false
def mrefOk (ob : List (Obj' T)) (key : Nat) : Val T → Bool
 | .mref key' ver => if key = key' then verOk ob key ver else false
 | _ => false
def getC (tb : Tab T) (ob : List (Obj' T)) : (l : List C1) → List (Val T) → Option (TC T l)
 | [], [] => some ()
 | .var k :: r, v :: vs => match k.get tb (res ob v), getC tb ob r vs with
  | some x, some y => some (x, y)
  | _, _ => none
 | .ptr key off :: r, v :: vs => match ptrOk ob key off v with
  | true => getC tb ob r vs
  | false => none
 | .mref key :: r, v :: vs => match mrefOk ob key v with
  | true => getC tb ob r vs
  | false => none
 | _, _ => none
def putC (tb : Tab T) : (l : List C1) → TC T l → List (Val T)
 | [], _ => []
 | .var k :: r, x => k.val tb 0 0 x.1 :: putC tb r x.2
 | .ptr key off :: r, x => .ptr key 0 off :: putC tb r x
 | .mref key :: r, x => .mref key 0 :: putC tb r x
def getTS (tb : Tab T) (ob : List (Obj' T)) : (l : List SlT) → List (Val T) → Option (TS T l)
 | [], _ => some ()
 | .var k :: r, vs => match k.get tb (res ob (vs.headD .junk)), getTS tb ob r vs.tail with
  | some x, some y => some (x, y)
  | _, _ => none
 | .junk :: r, vs => getTS tb ob r vs.tail
 | .ptr key off :: r, vs => match ptrOk ob key off (vs.headD .junk) with
  | true => getTS tb ob r vs.tail
  | false => none
 | .own key :: r, vs => match vs.headD .junk with
  | .own key' ver => if key = key' then (if verOk ob key ver then getTS tb ob r vs.tail else none) else none
  | _ => none
 | .ownx key k0 :: r, vs => match vs.headD .junk with
  | .ownx key' ver k0' v0 => if key = key' ∧ k0 = k0' then (if verOk ob key ver then (if verOk ob k0 v0 then getTS tb ob r vs.tail else none) else none) else none
  | _ => none
 | .mref key :: r, vs => match mrefOk ob key (vs.headD .junk) with
  | true => getTS tb ob r vs.tail
  | false => none
 | .clo f a b :: r, vs => match vs.headD .junk with
  | .clo f' as bs => if f = f' then (match getC tb ob a as, getC tb ob b bs, getTS tb ob r vs.tail with
   | some x, some y, some z => some (x, y, z)
   | _, _, _ => none) else none
  | _ => none
def putTS (tb : Tab T) : (l : List SlT) → TS T l → List (Val T)
 | [], _ => []
 | .var k :: r, x => k.val tb 0 0 x.1 :: putTS tb r x.2
 | .junk :: r, x => .junk :: putTS tb r x
 | .ptr key off :: r, x => .ptr key 0 off :: putTS tb r x
 | .own key :: r, x => .own key 0 :: putTS tb r x
 | .ownx key k0 :: r, x => .ownx key 0 k0 0 :: putTS tb r x
 | .mref key :: r, x => .mref key 0 :: putTS tb r x
 | .clo f a b :: r, x => .clo f (putC tb a x.1) (putC tb b x.2.1) :: putTS tb r x.2.2
def resL (ob : List (Obj' T)) : List (Val T) → List (Val T)
 | [] => []
 | v :: r => res ob v :: resL ob r
def getOb (tb : Tab T) (ob : List (Obj' T)) : (o : ObT) → Body T → Option (o.ty T)
 | .dead, _ => some ()
 | .box fz cs, .box fz' vs => if fz = fz' ∧ cs.length = vs.length then getTS tb ob cs vs else none
 | .srt fz t, .box fz' vs => if fz = fz' then tb.unc t (resL ob vs) else none
 | .row fz e, .row fz' e' xs => if fz = fz' then (if h : e' = e then some (h ▸ xs) else none) else none
 | .rowx e k0, .rowx e' xs k0' v0 => if k0 = k0' ∧ verOk ob k0 v0 = true then (if h : e' = e then some (h ▸ xs) else none) else none
 | .mp kt vt, .mp kt' vt' kvs => if h : kt' = kt ∧ vt' = vt then some (h.1 ▸ h.2 ▸ kvs) else none
 | _, _ => none
def putOb (tb : Tab T) : (o : ObT) → o.ty T → Body T
 | .dead, _ => .dead
 | .box fz cs, x => .box fz (putTS tb cs x)
 | .srt fz t, x => .box fz (tb.cells t x)
 | .row fz e, xs => .row fz e xs
 | .rowx e k0, xs => .rowx e xs k0 0
 | .mp kt vt, x => .mp kt vt x
def getTO (tb : Tab T) (ob : List (Obj' T)) : (l : List ObT) → List (Obj' T) → Option (TO T l)
 | [], _ => some ()
 | .dead :: r, os => getTO tb ob r os.tail
 | .box fz cs :: r, os => match getOb tb ob (.box fz cs) (os.headD ⟨0, .dead⟩).body, getTO tb ob r os.tail with
  | some x, some y => some (x, y)
  | _, _ => none
 | .srt fz t :: r, os => match getOb tb ob (.srt fz t) (os.headD ⟨0, .dead⟩).body, getTO tb ob r os.tail with
  | some x, some y => some (x, y)
  | _, _ => none
 | .row fz e :: r, os => match getOb tb ob (.row fz e) (os.headD ⟨0, .dead⟩).body, getTO tb ob r os.tail with
  | some x, some y => some (x, y)
  | _, _ => none
 | .rowx e k0 :: r, os => match getOb tb ob (.rowx e k0) (os.headD ⟨0, .dead⟩).body, getTO tb ob r os.tail with
  | some x, some y => some (x, y)
  | _, _ => none
 | .mp kt vt :: r, os => match getOb tb ob (.mp kt vt) (os.headD ⟨0, .dead⟩).body, getTO tb ob r os.tail with
  | some x, some y => some (x, y)
  | _, _ => none
def putTO (tb : Tab T) : (l : List ObT) → TO T l → List (Obj' T)
 | [], _ => []
 | .dead :: r, x => ⟨0, .dead⟩ :: putTO tb r x
 | .box fz cs :: r, x => ⟨0, putOb tb (.box fz cs) x.1⟩ :: putTO tb r x.2
 | .srt fz t :: r, x => ⟨0, putOb tb (.srt fz t) x.1⟩ :: putTO tb r x.2
 | .row fz e :: r, x => ⟨0, putOb tb (.row fz e) x.1⟩ :: putTO tb r x.2
 | .rowx e k0 :: r, x => ⟨0, putOb tb (.rowx e k0) x.1⟩ :: putTO tb r x.2
 | .mp kt vt :: r, x => ⟨0, putOb tb (.mp kt vt) x.1⟩ :: putTO tb r x.2
def Tpl.get (tb : Tab T) (p : Tpl) (s : St T) : Option (p.ty T) :=
 if p.sl.length = s.sl.length then (if p.ob.length = s.ob.length then (match getTS tb s.ob p.sl s.sl, getTO tb s.ob p.ob s.ob with
  | some x, some y => some (x, y)
  | _, _ => none) else none) else none
def Tpl.put (tb : Tab T) (p : Tpl) (x : p.ty T) : St T := ⟨putTS tb p.sl x.1, putTO tb p.ob x.2, []⟩
def thawCells (tb : Tab T) (p : Tpl) (k : Nat) : List SlT → Nat → St T → St T
 | [], _, s => s
 | .own key :: r, j, s => match getO s.ob k with
  | ⟨ver, .box false cs⟩ => match cs[j]?, p.ob.getD key .dead with
   | some .nil, .row _ e => if key = k then thawCells tb p k r (j + 1) s else
     thawCells tb p k r (j + 1) ⟨s.sl, (newRow s.ob key e []).2.set k ⟨ver, .box false (cs.set j (newRow s.ob key e []).1)⟩, s.gs⟩
   | _, _ => thawCells tb p k r (j + 1) s
  | _ => thawCells tb p k r (j + 1) s
 | _ :: r, j, s => thawCells tb p k r (j + 1) s
def thawOb (tb : Tab T) (p : Tpl) : List ObT → Nat → St T → St T
 | [], _, s => s
 | .box false cs :: r, k, s => thawOb tb p r (k + 1) (thawCells tb p k cs 0 s)
 | _ :: r, k, s => thawOb tb p r (k + 1) s
def thawNil (tb : Tab T) (p : Tpl) (s : St T) : St T := thawOb tb p p.ob 0 (go tb p.sl 0 s)
where
 go (tb : Tab T) : List SlT → Nat → St T → St T
  | [], _, s => s
  | .own key :: r, t, s => match s.get t, p.ob.getD key .dead with
   | .nil, .row _ e => go tb r (t + 1) ⟨s.sl.set t (newRow s.ob key e []).1, (newRow s.ob key e []).2, s.gs⟩
   | _, _ => go tb r (t + 1) s
  | _ :: r, t, s => go tb r (t + 1) s
def fitSl (os : List ObT) : List SlT → Nat → St T → St T
 | [], _, s => s
 | .var (.lst _) :: r, t, s => match s.get t with
  | .own k ver => match frz1 s.ob (.own k ver) with
   | some (v, ob') => fitSl os r (t + 1) ⟨s.sl.set t v, ob', s.gs⟩
   | none => fitSl os r (t + 1) s
  | _ => fitSl os r (t + 1) s
 | .own key :: r, t, s => match s.get t, os.getD key .dead with
  | .own k ver, .row true _ => match frz1 s.ob (.own k ver) with
   | some (_, ob') => fitSl os r (t + 1) ⟨s.sl, ob', s.gs⟩
   | none => fitSl os r (t + 1) s
  | _, _ => fitSl os r (t + 1) s
 | _ :: r, t, s => fitSl os r (t + 1) s
def flush1 (tb : Tab T) (t : Nat) (s : St T) : St T := match s.get t with
 | .ownx k ver k0 v0 => match getO s.ob k with
  | ⟨ver', .rowx e xs k1 v1⟩ => if ver' = ver ∧ k1 = k0 ∧ v1 = v0 ∧ k ≠ k0 then (match frz1 s.ob (.own k0 v0) with
   | some (v, ob1) => match tb.unc e [v] with
    | some y => ⟨s.sl.set t (.own k (ver + 1)), ob1.set k ⟨ver + 1, .row false e (xs ++ [y])⟩, s.gs⟩
    | none => s
   | none => s) else s
  | _ => s
 | _ => s
def flushSl (tb : Tab T) (os : List ObT) : List SlT → Nat → St T → St T
 | [], _, s => s
 | .own key :: r, t, s => match os.getD key .dead with
  | .row false _ => flushSl tb os r (t + 1) (flush1 tb t s)
  | _ => flushSl tb os r (t + 1) s
 | _ :: r, t, s => flushSl tb os r (t + 1) s
def fitT (tb : Tab T) (p : Tpl) (s : St T) : St T := fitSl p.ob p.sl 0 (flushSl tb p.ob p.sl 0 s)
structure Env (T : Nat → Type) (tb : Tab T) where
 C : (f : Nat) → List (Val T) → Option (Ret T tb f)
 lp : (V R : Type) → (V → Option (Step V R)) → V → Option (Out V R)
structure Fi where
 nl : Nat
 tpl : List (Nat × Tpl)
 cold : List Nat
def lookT : List (Nat × Tpl) → Nat → Option Tpl
 | [], _ => none
 | (a, p) :: r, n => if a = n then some p else lookT r n
def coolBox (k : Nat) (s : St T) : St T := match getO s.ob k with
 | ⟨ver, .box false cs⟩ => match frzL cs s.ob with
  | some (cs', ob') => ⟨s.sl, ob'.set k ⟨ver, .box false cs'⟩, s.gs⟩
  | none => s
 | _ => s
def cool : Nat → St T → St T
 | 0, s => s
 | n + 1, s => cool n (coolBox n s)
def prep (fi : Fi) (id : Nat) (s : St T) : St T := match inB id fi.cold with
 | true => cool s.ob.length (forget fi.nl s)
 | false => forget fi.nl s
def evOps {R : Type} {tb : Tab T} (E : Env T tb) (ops : Array Oper) : List Oper → St T → (St T → Option R) → Option R
 | [], s, k => k s
 | o :: r, s, k => (step tb ops o s).cps E.C fun s' => evOps E ops r s' k
def opsOf : Op → List Operand
 | .move x => [x]
 | .assign x => [x]
 | .box _ x => [x]
 | .load _ x => [x]
 | .nilCheck x => [x]
 | .unOp _ _ x => [x]
 | .convert _ _ x => [x]
 | .fieldAddr _ x _ => [x]
 | .field _ x _ => [x]
 | .extract x _ => [x]
 | .pick c a b => [c, a, b]
 | .build _ ps => ps.toList.map (·.2)
 | .buildSlice _ _ ps => ps.toList.map (·.2)
 | .store _ a v => [a, v]
 | .binOp _ _ a v _ => [a, v]
 | .indexAddr _ a v => [a, v]
 | .index _ a v => [a, v]
 | .lookup _ a v _ => [a, v]
 | .mapUpdate _ m k v => [m, k, v]
 | .makeMap _ r => r.toList
 | .makeSlice _ a b => [a, b]
 | .makeFunc _ first caps => first.toList ++ caps.toList
 | .slice _ x lo hi _ => x :: (lo.toList ++ hi.toList)
 | .call c => (match c.callee with | .value g => [g] | _ => []) ++ c.args.toList
 | _ => []
def extra (tb : Tab T) (ρ : Operand → Val T) (ob : List (Obj' T)) (op : Op) : List Nat :=
 match callee1 op with
 | true => bodiesRefs ob (extKeys ob (callArgs tb ρ op))
 | false => []
def refsO (ρ : Operand → Val T) : List Operand → List Nat
 | [] => []
 | x :: r => (ρ x).refs ++ refsO ρ r
def gOf : Gd → Option (Nat × Bool)
 | .on t w _ => some (t, w)
 | _ => none
def dstL (o : Oper) : List Nat := match o.dst with | some d => [d] | none => []
def rdOf (tb : Tab T) (ops : Array Oper) (o : Oper) (s : St T) : List Nat :=
 refsO (fun x => unG (gOf (guardOf ops s o)) (opv s x)) (opsOf o.op) ++ extra tb (fun x => unG (gOf (guardOf ops s o)) (opv s x)) s.ob o.op ++ dstL o
def isAssign : Op → Bool
 | .assign _ => true
 | _ => false
def plainC (ob : List (Obj' T)) (args : List (Val T)) (op : Op) : Option (Nat × Bool) → Bool
 | some _ => callee1 op && (match extKeys ob args with | [] => true | _ => false)
 | none => false
def wrOf (o : Oper) (pl : Bool) (rd : List Nat) : List Nat := if quietOp o.op then [] else (if isAssign o.op then dstL o else (bif pl then [] else rd))
def ftOf (tb : Tab T) (ops : Array Oper) (o : Oper) (s : St T) : List Nat × List Nat :=
 (rdOf tb ops o s, wrOf o (plainC s.ob (callArgs tb (fun x => unG (gOf (guardOf ops s o)) (opv s x)) o.op) o.op (gOf (guardOf ops s o))) (rdOf tb ops o s))
def tmpsOf : List Operand → List Nat
 | [] => []
 | .tmp t :: r => t :: tmpsOf r
 | _ :: r => tmpsOf r
def grdL (ops : Array Oper) (o : Oper) : List Nat :=
 match o.guard with
 | some (j, _) => match (ops[j]?).bind (·.dst) with
  | some t => [t]
  | none => []
 | none => []
def looksB (ops : Array Oper) (o : Oper) : List Nat := tmpsOf (opsOf o.op) ++ grdL ops o
def disjB : List Nat → List Nat → Bool
 | [], _ => true
 | a :: r, l => !(inB a l) && disjB r l
def bindsOn (o : Oper) : List Nat := o.after.toList.filterMap fun e => if Go.Region.binds .any e then some e.on else none
structure Pst where
 ix : Nat
 o : Oper
 anc : List Nat
 rd : List Nat × List Nat
def ancAt : List Pst → Nat → List Nat
 | [], _ => []
 | p :: r, j => if p.ix = j then p.anc else ancAt r j
def ancOf (past : List Pst) : List Nat → List Nat
 | [] => []
 | j :: r => j :: ancAt past j ++ ancOf past r
def apartB (ops : Array Oper) (p q : Oper) (rp rq : List Nat × List Nat) : Bool :=
 disjB (dstL p) (looksB ops q) && (disjB (dstL q) (looksB ops p) && (disjB (dstL p) (dstL q) && (disjB rp.2 rq.1 && disjB rq.2 rp.1)))
def pairsB (ops : Array Oper) (past : List Pst) (o : Oper) (anc : List Nat) (rd : List Nat × List Nat) : Bool :=
 match past with
 | [] => true
 | p :: r => (inB p.ix anc || apartB ops p.o o p.rd rd) && pairsB ops r o anc rd
def lessB (k : Nat) : List Nat → Bool
 | [] => true
 | a :: r => Nat.blt a k && lessB k r
def evD {R : Type} {tb : Tab T} (E : Env T tb) (ops : Array Oper) : Nat → List Oper → List Pst → St T → (St T → Option R) → Option R
 | _, [], _, s, c => c s
 | k, o :: l, past, s, c =>
  match lessB k (bindsOn o) && pairsB ops past o (ancOf past (bindsOn o)) (ftOf tb ops o s) with
  | true => (step tb ops o s).cps E.C fun s' => evD E ops (k + 1) l (⟨k, o, ancOf past (bindsOn o), ftOf tb ops o s⟩ :: past) s' c
  | false => none
def relOp : BinOp → Bool
 | .eql => true
 | .neq => true
 | .lss => true
 | .leq => true
 | .gtr => true
 | .geq => true
 | _ => false
def jnOp (tb : Tab T) (nl t : Nat) (o : Oper) : Bool :=
 match o.guard, o.dst with
 | none, some d => (Nat.ble nl d || Nat.beq d t) && match o.op with
  | .assign _ => match tb.elem o.type with | none => true | some _ => false
  | .move _ => true
  | .binOp op _ _ _ _ => relOp op
  | .load _ _ => true
  | .fieldAddr .. => true
  | .field .. => true
  | .unOp .. => true
  | .build .. => true
  | _ => false
 | _, _ => false
def jnOps (tb : Tab T) (nl t : Nat) : List Oper → Bool
 | [] => true
 | o :: r => jnOp tb nl t o && jnOps tb nl t r
def jnC (tb : Tab T) (nl t : Nat) : Code → Bool
 | .skip => true
 | .region _ ops false => jnOps tb nl t ops.toList
 | .seq a b => jnC tb nl t a && jnC tb nl t b
 | .cond (.tmp u) a b => Nat.beq u t && (jnC tb nl t a && jnC tb nl t b)
 | _ => false
def jn (tb : Tab T) (nl : Nat) : Operand → Code → Code → Option Nat
 | .tmp t, a, b => match jnC tb nl t a && jnC tb nl t b with
  | true => some t
  | false => none
 | _, _, _ => none
def boolAt (s : St T) (t : Nat) : Option Bool := match s.get t with
 | .bool b => some b
 | _ => none
def runQ (tb : Tab T) (ops : Array Oper) : List Oper → St T → Option (St T)
 | [], s => some s
 | o :: r, s => match step tb ops o s with
  | .ok true s' => runQ tb ops r s'
  | _ => none
def setB (nl t : Nat) (s : St T) (g : Bool) : St T := ⟨(noCnd s.sl nl).set t (.bool g), s.ob, []⟩
def chainV (tb : Tab T) (nl t : Nat) : Code → St T → Option Bool
 | .skip, s => boolAt s t
 | .region _ ops _, s => match runQ tb ops ops.toList (forget nl s) with
  | some s1 => boolAt s1 t
  | none => none
 | .seq a b, s => match chainV tb nl t a s with
  | some g => chainV tb nl t b (setB nl t s g)
  | none => none
 | .cond _ a b, s => match boolAt s t with
  | some g => (match chainV tb nl t a (setB nl t s true), chainV tb nl t b (setB nl t s false) with
   | some x, some y => some (bif g then x else y)
   | _, _ => none)
  | none => none
 | _, _ => none
def ev {R : Type} {tb : Tab T} (E : Env T tb) (fi : Fi) : Code → Nat → St T → (Ex → St T → Option R) → Option R
 | .skip, _, s, k => k .normal s
 | .region id ops draw, _, s, k => match draw with
  | true => evD E ops 0 ops.toList [] (prep fi id s) (k .normal)
  | false => evOps E ops ops.toList (prep fi id s) (k .normal)
 | .seq a b, p, s, k => ev E fi a (2 * p) s fun e s' => match e with
  | .normal => ev E fi b (2 * p + 1) s' k
  | .exit id => k (.exit id) s'
  | .ret => k .ret s'
 | .cond c a b, p, s, k => match jn tb fi.nl c a b with
  | some t => (match chainV tb fi.nl t (.cond c a b) s with
   | some g => k .normal (setB fi.nl t s g)
   | none => none)
  | none => match opv s c with
   | .bool t => bif t then ev E fi a (2 * p) s k else ev E fi b (2 * p + 1) s k
   | _ => none
 | .block id a, p, s, k => ev E fi a (2 * p) s fun e s' => match e with
  | .exit i => if i = id then k .normal s' else k (.exit i) s'
  | .normal => k .normal s'
  | .ret => k .ret s'
 | .loop a, p, s, k => match lookT fi.tpl p with
  | none => none
  | some tp => match tp.get tb (fitT tb tp (thawNil tb tp s)) with
   | none => none
   | some v => match E.lp (tp.ty T) R (fun v => ev E fi a (2 * p) (tp.put tb v) fun e s' => match e with
     | .normal => (tp.get tb (fitT tb tp s')).map .again
     | .exit i => if i = tp.xid then (tp.get tb (fitT tb tp s')).map .out else none
     | .ret => (k .ret s').map .ret) v with
    | none => none
    | some (.out v') => k (.exit tp.xid) (tp.put tb v')
    | some (.ret r) => some r
 | .exit id, _, s, k => k (.exit id) s
 | .ret, _, s, k => k .ret s
 | _, _, _, _ => none
def resV (tb : Tab T) (s : St T) : ResultVar → Val T
 | .tmp t => s.get t
 | .cell a t => if tb.has t then (match readAt tb s.ob (tb.agg t) (tb.size t) (s.get a) with
  | some v => v
  | none => .junk) else .junk
end Go.Fw
namespace Go.Fw
open Go.RowKit
variable {T : Nat → Type}
abbrev NS := Nat → Nat → Prop
structure Base where
 w : World
 X : Nat → Prop
 n : Nat
 hx : Nat → Value
structure BelowX (X : Nat → Prop) (B : Nat) (w w' : World) : Prop where
 os : w'.os = w.os
 tape : w'.tape = w.tape
 output : w'.output = w.output
 size : w.heap.size ≤ w'.heap.size
 block : ∀ k, k < B → ¬ X k → w'.heap[k]? = w.heap[k]?
theorem BelowX.refl (X : Nat → Prop) (B : Nat) (w : World) : BelowX X B w w := ⟨rfl, rfl, rfl, Nat.le_refl _, fun _ _ _ => rfl⟩
theorem BelowX.trans {X : Nat → Prop} {B : Nat} {a b c : World} (h : BelowX X B a b) (k : BelowX X B b c) : BelowX X B a c :=
 ⟨k.os.trans h.os, k.tape.trans h.tape, k.output.trans h.output, Nat.le_trans h.size k.size, fun i hi hx => (k.block i hi hx).trans (h.block i hi hx)⟩
theorem BelowX.mono {X X' : Nat → Prop} {B B' : Nat} {w w' : World} (h : BelowX X B w w') (hB : B' ≤ B) (hX : ∀ k, k < B' → X k → X' k) : BelowX X' B' w w' :=
 ⟨h.os, h.tape, h.output, h.size, fun k hk hx => h.block k (Nat.lt_of_lt_of_le hk hB) fun hh => hx (hX k hk hh)⟩
theorem BelowX.of {X : Nat → Prop} {B : Nat} {w w' : World} (h : Below B w w') : BelowX X B w w' := ⟨h.os, h.tape, h.output, h.size, fun k hk _ => h.block k hk⟩
def inR (k : IntKind) (n : Int) : Prop := k.wrap n = n
inductive Fz (tb : Tab T) (w : World) (N : NS) : Val T → Value → Prop
 | int {k n} : inR k n → Fz tb w N (.int k n) (.int k n)
 | bool {b} : Fz tb w N (.bool b) (.bool b)
 | str {s} : s.size ≤ 9223372036854775807 → Fz tb w N (.str s) (.string s)
 | nil : Fz tb w N .nil (.slice none 0 0)
 | ifc {b v} : (b = true → v = .nilIface) → (b = false → ∃ t x, v = .iface t x) → Fz tb w N (.ifc b) v
 | lst {e xs A n c b o} (vs : Nat → Nat → Value) : xs.length = n → n ≤ c → c ≤ 9223372036854775807 →
   (0 < n → A = some ⟨b, o, none⟩ ∧ b < w.heap.size) → (∀ i j, i < n → j < tb.size e → N b (o + (i * tb.size e + j))) →
   (∀ i j, i < n → j < tb.size e → w.cell? ⟨b, o + (i * tb.size e + j), none⟩ = some (vs i j)) →
   (∀ i j x V, xs[i]? = some x → (tb.cells e x)[j]? = some V → Fz tb w N V (vs i j)) →
   Fz tb w N (.lst e xs) (.slice A n c)
 | adr {cs off b o} (vs : Nat → Value) : (∀ j, j < cs.length → N b (o + j)) → (∀ j, j < cs.length → w.cell? ⟨b, o + j, none⟩ = some (vs j)) →
   (∀ j V, cs[j]? = some V → Fz tb w N V (vs j)) → Fz tb w N (.adr cs off) (.pointer (some ⟨b, o + off, none⟩))
 | clo {f first caps} {fv cv : Array Value} : fv.size = first.length → cv.size = caps.length →
   (∀ j V, first[j]? = some V → Fz tb w N V (fv.getD j undef)) → (∀ j V, caps[j]? = some V → Fz tb w N V (cv.getD j undef)) →
   Fz tb w N (.clo f first caps) (.func (.func f) fv cv)
 | agg {cs} {vs : Array Value} : vs.size = cs.length → (∀ j V, cs[j]? = some V → Fz tb w N V (vs.getD j undef)) → Fz tb w N (.agg cs) (.agg vs)
def Kept (w w' : World) (N : NS) : Prop := w.heap.size ≤ w'.heap.size ∧ ∀ b o, N b o → w'.cell? ⟨b, o, none⟩ = w.cell? ⟨b, o, none⟩
theorem Kept.refl (w : World) (N : NS) : Kept w w N := ⟨Nat.le_refl _, fun _ _ _ => rfl⟩
theorem Kept.blocks {w w' : World} {N : NS} (hs : w.heap.size ≤ w'.heap.size) (h : ∀ b o, N b o → w'.heap[b]? = w.heap[b]?) : Kept w w' N := ⟨hs, fun b o hb => World.cell?_of_block (h b o hb)⟩
theorem Kept.sub {w w' : World} {N N' : NS} (h : Kept w w' N) (hN : ∀ b o, N' b o → N b o) : Kept w w' N' := ⟨h.1, fun b o hb => h.2 b o (hN b o hb)⟩
theorem Fz.mono {tb : Tab T} {w w' : World} {N N' : NS} (hw : Kept w w' N) (hN : ∀ b o, N b o → N' b o) {V : Val T} {v : Value}
  (h : Fz tb w N V v) : Fz tb w' N' V v := by
 induction h with
 | int h => exact .int h
 | bool => exact .bool
 | str h => exact .str h
 | nil => exact .nil
 | ifc h1 h2 => exact .ifc h1 h2
 | @lst e xs A n c b o vs h1 h2 h3 h4 h4' h5 h6 ih =>
  refine .lst (b := b) (o := o) vs h1 h2 h3 (fun hn => ⟨(h4 hn).1, Nat.lt_of_lt_of_le (h4 hn).2 hw.1⟩) (fun i j hi hj => hN _ _ (h4' i j hi hj)) (fun i j hi hj => ?_) ih
  rw [← h5 i j hi hj]
  exact hw.2 b _ (h4' i j hi hj)
 | @adr cs off b o vs h1 h2 h3 ih =>
  refine .adr vs (fun j hj => hN _ _ (h1 j hj)) (fun j hj => ?_) ih
  rw [← h2 j hj]
  exact hw.2 b _ (h1 j hj)
 | clo h1 h2 h3 h4 ih1 ih2 => exact .clo h1 h2 ih1 ih2
 | agg h1 h2 ih => exact .agg h1 ih
inductive Sim : Val T → Val T → Prop
 | rfl {v} : Sim v v
 | nil {e} : Sim (.lst e []) .nil
theorem Fz.sim {tb : Tab T} {w : World} {N : NS} {a b : Val T} {v : Value} (hs : Sim a b) (h : Fz tb w N b v) : Fz tb w N a v := by
 cases hs with
 | rfl => exact h
 | nil =>
  cases h
  exact .lst (b := 0) (o := 0) (fun _ _ => undef) rfl (Nat.le_refl _) (by omega) (by omega) (by omega) (by omega) (fun i j x V hx => by simp at hx)
def SimL (cs ds : List (Val T)) : Prop := cs.length = ds.length ∧ ∀ (j : Nat) c d, cs[j]? = some c → ds[j]? = some d → Sim c d
inductive Rep (tb : Tab T) (w : World) (N : NS) (h : Nat → Value) (ob : List (Obj' T)) : Val T → Value → Prop
 | junk {v} : Rep tb w N h ob .junk v
 | fz {V v} : Fz tb w N V v → Rep tb w N h ob V v
 | agg {cs} {vs : Array Value} : vs.size = cs.length → (∀ j V, cs[j]? = some V → Rep tb w N h ob V (vs.getD j undef)) → Rep tb w N h ob (.agg cs) (.agg vs)
 | tup {cs} {vs : Array Value} : vs.size = cs.length → (∀ j V, cs[j]? = some V → Rep tb w N h ob V (vs.getD j undef)) → Rep tb w N h ob (.tup cs) (.tuple vs)
 | clo {f first caps} {fv cv : Array Value} : fv.size = first.length → cv.size = caps.length →
   (∀ j V, first[j]? = some V → Rep tb w N h ob V (fv.getD j undef)) → (∀ j V, caps[j]? = some V → Rep tb w N h ob V (cv.getD j undef)) →
   Rep tb w N h ob (.clo f first caps) (.func (.func f) fv cv)
 | mref {key ver v} : ver ≤ (getO ob key).ver → (∃ b, v = .map (some b)) → (∀ kt vt kvs, getO ob key = ⟨ver, .mp kt vt kvs⟩ → v = h key) → Rep tb w N h ob (.mref key ver) v
 | ptr {key ver off v} : ver ≤ (getO ob key).ver → (∃ a, v = .pointer (some a)) → (∀ fz cs, getO ob key = ⟨ver, .box fz cs⟩ → ∃ b, h key = .pointer (some ⟨b, 0, none⟩) ∧ v = .pointer (some ⟨b, off, none⟩)) →
   Rep tb w N h ob (.ptr key ver off) v
 | own {key ver v} : ver ≤ (getO ob key).ver → (∃ A n c, v = .slice A n c) → (∀ fz e xs, getO ob key = ⟨ver, .row fz e xs⟩ → v = h key) → Rep tb w N h ob (.own key ver) v
 | rad {key ver : Nat} {i : Int} {off : Nat} {v : Value} : ver ≤ (getO ob key).ver → (∃ a, v = .pointer (some a)) → (∀ fz e xs, getO ob key = ⟨ver, .row fz e xs⟩ → ∃ g c, h key = .slice (some ⟨g, 0, none⟩) xs.length c ∧ 0 ≤ i ∧ i < xs.length ∧
   v = .pointer (some ⟨g, i.toNat * tb.size e + off, none⟩)) → Rep tb w N h ob (.rad key ver i off) v
 | ownx {key ver k0 v0 v} : ver ≤ (getO ob key).ver → (∃ A n c, v = .slice A n c) → (∀ e xs, getO ob key = ⟨ver, .rowx e xs k0 v0⟩ → v = h key) → Rep tb w N h ob (.ownx key ver k0 v0) v
 | radx {key ver : Nat} {v : Value} : ver ≤ (getO ob key).ver → (∃ a, v = .pointer (some a)) → (∀ e xs k0 v0, getO ob key = ⟨ver, .rowx e xs k0 v0⟩ → ∃ g c, h key = .slice (some ⟨g, 0, none⟩) (xs.length + 1) c ∧
   v = .pointer (some ⟨g, xs.length, none⟩)) → Rep tb w N h ob (.radx key ver) v
 | cnd {t w' e V v} : (e = true → Rep tb w N h ob V v) → (e = false → v = undef) → Rep tb w N h ob (.cnd t w' e V) v
def sameKind : Body T → Body T → Prop
 | .box _ _, .box _ _ => True
 | .row _ e xs, .row _ e' xs' => e = e' ∧ xs.length = xs'.length
 | .rowx e xs k v, .rowx e' xs' k' v' => (e = e' ∧ xs.length = xs'.length) ∧ k = k' ∧ v = v'
 | .mp .., .mp .. => True
 | _, _ => False
def Turn (ob ob' : List (Obj' T)) (h h' : Nat → Value) : Prop :=
 ∀ k, (getO ob k).ver ≤ (getO ob' k).ver ∧ ((getO ob k).ver = (getO ob' k).ver → (getO ob' k).body = .dead ∨ sameKind (getO ob k).body (getO ob' k).body ∧ h' k = h k)
theorem Turn.refl (ob : List (Obj' T)) (h : Nat → Value) : Turn ob ob h h := by
 intro k
 refine ⟨Nat.le_refl _, fun _ => ?_⟩
 cases hb : (getO ob k).body with
 | dead => exact .inl rfl
 | box => exact .inr ⟨trivial, rfl⟩
 | row => exact .inr ⟨⟨rfl, rfl⟩, rfl⟩
 | rowx => exact .inr ⟨⟨⟨rfl, rfl⟩, rfl, rfl⟩, rfl⟩
 | mp => exact .inr ⟨trivial, rfl⟩
theorem Rep.mono {tb : Tab T} {w w' : World} {N N' : NS} {h h' : Nat → Value} {ob ob' : List (Obj' T)} (hw : Kept w w' N) (hN : ∀ b o, N b o → N' b o)
  (ht : Turn ob ob' h h') {V : Val T} {v : Value} (hr : Rep tb w N h ob V v) : Rep tb w' N' h' ob' V v := by
 induction hr with
 | junk => exact .junk
 | fz h => exact .fz (h.mono hw hN)
 | agg h1 h2 ih => exact .agg h1 ih
 | tup h1 h2 ih => exact .tup h1 ih
 | clo h1 h2 h3 h4 ih1 ih2 => exact .clo h1 h2 ih1 ih2
 | @mref key ver v h1 h0 h2 =>
  refine .mref (Nat.le_trans h1 (ht key).1) h0 fun kt vt kvs hk => ?_
  have hv : (getO ob key).ver = (getO ob' key).ver := by have := (ht key).1; rw [hk] at this ⊢; exact Nat.le_antisymm this h1
  rcases (ht key).2 hv with hd | ⟨hs, hh⟩
  ·rw [hk] at hd; cases hd
  ·rw [hk] at hs hv
   cases hb : (getO ob key).body with
   | mp kt0 vt0 kvs0 =>
    rw [hh]
    refine h2 kt0 vt0 kvs0 ?_
    cases ho : getO ob key with
    | mk a b => rw [ho] at hb hv; simp only at hb hv; subst hb; subst hv; rfl
   | _ => rw [hb] at hs; exact hs.elim
 | @ptr key ver off v h1 h0 h2 =>
  refine .ptr (Nat.le_trans h1 (ht key).1) h0 fun fz cs hk => ?_
  have hv : (getO ob key).ver = (getO ob' key).ver := by have := (ht key).1; rw [hk] at this ⊢; exact Nat.le_antisymm this h1
  rcases (ht key).2 hv with hd | ⟨hs, hh⟩
  ·rw [hk] at hd; cases hd
  ·rw [hk] at hs hv
   cases hb : (getO ob key).body with
   | box fz0 cs0 =>
    rw [hh]
    refine h2 fz0 cs0 ?_
    cases ho : getO ob key with
    | mk a b => rw [ho] at hb hv; simp only at hb hv; subst hb; subst hv; rfl
   | _ => rw [hb] at hs; exact hs.elim
 | @own key ver v h1 h0 h2 =>
  refine .own (Nat.le_trans h1 (ht key).1) h0 fun fz e xs hk => ?_
  have hv : (getO ob key).ver = (getO ob' key).ver := by have := (ht key).1; rw [hk] at this ⊢; exact Nat.le_antisymm this h1
  rcases (ht key).2 hv with hd | ⟨hs, hh⟩
  ·rw [hk] at hd; cases hd
  ·rw [hk] at hs hv
   cases hb : (getO ob key).body with
   | row fz0 e0 xs0 =>
    rw [hh]
    refine h2 fz0 e0 xs0 ?_
    cases ho : getO ob key with
    | mk a b => rw [ho] at hb hv; simp only at hb hv; subst hb; subst hv; rfl
   | _ => rw [hb] at hs; exact hs.elim
 | @rad key ver i off v h1 h0 h2 =>
  refine .rad (Nat.le_trans h1 (ht key).1) h0 fun fz e xs hk => ?_
  have hv : (getO ob key).ver = (getO ob' key).ver := by have := (ht key).1; rw [hk] at this ⊢; exact Nat.le_antisymm this h1
  rcases (ht key).2 hv with hd | ⟨hs, hh⟩
  ·rw [hk] at hd; cases hd
  ·rw [hk] at hs hv
   cases hb : (getO ob key).body with
   | row fz0 e0 xs0 =>
    rw [hb] at hs
    obtain ⟨rfl, hl⟩ := hs
    rw [hh, ← hl]
    refine h2 fz0 e0 xs0 ?_
    cases ho : getO ob key with
    | mk a b => rw [ho] at hb hv; simp only at hb hv; subst hb; subst hv; rfl
   | _ => rw [hb] at hs; exact hs.elim
 | @ownx key ver k0 v0 v h1 h0 h2 =>
  refine .ownx (Nat.le_trans h1 (ht key).1) h0 fun e xs hk => ?_
  have hv : (getO ob key).ver = (getO ob' key).ver := by have := (ht key).1; rw [hk] at this ⊢; exact Nat.le_antisymm this h1
  rcases (ht key).2 hv with hd | ⟨hs, hh⟩
  ·rw [hk] at hd; cases hd
  ·rw [hk] at hs hv
   cases hb : (getO ob key).body with
   | rowx e0 xs0 k1 v1 =>
    rw [hb] at hs
    obtain ⟨_, rfl, rfl⟩ := hs
    rw [hh]
    refine h2 e0 xs0 ?_
    cases ho : getO ob key with
    | mk a b => rw [ho] at hb hv; simp only at hb hv; subst hb; subst hv; rfl
   | _ => rw [hb] at hs; exact hs.elim
 | @radx key ver v h1 h0 h2 =>
  refine .radx (Nat.le_trans h1 (ht key).1) h0 fun e xs k0 v0 hk => ?_
  have hv : (getO ob key).ver = (getO ob' key).ver := by have := (ht key).1; rw [hk] at this ⊢; exact Nat.le_antisymm this h1
  rcases (ht key).2 hv with hd | ⟨hs, hh⟩
  ·rw [hk] at hd; cases hd
  ·rw [hk] at hs hv
   cases hb : (getO ob key).body with
   | rowx e0 xs0 k1 v1 =>
    rw [hb] at hs
    obtain ⟨⟨rfl, hl⟩, rfl, rfl⟩ := hs
    rw [hh, ← hl]
    refine h2 e0 xs0 k1 v1 ?_
    cases ho : getO ob key with
    | mk a b => rw [ho] at hb hv; simp only at hb hv; subst hb; subst hv; rfl
   | _ => rw [hb] at hs; exact hs.elim
 | cnd h1 h2 ih => exact .cnd ih h2
def FzL (tb : Tab T) (w : World) (N : NS) (cs : List (Val T)) (vs : List Value) : Prop :=
 vs.length = cs.length ∧ ∀ (j : Nat) V v, cs[j]? = some V → vs[j]? = some v → Fz tb w N V v
theorem FzL.mono {tb : Tab T} {w w' : World} {N N' : NS} (hw : Kept w w' N) (hN : ∀ b o, N b o → N' b o) {cs : List (Val T)} {vs : List Value}
  (h : FzL tb w N cs vs) : FzL tb w' N' cs vs := ⟨h.1, fun j V v h1 h2 => (h.2 j V v h1 h2).mono hw hN⟩
theorem FzL.append {tb : Tab T} {w : World} {N : NS} {cs ds : List (Val T)} {vs us : List Value} (h : FzL tb w N cs vs) (k : FzL tb w N ds us) : FzL tb w N (cs ++ ds) (vs ++ us) := by
 refine ⟨by simp [h.1, k.1], fun j V v h1 h2 => ?_⟩
 rw [List.getElem?_append] at h1 h2
 rw [h.1] at h2
 split at h1
 ·rw [if_pos (by assumption)] at h2; exact h.2 j V v h1 h2
 ·rw [if_neg (by assumption)] at h2; exact k.2 _ V v h1 h2
def flat (tb : Tab T) (e : Nat) (xs : List (T e)) : List (Val T) := xs.flatMap (tb.cells e)
def blk : Value → Option Nat
 | .pointer (some a) => some a.block
 | .slice (some a) _ _ => some a.block
 | .map (some b) => some b
 | _ => none
theorem blk_own (v : Value) (h : ∃ A n c, v = .slice A n c) : blk v = v.ownBlock := by
 obtain ⟨A, n, c, rfl⟩ := h
 cases A <;> rfl
def mutb : Body T → Bool
 | .box false _ => true
 | .row _ _ _ => true
 | .rowx .. => true
 | .mp _ _ _ => true
 | _ => false
def isRow : Body T → Bool
 | .row _ _ _ => true
 | .rowx .. => true
 | _ => false
def lim (tb : Tab T) : Body T → Nat
 | .row true e xs => xs.length * tb.size e
 | _ => 0
def Lit (tb : Tab T) (t : Nat) (x : T t) (v : Value) : Prop := ∀ (w : World) (N : NS), Fz tb w N (valT tb t x) v
def MapRep (tb : Tab T) (w : World) (hv : Value) (kt vt : Nat) (kvs : List (T kt × T vt)) : Prop :=
 ∃ b es clock, hv = .map (some b) ∧ w.heap[b]? = some (.map es clock) ∧ es.size = kvs.length ∧
  ∀ (i : Nat) k v, kvs[i]? = some (k, v) → ∃ e, es[i]? = some e ∧ Lit tb kt k e.key ∧ Lit tb vt v e.val
def BodyRep (tb : Tab T) (w : World) (N : NS) (h : Nat → Value) (ob : List (Obj' T)) (hv : Value) : Body T → Prop
 | .dead => True
 | .box false cs => ∃ b e, ∃ cv : Array Value, hv = .pointer (some ⟨b, 0, none⟩) ∧ w.heap[b]? = some (.cells cv e (0, 0)) ∧ cv.size = cs.length ∧ ∀ j V, cs[j]? = some V → Rep tb w N h ob V (cv.getD j undef)
 | .box true cs => ∃ b, ∃ vs : Nat → Value, hv = .pointer (some ⟨b, 0, none⟩) ∧ (∀ j, j < cs.length → N b j) ∧ (∀ j, j < cs.length → w.cell? ⟨b, j, none⟩ = some (vs j)) ∧ ∀ j V, cs[j]? = some V → Rep tb w N h ob V (vs j)
 | .row fz e xs => (∃ t, tb.elem t = some e) ∧ (∃ cvs, w.ownsRow 0 e (tb.size e) hv xs.length cvs ∧ FzL tb w N (flat tb e xs) cvs) ∧ (fz = true → ∀ b o, blk hv = some b → o < xs.length * tb.size e → N b o)
 | .rowx e xs k0 v0 => (∃ t, tb.elem t = some e) ∧ tb.size e = 1 ∧ ∃ cvs hv0, w.ownsRow 0 e 1 hv (xs.length + 1) (cvs ++ [hv0]) ∧ FzL tb w N (flat tb e xs) cvs ∧ Rep tb w N h ob (.own k0 v0) hv0
 | .mp kt vt kvs => (tb.flt kt = true ∧ tb.flt vt = true) ∧ MapRep tb w hv kt vt kvs
structure GOk (tb : Tab T) (w0 : Base) : Prop where
 sz : tb.gl ≤ w0.w.heap.size
 ok : tb.gok w0.w
 x : ∀ b, w0.X b → tb.gl ≤ b
structure Mem (tb : Tab T) (w0 : Base) (w : World) (N0 N : NS) (h : Nat → Value) (ob : List (Obj' T)) : Prop where
 below : BelowX w0.X w0.w.heap.size w0.w w
 nlt : ∀ b o, N b o → b < w.heap.size
 n0 : ∀ b o, N0 b o → N b o
 n1 : ∀ b o, N b o → N0 b o ∨ w0.w.heap.size ≤ b
 objs : ∀ k, BodyRep tb w N h ob (h k) (getO ob k).body
 live : ∀ k b, mutb (getO ob k).body = true → blk (h k) = some b → (w0.w.heap.size ≤ b ∨ (w0.X b ∧ w0.n ≤ k)) ∧ (∀ o, lim tb (getO ob k).body ≤ o → ¬ N b o) ∧ b < w.heap.size
 dist : ∀ k k' b, k ≠ k' → mutb (getO ob k).body = true → mutb (getO ob k').body = true → blk (h k) = some b → blk (h k') ≠ some b
 ext : ∀ k, w0.n ≤ k → h k = w0.hx k ∧ (getO ob k).ver = 0 ∧ isRow (getO ob k).body = false
 glob : GOk tb w0
def condE (s : St T) (t : Nat) (w : Bool) : Option Bool :=
 match s.get t with
 | .bool g => some (match w with | true => g | false => !g)
 | .cnd _ _ e (.bool g) => some (e && (match w with | true => g | false => !g))
 | _ => none
structure Inv (tb : Tab T) (w0 : Base) (N0 N : NS) (h : Nat → Value) (s : St T) (a : Act) (w : World) : Prop where
 mem : Mem tb w0 w N0 N h s.ob
 dfr : a.defers = []
 sz : a.tmps.size = s.sl.length
 nn : s.sl.length ≤ w0.n
 slots : ∀ t, Rep tb w N h s.ob (s.get t) (a.tmps.getD t undef)
 cnds : ∀ x t wt e V, s.get x = .cnd t wt e V → t ∈ s.gs ∧ condE s t wt = some e
end Go.Fw
namespace Go.Fw
open Go.RowKit
variable {T : Nat → Type}
inductive Cst : Val T → Value → Prop
 | int {k n} : inR k n → Cst (.int k n) (.int k n)
 | bool {b} : Cst (.bool b) (.bool b)
 | str {s} : s.size ≤ 9223372036854775807 → Cst (.str s) (.string s)
 | nil : Cst .nil (.slice none 0 0)
 | junk {v} : Cst .junk v
def valOf : Val T → Option Value
 | .int k n => some (.int k n)
 | .bool b => some (.bool b)
 | .str s => some (.string s)
 | _ => none
structure MapOk (P : Program) (tb : Tab T) (kt vt : Nat) : Prop where
 und : ∃ d, P.underlying kt = some d
 zero : ∀ z0, zeroT tb vt = some z0 → ∃ z, (∀ w, (zeroValue vt).run P w = .ok z w) ∧ Lit tb vt z0 z
 key : ∀ x a em w, Lit tb kt x a → (Instr.checkKey em 10000 kt a).run P w = .ok () w
 eq : ∀ x k r a b w, eqT tb kt x k = some r → Lit tb kt x a → Lit tb kt k b → (Op.equal kt a b).run P w = .ok r w ∧ ∀ d r', P.underlying kt = some d → Instr.sameNow d a b = some r' → r' = r
structure TabOk (P : Program) (tb : Tab T) : Prop where
 unc : ∀ e vs x, tb.unc e vs = some x → SimL (tb.cells e x) vs
 uncp : ∀ e vs x, tb.unc e vs = some x → ∀ V ∈ tb.cells e x, V.pure1 = true
 elem : ∀ t e, tb.elem t = some e → P.underlying t = some (.slice e) ∧ (∃ i z, P.info? e = some i ∧ i.zero = some z ∧ i.size = tb.size e ∧ i.bytes = tb.bytes e ∧ z.cells.size = tb.size e) ∧
  0 < tb.size e ∧ 0 < tb.bytes e ∧ (∀ x, (tb.cells e x).length = tb.size e) ∧ ∀ x V, V ∈ tb.cells e x → V.pure1 = true
 has : ∀ t, tb.has t = true → (∃ i, P.info? t = some i ∧ i.size = tb.size t) ∧ 0 < tb.size t ∧ (∀ w, (isAgg t).run P w = .ok (tb.agg t) w)
 zero : ∀ t cs, tb.zero t = some cs → ∃ i z, P.info? t = some i ∧ i.zero = some z ∧ z.cells.size = cs.length ∧ ∀ (j : Nat) V, cs[j]? = some V → Cst V (z.cells.getD j undef)
 fld : ∀ s f o ft, tb.fld s f = some (o, ft) → ∃ fs fd, P.underlying s = some (.struct fs) ∧ fs[f]? = some fd ∧ fd.offset = o ∧ fd.type = ft ∧ tb.has ft = true
 bld : ∀ t, tb.agg t = true → ∃ pl : Nat → Option (Nat × Nat), (∀ i p, tb.part t i = some p → pl i = some p) ∧
  ∀ (parts : Array (Nat × Value)) w z out, (zeroValue t).run P w = .ok z w → Instr.fill pl z.cells parts.toList = some out → (Instr.build t parts).run P w = .ok (.agg out) w
 ikind : ∀ t k, tb.ikind t = some k → P.underlying t = some (.int k)
 eqs : ∀ t, tb.eqs t = true → ∀ cs ds a b r, tb.unc t cs = some a → tb.unc t ds = some b → eqCs cs ds = some r → ∀ (xs ys : Array Value),
  cs.map valOf = xs.toList.map some → ds.map valOf = ys.toList.map some → ∀ x y w,
   (do eqGuard .eql t x y (.agg xs) (.agg ys); binOp .eql t (.agg xs) (.agg ys) : Sem Value).run P w = .ok (.bool r) w ∧
   (do eqGuard .neq t x y (.agg xs) (.agg ys); binOp .neq t (.agg xs) (.agg ys) : Sem Value).run P w = .ok (.bool (!r)) w
 iface : ∀ t, tb.iface t = true → ∃ ms, P.underlying t = some (.interface ms)
 isStr : ∀ t, tb.isStr t = true → P.underlying t = some .string
 arr : ∀ t e n, tb.arr t = some (e, n) → P.underlying t = some (.array n e) ∧ tb.has e = true
 mp : ∀ t kt vt, tb.mp t = some (kt, vt) → P.underlying t = some (.map kt vt) ∧ tb.flt kt = true ∧ tb.flt vt = true ∧ MapOk P tb kt vt
 flt : ∀ t x V, tb.flt t = true → V ∈ tb.cells t x → V.flat1 = true
 eqS : ∀ t x y, tb.flt t = true → ∃ r, eqT tb t x y = some r
 fn : ∀ f, tb.fn f = true → ∀ args w, (callFunc f args).run P w = .ok (.enter f args) w
theorem getO_set (ob : List (Obj' T)) (k k' : Nat) (x : Obj' T) : getO (ob.set k x) k' = if k = k' ∧ k < ob.length then x else getO ob k' := by
 unfold getO
 simp only [List.getD_eq_getElem?_getD, List.getElem?_set]
 by_cases h : k = k'
 ·subst h
  by_cases hl : k < ob.length
  ·simp [hl]
  ·simp [hl]
 ·simp [h]
theorem getO_set_same {ob : List (Obj' T)} {k : Nat} {x : Obj' T} (h : k < ob.length) : getO (ob.set k x) k = x := by simp [getO_set, h]
theorem getO_set_ne {ob : List (Obj' T)} {k k' : Nat} {x : Obj' T} (h : k ≠ k') : getO (ob.set k x) k' = getO ob k' := by simp [getO_set, h]
theorem getO_lt {ob : List (Obj' T)} {k ver : Nat} {bd : Body T} (h : getO ob k = ⟨ver, bd⟩) (hb : bd ≠ .dead) : k < ob.length := by
 rcases Nat.lt_or_ge k ob.length with h' | h'
 ·exact h'
 ·unfold getO at h
  rw [List.getD_eq_getElem?_getD, List.getElem?_eq_none h'] at h
  simp at h
  exact absurd h.2.symm hb
theorem flat_get (tb : Tab T) (e s : Nat) (hl : ∀ x, (tb.cells e x).length = s) : ∀ (xs : List (T e)) (i j : Nat) x V, xs[i]? = some x → (tb.cells e x)[j]? = some V →
  (flat tb e xs)[i * s + j]? = some V := by
 intro xs
 induction xs with
 | nil => intro i j x V h; simp at h
 | cons y ys ih =>
  intro i j x V hx hV
  have hf : flat tb e (y :: ys) = tb.cells e y ++ flat tb e ys := by simp [flat]
  rw [hf]
  have hj : j < s := by have := (List.getElem?_eq_some_iff.1 hV).1; rw [hl] at this; exact this
  cases i with
  | zero =>
   simp at hx
   subst hx
   rw [List.getElem?_append_left (by rw [hl]; omega)]
   simpa using hV
  | succ i =>
   simp at hx
   rw [List.getElem?_append_right (by rw [hl, Nat.succ_mul]; omega), hl]
   have := ih i j x V hx hV
   rw [← this]
   congr 1
   rw [Nat.succ_mul]; omega
theorem flat_len (tb : Tab T) (e s : Nat) (hl : ∀ x, (tb.cells e x).length = s) (xs : List (T e)) : (flat tb e xs).length = xs.length * s := by
 induction xs with
 | nil => simp [flat]
 | cons y ys ih =>
  have hf : flat tb e (y :: ys) = tb.cells e y ++ flat tb e ys := by simp [flat]
  rw [hf, List.length_append, ih, hl, List.length_cons, Nat.succ_mul]; omega
theorem flat_append (tb : Tab T) (e : Nat) (xs ys : List (T e)) : flat tb e (xs ++ ys) = flat tb e xs ++ flat tb e ys := by simp [flat]
theorem ownsRow_same {w w' : World} {base e size n : Nat} {v : Value} {xs : List Value} (h : w.ownsRow base e size v n xs) (hb : ∀ b, blk v = some b → w'.heap[b]? = w.heap[b]?) : w'.ownsRow base e size v n xs := by
 refine ⟨h.1, ?_⟩
 rcases h.2 with hn | ⟨g, cap, cur, rfl, h1, h2, r⟩
 ·exact .inl hn
 ·exact .inr ⟨g, cap, cur, rfl, h1, by rw [hb g rfl]; exact h2, r⟩
theorem ownsRow_blk {w : World} {base e size n : Nat} {v : Value} {xs : List Value} (h : w.ownsRow base e size v n xs) : blk v = v.ownBlock := by
 rcases h.2 with ⟨rfl, _⟩ | ⟨g, cap, cur, rfl, _⟩ <;> rfl
theorem add_at (b o j : Nat) : (⟨b, o, none⟩ : Addr).add j = ⟨b, o + j, none⟩ := by unfold Addr.add; split <;> simp_all
theorem row_cell {w : World} {e size n : Nat} {v : Value} {cvs : List Value} (h : w.ownsRow 0 e size v n cvs) {b : Nat} (hb : blk v = some b) {o : Nat} (ho : o < n * size) : w.cell? ⟨b, o, none⟩ = some (cvs.getD o undef) ∧ b < w.heap.size := by
 have hl : o < cvs.length := by rw [h.1]; exact ho
 have := h.cells (g := b) (by rw [← ownsRow_blk h]; exact hb) o cvs[o] (List.getElem?_eq_getElem hl)
 rw [add_at, Nat.zero_add] at this
 refine ⟨by rw [this, List.getD_eq_getElem?_getD, List.getElem?_eq_getElem hl]; rfl, (h.lt b (by rw [← ownsRow_blk h]; exact hb)).2⟩
theorem row_fz {P : Program} {tb : Tab T} (ok : TabOk P tb) {t e : Nat} (ht : tb.elem t = some e) {w : World} {N : NS} {v : Value} {xs : List (T e)} {cvs : List Value}
  (h : w.ownsRow 0 e (tb.size e) v xs.length cvs) (hc : FzL tb w N (flat tb e xs) cvs) (hN : ∀ b o, blk v = some b → o < xs.length * tb.size e → N b o) : Fz tb w N (.lst e xs) v := by
 obtain ⟨_, _, hs, _, hl, _⟩ := ok.elem t e ht
 rcases h.2 with ⟨rfl, hn⟩ | ⟨g, cap, cur, rfl, _, hg, hnc, hcm, hsz, htake⟩
 ·refine .lst (b := 0) (o := 0) (fun _ _ => undef) hn (Nat.le_refl _) (by omega) (by omega) (by omega) (by omega) (fun i j x V hx => ?_)
  have := (List.getElem?_eq_some_iff.1 hx).1
  omega
 ·have hlt' : ∀ i j, i < xs.length → j < tb.size e → i * tb.size e + j < xs.length * tb.size e := fun i j hi hj => by
   have : (i + 1) * tb.size e ≤ xs.length * tb.size e := Nat.mul_le_mul_right _ hi
   rw [Nat.succ_mul] at this
   omega
  refine .lst (b := g) (o := 0) (fun i j => cvs.getD (i * tb.size e + j) undef) rfl hnc (by unfold maxLen at hcm; omega) (fun _ => ⟨rfl, ?_⟩) (fun i j hi hj => hN g _ rfl (by rw [Nat.zero_add]; exact hlt' i j hi hj)) (fun i j hi hj => ?_) (fun i j x V hx hV => ?_)
  ·exact (h.lt g (by rw [← ownsRow_blk h]; rfl)).2
  ·rw [Nat.zero_add]
   exact (row_cell h (b := g) rfl (hlt' i j hi hj)).1
  ·have hf := flat_get tb e (tb.size e) hl xs i j x V hx hV
   have hlt := (List.getElem?_eq_some_iff.1 hf).1
   rw [← hc.1] at hlt
   rw [List.getD_eq_getElem?_getD, List.getElem?_eq_getElem hlt]
   exact hc.2 _ _ _ hf (List.getElem?_eq_getElem hlt)
theorem BodyRep.mono {tb : Tab T} {w w' : World} {N N' : NS} {h h' : Nat → Value} {ob ob' : List (Obj' T)} {hv : Value} {bd : Body T}
  (hw : Kept w w' N) (hb : ∀ b, mutb bd = true → blk hv = some b → w'.heap[b]? = w.heap[b]?) (hN : ∀ b o, N b o → N' b o) (ht : Turn ob ob' h h')
  (hr : BodyRep tb w N h ob hv bd) : BodyRep tb w' N' h' ob' hv bd := by
 cases bd with
 | dead => trivial
 | box fz cs =>
  cases fz with
  | false =>
   obtain ⟨b, e, cv, rfl, h2, h3, h4⟩ := hr
   exact ⟨b, e, cv, rfl, by rw [hb b rfl rfl]; exact h2, h3, fun j V hV => (h4 j V hV).mono hw hN ht⟩
  | true =>
   obtain ⟨b, vs, rfl, h1, h2, h3⟩ := hr
   exact ⟨b, vs, rfl, fun j hj => hN _ _ (h1 j hj), fun j hj => by rw [hw.2 b j (h1 j hj)]; exact h2 j hj, fun j V hV => (h3 j V hV).mono hw hN ht⟩
 | row fz e xs =>
  obtain ⟨he, ⟨cvs, h1, h2⟩, h3⟩ := hr
  exact ⟨he, ⟨cvs, ownsRow_same h1 (fun b hbk => hb b rfl hbk), h2.mono hw hN⟩, fun hf b o hbk ho => hN _ _ (h3 hf b o hbk ho)⟩
 | rowx e xs k0 v0 =>
  obtain ⟨he, hs1, cvs, hv0, h1, h2, h3⟩ := hr
  exact ⟨he, hs1, cvs, hv0, ownsRow_same h1 (fun b hbk => hb b rfl hbk), h2.mono hw hN, h3.mono hw hN ht⟩
 | mp kt vt kvs =>
  obtain ⟨hf, b, es, ck, rfl, h1, h2⟩ := hr
  exact ⟨hf, b, es, ck, rfl, by rw [hb b rfl rfl]; exact h1, h2⟩
theorem Mem.gnow {tb : Tab T} {w0 : Base} {w : World} {N0 N : NS} {h : Nat → Value} {ob : List (Obj' T)} (m : Mem tb w0 w N0 N h ob) : tb.gl ≤ w.heap.size ∧ tb.gok w :=
 ⟨Nat.le_trans m.glob.sz m.below.size, tb.gokOk _ _ (fun k hk => m.below.block k (Nat.lt_of_lt_of_le hk m.glob.sz) (fun hx => by have := m.glob.x k hx; omega)) m.glob.ok⟩
theorem Mem.gown {tb : Tab T} {w0 : Base} {w : World} {N0 N : NS} {h : Nat → Value} {ob : List (Obj' T)} (m : Mem tb w0 w N0 N h ob) {k b : Nat} (hm : mutb (getO ob k).body = true) (hb : blk (h k) = some b) : tb.gl ≤ b := by
 rcases (m.live k b hm hb).1 with h1 | ⟨h1, _⟩
 ·exact Nat.le_trans m.glob.sz h1
 ·exact m.glob.x b h1
def upd (h : Nat → Value) (k : Nat) (v : Value) : Nat → Value := fun k' => if k = k' then v else h k'
theorem Turn.bump {ob : List (Obj' T)} {h : Nat → Value} {d : Nat} (hd : d < ob.length) (bd : Body T) (v : Value) : Turn ob (ob.set d ⟨(getO ob d).ver + 1, bd⟩) h (upd h d v) := by
 intro k
 by_cases hk : d = k
 ·subst hk
  rw [getO_set_same hd]
  exact ⟨Nat.le_succ _, fun he => by simp at he⟩
 ·rw [getO_set_ne hk]
  have := Turn.refl ob h k
  refine ⟨Nat.le_refl _, fun _ => ?_⟩
  rcases this.2 rfl with h1 | h1
  ·exact .inl h1
  ·exact .inr ⟨h1.1, by simp [upd, hk]⟩
theorem Mem.new {tb : Tab T} {w0 : Base} {w w' : World} {N0 N : NS} {h : Nat → Value} {ob : List (Obj' T)} (m : Mem tb w0 w N0 N h ob) {d : Nat} (hd : d < ob.length) (hn : d < w0.n) {bd : Body T} {v : Value}
  (hb : Below w.heap.size w w') (hv : ∀ g, blk v = some g → w.heap.size ≤ g ∧ g < w'.heap.size)
  (hr : BodyRep tb w' N (upd h d v) (ob.set d ⟨(getO ob d).ver + 1, bd⟩) v bd) :
  Mem tb w0 w' N0 N (upd h d v) (ob.set d ⟨(getO ob d).ver + 1, bd⟩) := by
 have ht := Turn.bump (h := h) hd bd v
 have hbase : w0.w.heap.size ≤ w.heap.size := m.below.size
 have hK : Kept w w' N := Kept.blocks hb.size fun b o hbN => hb.block b (m.nlt b o hbN)
 refine ⟨m.below.trans ((BelowX.of hb).mono hbase (fun _ _ hx => hx)), fun b o hbN => Nat.lt_of_lt_of_le (m.nlt b o hbN) hb.size, m.n0, m.n1, fun k => ?_, fun k b hm hk => ?_, fun k k' b hne hm hm' hk => ?_, fun k hk => ?_, m.glob⟩
 ·by_cases hk : d = k
  ·subst hk
   rw [getO_set_same hd]
   simpa [upd] using hr
  ·rw [getO_set_ne hk]
   have hu : upd h d v k = h k := by simp [upd, hk]
   rw [hu]
   exact (m.objs k).mono hK (fun b hm hbk => hb.block b (m.live k b hm hbk).2.2) (fun _ _ x => x) ht
 ·by_cases hdk : d = k
  ·subst hdk
   have hu : upd h d v d = v := by simp [upd]
   rw [hu] at hk
   obtain ⟨h1, h2⟩ := hv b hk
   exact ⟨.inl (by omega), fun o _ hbN => by have := m.nlt b o hbN; omega, h2⟩
  ·rw [getO_set_ne hdk] at hm ⊢
   have hu : upd h d v k = h k := by simp [upd, hdk]
   rw [hu] at hk
   obtain ⟨h1, h2, h3⟩ := m.live k b hm hk
   exact ⟨h1, h2, Nat.lt_of_lt_of_le h3 hb.size⟩
 ·by_cases hdk : d = k
  ·subst hdk
   rw [getO_set_ne hne] at hm'
   have hu : upd h d v d = v := by simp [upd]
   have hu' : upd h d v k' = h k' := by simp [upd, hne]
   rw [hu] at hk
   rw [hu']
   intro hk'
   have := (m.live k' b hm' hk').2.2
   have := (hv b hk).1
   omega
  ·have hu : upd h d v k = h k := by simp [upd, hdk]
   rw [hu] at hk
   rw [getO_set_ne hdk] at hm
   by_cases hdk' : d = k'
   ·subst hdk'
    have hu' : upd h d v d = v := by simp [upd]
    rw [hu']
    intro hk'
    have := (m.live k b hm hk).2.2
    have := (hv b hk').1
    omega
   ·rw [getO_set_ne hdk'] at hm'
    have hu' : upd h d v k' = h k' := by simp [upd, hdk']
    rw [hu']
    exact m.dist k k' b hne hm hm' hk
 ·have hdk : d ≠ k := by omega
  rw [getO_set_ne hdk]
  have hu : upd h d v k = h k := by simp [upd, hdk]
  rw [hu]
  exact m.ext k hk
end Go.Fw
namespace Go.Fw
open Go.RowKit
variable {T : Nat → Type} {P : Program} {tb : Tab T} {w0 : Base} {w : World} {N0 N : NS} {h : Nat → Value} {ob : List (Obj' T)}
theorem Turn.trans {ob1 ob2 ob3 : List (Obj' T)} {h1 h2 h3 : Nat → Value} (a : Turn ob1 ob2 h1 h2) (b : Turn ob2 ob3 h2 h3) : Turn ob1 ob3 h1 h3 := by
 intro k
 obtain ⟨a1, a2⟩ := a k
 obtain ⟨b1, b2⟩ := b k
 refine ⟨Nat.le_trans a1 b1, fun he => ?_⟩
 have e1 : (getO ob1 k).ver = (getO ob2 k).ver := by omega
 have e2 : (getO ob2 k).ver = (getO ob3 k).ver := by omega
 rcases b2 e2 with hd | ⟨hs, hh⟩
 ·exact .inl hd
 ·rcases a2 e1 with hd | ⟨hs', hh'⟩
  ·rw [hd] at hs; exact hs.elim
  ·refine .inr ⟨?_, hh.trans hh'⟩
   cases h1 : (getO ob1 k).body <;> cases h2 : (getO ob2 k).body <;> cases h3 : (getO ob3 k).body <;> rw [h1, h2] at hs' <;> rw [h2, h3] at hs <;>
    first | trivial | exact hs.elim | exact hs'.elim | exact ⟨hs'.1.trans hs.1, hs'.2.trans hs.2⟩ | exact ⟨⟨hs'.1.1.trans hs.1.1, hs'.1.2.trans hs.1.2⟩, hs'.2.1.trans hs.2.1, hs'.2.2.trans hs.2.2⟩
theorem Turn.set {k ver : Nat} {bd bd' : Body T} (hk : getO ob k = ⟨ver, bd⟩) (hs : sameKind bd bd') : Turn ob (ob.set k ⟨ver, bd'⟩) h h := by
 intro k'
 have hlt : k < ob.length := getO_lt hk (by rintro rfl; exact hs.elim)
 by_cases he : k = k'
 ·subst he
  rw [getO_set_same hlt, hk]
  exact ⟨Nat.le_refl _, fun _ => .inr ⟨hs, rfl⟩⟩
 ·rw [getO_set_ne he]
  exact Turn.refl ob h k'
mutual
theorem Rep.hp {V : Val T} {v : Value} (hp : V.hp = true) (hr : Rep tb w N h ob V v) : Fz tb w N V v := by
 cases V with
 | agg cs =>
  cases hr with
  | fz h => exact h
  | agg a b => exact .agg a (Rep.hpL (by simpa [Val.hp] using hp) b)
 | clo f x y =>
  cases hr with
  | fz h => exact h
  | clo a b c d =>
   simp only [Val.hp, Bool.and_eq_true] at hp
   exact .clo a b (Rep.hpL hp.1 c) (Rep.hpL hp.2 d)
 | _ =>
  cases hr with
  | fz h => exact h
  | _ => simp [Val.hp] at hp
theorem Rep.hpL {cs : List (Val T)} (hp : hpL cs = true) {r : Nat → Value} (hr : ∀ (j : Nat) V, cs[j]? = some V → Rep tb w N h ob V (r j)) : ∀ (j : Nat) V, cs[j]? = some V → Fz tb w N V (r j) := by
 cases cs with
 | nil => intro j V hV; simp at hV
 | cons c cs =>
  simp only [Fw.hpL, Bool.and_eq_true] at hp
  intro j V hV
  cases j with
  | zero => simp at hV; subst hV; exact Rep.hp hp.1 (hr 0 _ rfl)
  | succ j => exact Rep.hpL hp.2 (r := fun j => r (j + 1)) (fun j V hV => hr (j + 1) V (by simpa using hV)) j V (by simpa using hV)
end
theorem Val.pure1_hp {V : Val T} (hp : V.pure1 = true) : V.hp = true := by
 cases V <;> first | rfl | exact hp | cases hp
theorem Rep.pure1 {V : Val T} {v : Value} (hp : V.pure1 = true) (hr : Rep tb w N h ob V v) : Fz tb w N V v := Rep.hp (Val.pure1_hp hp) hr
theorem Rep.own_eq {k ver : Nat} {fz : Bool} {e : Nat} {xs : List (T e)} {v : Value} (hr : Rep tb w N h ob (.own k ver) v) (hk : getO ob k = ⟨ver, .row fz e xs⟩) : v = h k := by
 cases hr with
 | fz h => cases h
 | own _ _ h2 => exact h2 _ _ _ hk
theorem Rep.ptr_eq {k ver off : Nat} {fz : Bool} {cs : List (Val T)} {v : Value} (hr : Rep tb w N h ob (.ptr k ver off) v) (hk : getO ob k = ⟨ver, .box fz cs⟩) :
  ∃ b, h k = .pointer (some ⟨b, 0, none⟩) ∧ v = .pointer (some ⟨b, off, none⟩) := by
 cases hr with
 | fz h => cases h
 | ptr _ _ h2 => exact h2 _ _ hk
theorem Mem.body (m : Mem tb w0 w N0 N h ob) {k ver : Nat} {bd : Body T} (hk : getO ob k = ⟨ver, bd⟩) : BodyRep tb w N h ob (h k) bd := by
 have := m.objs k
 rw [hk] at this
 exact this
theorem Rep.mref_eq {k ver kt vt : Nat} {kvs : List (T kt × T vt)} {v : Value} (hr : Rep tb w N h ob (.mref k ver) v) (hk : getO ob k = ⟨ver, .mp kt vt kvs⟩) : v = h k := by
 cases hr with
 | fz h => cases h
 | mref _ _ h2 => exact h2 _ _ _ hk
theorem Mem.row_fz (ok : TabOk P tb) (m : Mem tb w0 w N0 N h ob) {k ver : Nat} {fz : Bool} {e : Nat} {xs : List (T e)} (hk : getO ob k = ⟨ver, .row fz e xs⟩) {N' : NS}
  (hN : ∀ b o, N b o → N' b o) (hb : ∀ b o, blk (h k) = some b → o < xs.length * tb.size e → N' b o) : Fz tb w N' (.lst e xs) (h k) := by
 obtain ⟨⟨t, ht⟩, ⟨cvs, h1, h2⟩, _⟩ := m.body hk
 exact Fw.row_fz ok ht h1 (h2.mono (Kept.refl _ _) hN) hb
def frozenN (N : NS) (v : Value) (n : Nat) : NS := fun b o => N b o ∨ (blk v = some b ∧ o < n)
theorem frz_row (ok : TabOk P tb) (m : Mem tb w0 w N0 N h ob) {k ver : Nat} {fz : Bool} {e : Nat} {xs : List (T e)} (hk : getO ob k = ⟨ver, .row fz e xs⟩) :
  ∃ N', Mem tb w0 w N0 N' h (ob.set k ⟨ver, .row true e xs⟩) ∧ Fz tb w N' (.lst e xs) (h k) ∧ Turn ob (ob.set k ⟨ver, .row true e xs⟩) h h ∧ (∀ b o, N b o → N' b o) := by
 have hmu : mutb (getO ob k).body = true := by rw [hk]; rfl
 have hlt : k < ob.length := getO_lt hk (by simp)
 have hbase : ∀ b, blk (h k) = some b → w0.w.heap.size ≤ b := fun b hb => by
  rcases (m.live k b hmu hb).1 with h1 | ⟨_, h1⟩
  ·exact h1
  ·have := (m.ext k h1).2.2
   rw [hk] at this; cases this
 have hin : ∀ b o, blk (h k) = some b → o < xs.length * tb.size e → frozenN N (h k) (xs.length * tb.size e) b o := fun b o hb ho => .inr ⟨hb, ho⟩
 have hsub : ∀ b o, N b o → frozenN N (h k) (xs.length * tb.size e) b o := fun b o x => .inl x
 have hfz := m.row_fz ok hk hsub hin
 have ht : Turn ob (ob.set k ⟨ver, .row true e xs⟩) h h := Turn.set hk ⟨rfl, rfl⟩
 obtain ⟨he, ⟨cvs, h1, h2⟩, h3⟩ := m.body hk
 refine ⟨_, ⟨m.below, fun b o hb => ?_, fun b o hb => .inl (m.n0 b o hb), fun b o hb => ?_, fun k' => ?_, fun k' b hm' hb => ?_, fun k1 k2 b hne h1 h2 hb => ?_, fun k' hk' => ?_, m.glob⟩, hfz, ht, hsub⟩
 ·rcases hb with hb | ⟨hb, _⟩
  ·exact m.nlt b o hb
  ·exact (m.live k b hmu hb).2.2
 ·rcases hb with hb | ⟨hb, _⟩
  ·exact m.n1 b o hb
  ·exact .inr (hbase b hb)
 ·by_cases he' : k = k'
  ·subst he'; rw [getO_set_same hlt]; exact ⟨he, ⟨cvs, h1, h2.mono (Kept.refl _ _) hsub⟩, fun _ => hin⟩
  ·rw [getO_set_ne he']
   exact (m.objs k').mono (Kept.refl _ _) (fun _ _ _ => rfl) hsub ht
 ·by_cases he' : k = k'
  ·subst he'
   rw [getO_set_same hlt]
   obtain ⟨q1, q2, q3⟩ := m.live k b hmu hb
   refine ⟨.inl (hbase b hb), fun o ho hb' => ?_, q3⟩
   rw [hk] at q2
   simp only [lim] at ho
   rcases hb' with hb' | ⟨_, hb'⟩
   ·refine q2 o ?_ hb'
    cases fz <;> simp only [lim] <;> omega
   ·omega
  ·rw [getO_set_ne he'] at hm' ⊢
   obtain ⟨q1, q2, q3⟩ := m.live k' b hm' hb
   refine ⟨q1, fun o ho hb' => ?_, q3⟩
   rcases hb' with hb' | ⟨hb', _⟩
   ·exact q2 o ho hb'
   ·exact m.dist k k' b he' hmu hm' hb' hb
 ·have conv : ∀ k', mutb (getO (ob.set k ⟨ver, .row true e xs⟩) k').body = true → mutb (getO ob k').body = true := by
   intro k' hk'
   by_cases he : k = k'
   ·subst he; exact hmu
   ·rw [getO_set_ne he] at hk'; exact hk'
  exact m.dist k1 k2 b hne (conv k1 h1) (conv k2 h2) hb
 ·by_cases he : k = k'
  ·subst he
   have := (m.ext k hk').2.2
   rw [hk] at this; cases this
  ·rw [getO_set_ne he]; exact m.ext k' hk'
theorem frz1_sound (ok : TabOk P tb) (m : Mem tb w0 w N0 N h ob) {V V' : Val T} {ob' : List (Obj' T)} {v : Value} (hr : Rep tb w N h ob V v) (hf : frz1 ob V = some (V', ob')) :
  ∃ N', Mem tb w0 w N0 N' h ob' ∧ Fz tb w N' V' v ∧ Turn ob ob' h h ∧ (∀ b o, N b o → N' b o) ∧ ob'.length = ob.length := by
 have plain : ∀ {V : Val T}, Rep tb w N h ob V v → (if V.pure1 then some (V, ob) else none) = some (V', ob') →
   ∃ N', Mem tb w0 w N0 N' h ob' ∧ Fz tb w N' V' v ∧ Turn ob ob' h h ∧ (∀ b o, N b o → N' b o) ∧ ob'.length = ob.length := by
  intro V hr hf
  split at hf
  ·rename_i hp
   simp only [Option.some.injEq, Prod.mk.injEq] at hf
   obtain ⟨rfl, rfl⟩ := hf
   exact ⟨N, m, hr.pure1 hp, Turn.refl _ _, fun _ _ x => x, rfl⟩
  ·cases hf
 cases V with
 | own k ver =>
  simp only [frz1] at hf
  cases hk : getO ob k with
  | mk ver' bd =>
   rw [hk] at hf
   cases bd with
   | row fz e xs =>
    simp only at hf
    split at hf
    ·rename_i he
     subst he
     simp only [Option.some.injEq, Prod.mk.injEq] at hf
     obtain ⟨rfl, rfl⟩ := hf
     have hv := hr.own_eq hk
     subst hv
     obtain ⟨N', m', z', t', n'⟩ := frz_row ok m hk
     exact ⟨N', m', z', t', n', by simp⟩
    ·cases hf
   | _ => simp at hf
 | ptr k ver off =>
  simp only [frz1] at hf
  cases hk : getO ob k with
  | mk ver' bd =>
   rw [hk] at hf
   cases bd with
   | box fz cs =>
    cases fz with
    | false => simp at hf
    | true =>
     simp only at hf
     split at hf
     ·rename_i he
      subst he
      split at hf
      ·rename_i hp
       simp only [Option.some.injEq, Prod.mk.injEq] at hf
       obtain ⟨rfl, rfl⟩ := hf
       obtain ⟨b, hb, rfl⟩ := hr.ptr_eq hk
       have hpu : ∀ (j : Nat) V, cs[j]? = some V → V.pure1 = true := fun j V hV => List.all_eq_true.1 hp V (List.mem_of_getElem? hV)
       obtain ⟨b', vs, hb', h1, h2, h3⟩ := m.body hk
       rw [hb] at hb'
       simp only [Value.pointer.injEq, Option.some.injEq, Addr.mk.injEq, and_true] at hb'
       subst hb'
       refine ⟨N, m, ?_, Turn.refl _ _, fun _ _ x => x, rfl⟩
       have := Fz.adr (tb := tb) (w := w) (N := N) (cs := cs) (off := off) (b := b) (o := 0) vs (fun j hj => by rw [Nat.zero_add]; exact h1 j hj) (fun j hj => by rw [Nat.zero_add]; exact h2 j hj) (fun j V hV => (h3 j V hV).pure1 (hpu j V hV))
       simpa using this
      ·cases hf
     ·cases hf
   | _ => simp at hf
 | junk => exact plain hr hf
 | ifc b => exact plain hr hf
 | ownx a b c d => exact plain hr hf
 | radx k v => exact plain hr hf
 | int k n => exact plain hr hf
 | bool b => exact plain hr hf
 | str s => exact plain hr hf
 | nil => exact plain hr hf
 | lst e xs => exact plain hr hf
 | agg cs => exact plain hr hf
 | tup vs => exact plain hr hf
 | adr cs off => exact plain hr hf
 | clo f a b => exact plain hr hf
 | rad k ver i off => exact plain hr hf
 | mref k ver => exact plain hr hf
 | mpv a b c => exact plain hr hf
 | cnd t w' e V => exact plain hr hf
theorem frzL_sound (ok : TabOk P tb) : ∀ (cs : List (Val T)) {N : NS} {ob ob' : List (Obj' T)} {cs' : List (Val T)} {vs : List Value}, Mem tb w0 w N0 N h ob → vs.length = cs.length →
  (∀ (j : Nat) V v, cs[j]? = some V → vs[j]? = some v → Rep tb w N h ob V v) → frzL cs ob = some (cs', ob') →
  ∃ N', Mem tb w0 w N0 N' h ob' ∧ FzL tb w N' cs' vs ∧ Turn ob ob' h h ∧ (∀ b o, N b o → N' b o) ∧ ob'.length = ob.length := by
 intro cs
 induction cs with
 | nil =>
  intro N ob ob' cs' vs m hl _ hf
  simp only [frzL, Option.some.injEq, Prod.mk.injEq] at hf
  obtain ⟨rfl, rfl⟩ := hf
  exact ⟨N, m, ⟨hl, by simp⟩, Turn.refl _ _, fun _ _ x => x, rfl⟩
 | cons c r ih =>
  intro N ob ob' cs' vs m hl hr hf
  cases vs with
  | nil => simp at hl
  | cons v vs =>
   simp only [frzL] at hf
   cases h1 : frz1 ob c with
   | none => rw [h1] at hf; cases hf
   | some p =>
    obtain ⟨c', ob1⟩ := p
    rw [h1] at hf
    simp only at hf
    cases h2 : frzL r ob1 with
    | none => rw [h2] at hf; cases hf
    | some q =>
     obtain ⟨r', ob2⟩ := q
     rw [h2] at hf
     simp only [Option.some.injEq, Prod.mk.injEq] at hf
     obtain ⟨rfl, rfl⟩ := hf
     obtain ⟨N1, m1, z1, t1, n1, l1⟩ := frz1_sound ok m (hr 0 c v rfl rfl) h1
     obtain ⟨N2, m2, z2, t2, n2, l2⟩ := ih m1 (by simpa using hl) (fun j V u hV hu => (hr (j + 1) V u (by simpa using hV) (by simpa using hu)).mono (Kept.refl _ _) n1 t1) h2
     refine ⟨N2, m2, ⟨by simp [z2.1], fun j V u hV hu => ?_⟩, t1.trans t2, fun b o x => n2 b o (n1 b o x), by omega⟩
     cases j with
     | zero => simp at hV hu; subst hV; subst hu; exact z1.mono (Kept.refl _ _) n2
     | succ j => exact z2.2 j V u (by simpa using hV) (by simpa using hu)
theorem frz_sound (ok : TabOk P tb) (m : Mem tb w0 w N0 N h ob) {V V' : Val T} {ob' : List (Obj' T)} {v : Value} (hr : Rep tb w N h ob V v) (hf : frz ob V = some (V', ob')) :
  ∃ N', Mem tb w0 w N0 N' h ob' ∧ Fz tb w N' V' v ∧ Turn ob ob' h h ∧ (∀ b o, N b o → N' b o) ∧ ob'.length = ob.length := by
 cases V with
 | agg cs =>
  simp only [frz] at hf
  cases h1 : frzL cs ob with
  | none => rw [h1] at hf; cases hf
  | some p =>
   obtain ⟨cs', ob1⟩ := p
   rw [h1] at hf
   simp only [Option.some.injEq, Prod.mk.injEq] at hf
   obtain ⟨rfl, rfl⟩ := hf
   obtain ⟨vs, rfl, hsz, hc⟩ : ∃ vs : Array Value, v = .agg vs ∧ vs.size = cs.length ∧ ∀ (j : Nat) V, cs[j]? = some V → Rep tb w N h ob V (vs.getD j undef) := by
    cases hr with
    | fz hz => cases hz with | agg a b => exact ⟨_, rfl, a, fun j V hV => .fz (b j V hV)⟩
    | agg a b => exact ⟨_, rfl, a, b⟩
   obtain ⟨N1, m1, z1, t1, n1, l1⟩ := frzL_sound ok cs (vs := vs.toList) m (by simpa using hsz) (fun j V v hV hv => by
    have := hc j V hV
    have hv' : vs.getD j undef = v := by
     rw [Array.getElem?_toList] at hv
     simp [Array.getD_eq_getD_getElem?, hv]
    rw [hv'] at this
    exact this) h1
   refine ⟨N1, m1, .agg (by rw [hsz, ← z1.1]; simp [hsz]) (fun j V hV => ?_), t1, n1, l1⟩
   have hlt : j < vs.size := by have := (List.getElem?_eq_some_iff.1 hV).1; rw [← z1.1] at this; simpa using this
   refine z1.2 j V _ hV ?_
   rw [Array.getElem?_toList]
   simp [hlt]
 | _ => exact frz1_sound ok m hr hf
theorem frzA_sound (ok : TabOk P tb) : ∀ (cs : List (Val T)) {N : NS} {ob ob' : List (Obj' T)} {cs' : List (Val T)} {vs : List Value}, Mem tb w0 w N0 N h ob → vs.length = cs.length →
  (∀ (j : Nat) V v, cs[j]? = some V → vs[j]? = some v → Rep tb w N h ob V v) → frzA cs ob = some (cs', ob') →
  ∃ N', Mem tb w0 w N0 N' h ob' ∧ FzL tb w N' cs' vs ∧ Turn ob ob' h h ∧ (∀ b o, N b o → N' b o) ∧ ob'.length = ob.length := by
 intro cs
 induction cs with
 | nil =>
  intro N ob ob' cs' vs m hl _ hf
  simp only [frzA, Option.some.injEq, Prod.mk.injEq] at hf
  obtain ⟨rfl, rfl⟩ := hf
  exact ⟨N, m, ⟨hl, by simp⟩, Turn.refl _ _, fun _ _ x => x, rfl⟩
 | cons c r ih =>
  intro N ob ob' cs' vs m hl hr hf
  cases vs with
  | nil => simp at hl
  | cons v vs =>
   simp only [frzA] at hf
   cases h1 : frz ob c with
   | none => rw [h1] at hf; cases hf
   | some p =>
    obtain ⟨c', ob1⟩ := p
    rw [h1] at hf
    simp only at hf
    cases h2 : frzA r ob1 with
    | none => rw [h2] at hf; cases hf
    | some q =>
     obtain ⟨r', ob2⟩ := q
     rw [h2] at hf
     simp only [Option.some.injEq, Prod.mk.injEq] at hf
     obtain ⟨rfl, rfl⟩ := hf
     obtain ⟨N1, m1, z1, t1, n1, l1⟩ := frz_sound ok m (hr 0 c v rfl rfl) h1
     obtain ⟨N2, m2, z2, t2, n2, l2⟩ := ih m1 (by simpa using hl) (fun j V u hV hu => (hr (j + 1) V u (by simpa using hV) (by simpa using hu)).mono (Kept.refl _ _) n1 t1) h2
     refine ⟨N2, m2, ⟨by simp [z2.1], fun j V u hV hu => ?_⟩, t1.trans t2, fun b o x => n2 b o (n1 b o x), by omega⟩
     cases j with
     | zero => simp at hV hu; subst hV; subst hu; exact z1.mono (Kept.refl _ _) n2
     | succ j => exact z2.2 j V u (by simpa using hV) (by simpa using hu)
def All (w : World) : NS := fun b _ => b < w.heap.size
theorem Rep.ownx_eq {k ver k0 v0 : Nat} {e : Nat} {xs : List (T e)} {v : Value} (hr : Rep tb w N h ob (.ownx k ver k0 v0) v) (hk : getO ob k = ⟨ver, .rowx e xs k0 v0⟩) : v = h k := by
 cases hr with
 | fz h => cases h
 | ownx _ _ h2 => exact h2 _ _ hk
theorem rowx_list (ok : TabOk P tb) (m : Mem tb w0 w N0 N h ob) {k ver : Nat} {fz : Bool} {e e2 : Nat} {xs : List (T e)} {k0 v0 : Nat} {ys : List (T e2)} {y : T e} (hk : getO ob k = ⟨ver, .rowx e xs k0 v0⟩) (hk0 : getO ob k0 = ⟨v0, .row fz e2 ys⟩)
  (hy : tb.unc e [.lst e2 ys] = some y) {N' : NS} (hN : ∀ b o, N b o → N' b o) (hb : ∀ b o, blk (h k) = some b → N' b o) (hb0 : ∀ b o, blk (h k0) = some b → o < ys.length * tb.size e2 → N' b o) :
  ∃ cvs, w.ownsRow 0 e (tb.size e) (h k) (xs ++ [y]).length cvs ∧ FzL tb w N' (flat tb e (xs ++ [y])) cvs := by
 obtain ⟨⟨t, ht⟩, hs1, cvs, hv0, h1, h2, h3⟩ := m.body hk
 have hl := (ok.elem t e ht).2.2.2.2.1 y
 have hsim := ok.unc _ _ _ hy
 have hz := m.row_fz ok hk0 hN hb0
 have hh : hv0 = h k0 := h3.own_eq hk0
 subst hh
 refine ⟨cvs ++ [h k0], by rw [hs1, List.length_append, List.length_singleton]; exact h1, ?_⟩
 rw [flat_append]
 refine (h2.mono (Kept.refl _ _) hN).append ⟨?_, fun j V v hV hv => ?_⟩
 ·simp only [flat, List.flatMap_cons, List.flatMap_nil, List.append_nil, hl, hs1, List.length_singleton]
 ·simp only [flat, List.flatMap_cons, List.flatMap_nil, List.append_nil] at hV
  cases j with
  | zero =>
   simp only [List.getElem?_cons_zero, Option.some.injEq] at hv
   subst hv
   exact hz.sim (hsim.2 0 V _ hV rfl)
  | succ j => simp at hv
theorem lend1_sound (ok : TabOk P tb) (m : Mem tb w0 w N0 N h ob) {V V' : Val T} {v : Value} (hr : Rep tb w N h ob V v) (hf : lend1 tb ob V = some V') : Fz tb w (All w) V' v := by
 have plain : ∀ {V : Val T}, Rep tb w N h ob V v → (if V.pure1 then some V else none) = some V' → Fz tb w (All w) V' v := by
  intro V hr hf
  split at hf
  ·rename_i hp
   simp only [Option.some.injEq] at hf
   subst hf
   exact (hr.pure1 hp).mono (Kept.refl _ _) (fun b o hb => m.nlt b o hb)
  ·cases hf
 cases V with
 | own k ver =>
  simp only [lend1] at hf
  cases hk : getO ob k with
  | mk ver' bd =>
   rw [hk] at hf
   cases bd with
   | row fz e xs =>
    simp only at hf
    split at hf
    ·rename_i he
     subst he
     simp only [Option.some.injEq] at hf
     subst hf
     have hv := hr.own_eq hk
     subst hv
     exact m.row_fz ok hk (fun b o hb => m.nlt b o hb) (fun b o hb _ => (m.live k b (by rw [hk]; rfl) hb).2.2)
    ·cases hf
   | _ => simp at hf
 | ownx k ver k0 v0 =>
  simp only [lend1] at hf
  cases hk : getO ob k with
  | mk ver' bd =>
   cases hk0 : getO ob k0 with
   | mk ver2 bd2 =>
    rw [hk, hk0] at hf
    cases bd with
    | rowx e xs k1 v1 =>
     cases bd2 with
     | row fz e2 ys =>
      simp only at hf
      split at hf
      ·rename_i hc
       obtain ⟨rfl, rfl, rfl, rfl⟩ := hc
       cases hy : tb.unc e [.lst e2 ys] with
       | none => rw [hy] at hf; cases hf
       | some y =>
        rw [hy] at hf
        simp only [Option.some.injEq] at hf
        subst hf
        have hv := hr.ownx_eq hk
        subst hv
        have hlt : ∀ b o, blk (h k) = some b → All w b o := fun b o hb => (m.live k b (by rw [hk]; rfl) hb).2.2
        have hlt0 : ∀ b o, blk (h k1) = some b → o < ys.length * tb.size e2 → All w b o := fun b o hb _ => (m.live k1 b (by rw [hk0]; rfl) hb).2.2
        obtain ⟨cvs, q1, q2⟩ := rowx_list ok m hk hk0 hy (N' := All w) (fun b o hb => m.nlt b o hb) hlt hlt0
        obtain ⟨⟨t, ht⟩, _⟩ := m.body hk
        exact Fw.row_fz ok ht q1 q2 (fun b o hb _ => hlt b o hb)
      ·cases hf
     | _ => simp at hf
    | _ => simp at hf
 | mref k ver => exact plain hr hf
 | mpv a b c => exact plain hr hf
 | junk => exact plain hr hf
 | ifc b => exact plain hr hf
 | radx k v => exact plain hr hf
 | int k n => exact plain hr hf
 | bool b => exact plain hr hf
 | str s => exact plain hr hf
 | nil => exact plain hr hf
 | lst e xs => exact plain hr hf
 | agg cs => exact plain hr hf
 | tup vs => exact plain hr hf
 | adr cs off => exact plain hr hf
 | clo f a b => exact plain hr hf
 | ptr k ver off => exact plain hr hf
 | rad k ver i off => exact plain hr hf
 | cnd t w' e V => exact plain hr hf
theorem lendL_sound (ok : TabOk P tb) (m : Mem tb w0 w N0 N h ob) : ∀ (cs : List (Val T)) {cs' : List (Val T)} {vs : List Value}, vs.length = cs.length →
  (∀ (j : Nat) V v, cs[j]? = some V → vs[j]? = some v → Rep tb w N h ob V v) → lendL tb ob cs = some cs' → FzL tb w (All w) cs' vs := by
 intro cs
 induction cs with
 | nil =>
  intro cs' vs hl _ hf
  simp only [lendL, Option.some.injEq] at hf
  subst hf
  exact ⟨hl, by simp⟩
 | cons c r ih =>
  intro cs' vs hl hr hf
  cases vs with
  | nil => simp at hl
  | cons v vs =>
   simp only [lendL] at hf
   cases h1 : lend1 tb ob c with
   | none => rw [h1] at hf; cases hf
   | some c' =>
    rw [h1] at hf
    simp only at hf
    cases h2 : lendL tb ob r with
    | none => rw [h2] at hf; cases hf
    | some r' =>
     rw [h2] at hf
     simp only [Option.some.injEq] at hf
     subst hf
     have z1 := lend1_sound ok m (hr 0 c v rfl rfl) h1
     have z2 := ih (by simpa using hl) (fun j V u hV hu => hr (j + 1) V u (by simpa using hV) (by simpa using hu)) h2
     refine ⟨by simp [z2.1], fun j V u hV hu => ?_⟩
     cases j with
     | zero => simp at hV hu; subst hV; subst hu; exact z1
     | succ j => exact z2.2 j V u (by simpa using hV) (by simpa using hu)
theorem Rep.agg_inv {cs : List (Val T)} {v : Value} (hr : Rep tb w N h ob (.agg cs) v) : ∃ vs : Array Value, v = .agg vs ∧ vs.size = cs.length ∧ ∀ (j : Nat) V, cs[j]? = some V → Rep tb w N h ob V (vs.getD j undef) := by
 cases hr with
 | fz hz => cases hz with | agg a b => exact ⟨_, rfl, a, fun j V hV => .fz (b j V hV)⟩
 | agg a b => exact ⟨_, rfl, a, b⟩
theorem getD_of_toList {vs : Array Value} {j : Nat} {v : Value} (h : vs.toList[j]? = some v) : vs.getD j undef = v := by
 rw [Array.getElem?_toList] at h
 simp [Array.getD_eq_getD_getElem?, h]
theorem lend_sound (ok : TabOk P tb) (m : Mem tb w0 w N0 N h ob) {V V' : Val T} {v : Value} (hr : Rep tb w N h ob V v) (hf : lend tb ob V = some V') : Fz tb w (All w) V' v := by
 cases V with
 | agg cs =>
  simp only [lend] at hf
  cases h1 : lendL tb ob cs with
  | none => rw [h1] at hf; cases hf
  | some cs' =>
   rw [h1] at hf
   simp only [Option.some.injEq] at hf
   subst hf
   obtain ⟨vs, rfl, hsz, hc⟩ := hr.agg_inv
   have z1 := lendL_sound ok m cs (vs := vs.toList) (by simpa using hsz) (fun j V v hV hv => by rw [← getD_of_toList hv]; exact hc j V hV) h1
   refine .agg (by have := z1.1; simpa using this) (fun j V hV => ?_)
   have hlt : j < vs.size := by have := (List.getElem?_eq_some_iff.1 hV).1; rw [← z1.1] at this; simpa using this
   refine z1.2 j V _ hV ?_
   rw [Array.getElem?_toList]
   simp [hlt]
 | _ => exact lend1_sound ok m hr hf
theorem lendA_sound (ok : TabOk P tb) (m : Mem tb w0 w N0 N h ob) : ∀ (cs : List (Val T)) {cs' : List (Val T)} {vs : List Value}, vs.length = cs.length →
  (∀ (j : Nat) V v, cs[j]? = some V → vs[j]? = some v → Rep tb w N h ob V v) → lendA tb ob cs = some cs' → FzL tb w (All w) cs' vs := by
 intro cs
 induction cs with
 | nil =>
  intro cs' vs hl _ hf
  simp only [lendA, Option.some.injEq] at hf
  subst hf
  exact ⟨hl, by simp⟩
 | cons c r ih =>
  intro cs' vs hl hr hf
  cases vs with
  | nil => simp at hl
  | cons v vs =>
   simp only [lendA] at hf
   cases h1 : lend tb ob c with
   | none => rw [h1] at hf; cases hf
   | some c' =>
    rw [h1] at hf
    simp only at hf
    cases h2 : lendA tb ob r with
    | none => rw [h2] at hf; cases hf
    | some r' =>
     rw [h2] at hf
     simp only [Option.some.injEq] at hf
     subst hf
     have z1 := lend_sound ok m (hr 0 c v rfl rfl) h1
     have z2 := ih (by simpa using hl) (fun j V u hV hu => hr (j + 1) V u (by simpa using hV) (by simpa using hu)) h2
     refine ⟨by simp [z2.1], fun j V u hV hu => ?_⟩
     cases j with
     | zero => simp at hV hu; subst hV; subst hu; exact z1
     | succ j => exact z2.2 j V u (by simpa using hV) (by simpa using hu)
end Go.Fw
namespace Go.Fw
open Go.RowKit
variable {T : Nat → Type} {P : Program} {tb : Tab T} {w0 : Base} {w : World} {N0 N : NS} {h : Nat → Value} {ob : List (Obj' T)}
def OpPost (tb : Tab T) (w0 : Base) (w : World) (N0 N : NS) (h : Nat → Value) (ob : List (Obj' T)) (r : Result Next) (V : Val T) (ob' : List (Obj' T)) : Prop :=
 ∃ u w' N' h', (r = .ok (.value u) w' ∨ (r = .ok .skip w' ∧ u = undef)) ∧ Mem tb w0 w' N0 N' h' ob' ∧ Rep tb w' N' h' ob' V u ∧ Turn ob ob' h h' ∧
  (Kept w w' N) ∧ (∀ b o, N b o → N' b o) ∧ ob'.length = ob.length
theorem OpPost.same (m : Mem tb w0 w N0 N h ob) {r : Result Next} {V : Val T} {u : Value} (hr : r = .ok (.value u) w) (hV : Rep tb w N h ob V u) : OpPost tb w0 w N0 N h ob r V ob :=
 ⟨u, w, N, h, .inl hr, m, hV, Turn.refl _ _, Kept.refl _ _, fun _ _ x => x, rfl⟩
section inv
variable {v : Value}
theorem Rep.int_inv {k : IntKind} {n : Int} (hr : Rep tb w N h ob (.int k n) v) : v = .int k n ∧ inR k n := by
 cases hr with | fz hz => cases hz with | int a => exact ⟨rfl, a⟩
theorem Rep.bool_inv {b : Bool} (hr : Rep tb w N h ob (.bool b) v) : v = .bool b := by
 cases hr with | fz hz => cases hz with | bool => rfl
theorem Rep.str_inv {s : ByteArray} (hr : Rep tb w N h ob (.str s) v) : v = .string s ∧ s.size ≤ 9223372036854775807 := by
 cases hr with | fz hz => cases hz with | str a => exact ⟨rfl, a⟩
theorem Rep.nil_inv (hr : Rep tb w N h ob .nil v) : v = .slice none 0 0 := by
 cases hr with | fz hz => cases hz with | nil => rfl
theorem Rep.lst_inv {e : Nat} {xs : List (T e)} (hr : Rep tb w N h ob (.lst e xs) v) : Fz tb w N (.lst e xs) v := by
 cases hr with | fz hz => exact hz
theorem Fz.lst_inv {e : Nat} {xs : List (T e)} (hr : Fz tb w N (.lst e xs) v) : ∃ A c, v = .slice A xs.length c ∧ xs.length ≤ c ∧ c ≤ 9223372036854775807 ∧ ∃ b o, ∃ vs : Nat → Nat → Value,
  (0 < xs.length → A = some ⟨b, o, none⟩ ∧ b < w.heap.size) ∧ (∀ i j, i < xs.length → j < tb.size e → N b (o + (i * tb.size e + j))) ∧ (∀ i j, i < xs.length → j < tb.size e → w.cell? ⟨b, o + (i * tb.size e + j), none⟩ = some (vs i j)) ∧
  (∀ i j x V, xs[i]? = some x → (tb.cells e x)[j]? = some V → Fz tb w N V (vs i j)) := by
 generalize hV : (Val.lst e xs : Val T) = V at hr
 cases hr <;> simp at hV
 rename_i e' xs' A n c b o vs h1 h2 h3 h4 h4' h5 h6
 obtain ⟨rfl, hx⟩ := hV
 have hx := eq_of_heq hx
 subst hx
 subst h1
 exact ⟨A, c, rfl, h2, h3, b, o, vs, h4, h4', h5, h6⟩
theorem Rep.adr_inv {cs : List (Val T)} {off : Nat} (hr : Rep tb w N h ob (.adr cs off) v) : ∃ b o, ∃ vs : Nat → Value, v = .pointer (some ⟨b, o + off, none⟩) ∧ (∀ j, j < cs.length → N b (o + j)) ∧
  (∀ j, j < cs.length → w.cell? ⟨b, o + j, none⟩ = some (vs j)) ∧ (∀ (j : Nat) V, cs[j]? = some V → Fz tb w N V (vs j)) := by
 cases hr with | fz hz => cases hz with | adr vs a b c => exact ⟨_, _, vs, rfl, a, b, c⟩
theorem Rep.tup_inv {cs : List (Val T)} (hr : Rep tb w N h ob (.tup cs) v) : ∃ vs : Array Value, v = .tuple vs ∧ vs.size = cs.length ∧ ∀ (j : Nat) V, cs[j]? = some V → Rep tb w N h ob V (vs.getD j undef) := by
 cases hr with
 | fz hz => cases hz
 | tup a b => exact ⟨_, rfl, a, b⟩
theorem Rep.clo_inv {f : Nat} {first caps : List (Val T)} (hr : Rep tb w N h ob (.clo f first caps) v) : ∃ fv cv : Array Value, v = .func (.func f) fv cv ∧ fv.size = first.length ∧ cv.size = caps.length ∧
  (∀ (j : Nat) V, first[j]? = some V → Rep tb w N h ob V (fv.getD j undef)) ∧ (∀ (j : Nat) V, caps[j]? = some V → Rep tb w N h ob V (cv.getD j undef)) := by
 cases hr with
 | fz hz => cases hz with | clo a b c d => exact ⟨_, _, rfl, a, b, fun j V hV => .fz (c j V hV), fun j V hV => .fz (d j V hV)⟩
 | clo a b c d => exact ⟨_, _, rfl, a, b, c, d⟩
end inv
theorem res_rep (ok : TabOk P tb) (m : Mem tb w0 w N0 N h ob) {V : Val T} {v : Value} (hr : Rep tb w N h ob V v) : Rep tb w N h ob (res ob V) v := by
 cases V with
 | own k ver =>
  simp only [res]
  cases hk : getO ob k with
  | mk ver' bd =>
   cases bd with
   | row fz e xs =>
    cases fz with
    | false => exact hr
    | true =>
     simp only
     split
     ·rename_i he
      subst he
      have hv := hr.own_eq hk
      subst hv
      exact .fz (m.row_fz ok hk (fun _ _ x => x) ((m.body hk).2.2 rfl))
     ·exact .junk
   | _ => exact hr
 | _ => exact hr
theorem sliceCells {cs l : List (Val T)} {off n : Nat} (hs : slc cs off n = some l) : l.length = n ∧ ∀ j, j < n → l[j]? = cs[off + j]? := by
 unfold slc at hs
 split at hs
 ·simp only [Option.some.injEq] at hs
  subst hs
  refine ⟨by simp; omega, fun j hj => ?_⟩
  rw [List.getElem?_take, if_pos hj, List.getElem?_drop]
 ·cases hs
theorem run_loadVar (ok : TabOk P tb) {t : Nat} (ht : tb.has t = true) {cs : List (Val T)} {off : Nat} {V : Val T} (hm : mkAt (tb.agg t) (tb.size t) cs off = some V) {b o : Nat} {vs : Nat → Value}
  (hc : ∀ j, j < cs.length → w.cell? ⟨b, o + j, none⟩ = some (vs j)) (hr : ∀ (j : Nat) V, cs[j]? = some V → Rep tb w N h ob V (vs j)) :
  ∃ u, (loadVar t ⟨b, o + off, none⟩).run P w = .ok u w ∧ Rep tb w N h ob V u := by
 obtain ⟨⟨i, hi, hsz⟩, hpos, hag⟩ := ok.has t ht
 unfold mkAt at hm
 cases hs : slc cs off (tb.size t) with
 | none => rw [hs] at hm; cases hm
 | some l =>
  rw [hs] at hm
  obtain ⟨hl, hg⟩ := sliceCells hs
  have hlen : ∀ j, j < tb.size t → off + j < cs.length := fun j hj => by
   have : l[j]? = some l[j] := List.getElem?_eq_getElem (by omega)
   rw [hg j hj] at this
   exact (List.getElem?_eq_some_iff.1 this).1
  have hcell : ∀ j, j < tb.size t → w.cell? ((⟨b, o + off, none⟩ : Addr).add j) = some (vs (off + j)) := fun j hj => by
   rw [add_at, Nat.add_assoc]; exact hc _ (hlen j hj)
  have hrep : ∀ (j : Nat) V, l[j]? = some V → Rep tb w N h ob V (vs (off + j)) := fun j V hV => by
   have hj : j < tb.size t := by have := (List.getElem?_eq_some_iff.1 hV).1; omega
   rw [hg j hj] at hV
   exact hr _ V hV
  cases ha : tb.agg t with
  | true =>
   rw [ha] at hm
   simp only [mkVal, Option.some.injEq] at hm
   subst hm
   refine ⟨_, ?_, .agg (vs := ((List.range (tb.size t)).map fun j => vs (off + j)).toArray) (by simp [hl]) (fun j V hV => ?_)⟩
   ·have hlc := run_loadCells (P := P) (w := w) ⟨b, o + off, none⟩ (tb.size t) (fun j => vs (off + j)) hcell
    simp [loadVar, hag, ha, sizeOf, typeInfo, hi, hsz, hlc]
   ·have hj : j < tb.size t := by have := (List.getElem?_eq_some_iff.1 hV).1; omega
    have := hrep j V hV
    simpa [hj] using this
  | false =>
   rw [ha] at hm
   match l, hl, hm with
   | [c], hl, hm =>
    simp only [mkVal, Option.some.injEq] at hm
    subst hm
    refine ⟨vs off, ?_, by simpa using hrep 0 c rfl⟩
    have := hcell 0 (by omega)
    simp only [add_at, Nat.add_zero] at this
    simp [loadVar, hag, ha, load, Sem.run, this]
   | [], hl, hm => simp [mkVal] at hm
   | _ :: _ :: _, hl, hm => simp [mkVal] at hm
theorem cell_at {b : Nat} {cv : Array Value} {e : TypeId} {fr : Nat × Nat} (hh : w.heap[b]? = some (.cells cv e fr)) {j : Nat} (hj : j < cv.size) : w.cell? ⟨b, j, none⟩ = some (cv.getD j undef) := by
 simp [World.cell?, hh, hj]
theorem readAt_sound (ok : TabOk P tb) (m : Mem tb w0 w N0 N h ob) {t : Nat} (ht : tb.has t = true) {A V : Val T} {a : Value} (ha : Rep tb w N h ob A a) (hm : readAt tb ob (tb.agg t) (tb.size t) A = some V) :
  ∃ ad u, a = .pointer (some ad) ∧ (loadVar t ad).run P w = .ok u w ∧ Rep tb w N h ob V u := by
 cases A with
 | ptr k ver off =>
  simp only [readAt] at hm
  cases hk : getO ob k with
  | mk ver' bd =>
   rw [hk] at hm
   cases bd with
   | dead => cases hm
   | row => simp at hm
   | rowx => simp at hm
   | mp => simp at hm
   | box fz cs =>
    simp only at hm
    split at hm
    ·rename_i he
     subst he
     obtain ⟨b, hb, rfl⟩ := ha.ptr_eq hk
     have hbd := m.body hk
     cases fz with
     | false =>
      obtain ⟨b', e, cv, hb', hh, hsz, hc⟩ := hbd
      rw [hb] at hb'
      simp only [Value.pointer.injEq, Option.some.injEq, Addr.mk.injEq, and_true] at hb'
      subst hb'
      have := run_loadVar ok (N := N) (h := h) (ob := ob) ht hm (b := b) (o := 0) (vs := fun j => cv.getD j undef) (fun j hj => by rw [Nat.zero_add]; exact cell_at hh (by omega)) hc
      rw [Nat.zero_add] at this
      obtain ⟨u, h1, h2⟩ := this
      exact ⟨_, u, rfl, h1, h2⟩
     | true =>
      obtain ⟨b', vs, hb', h1, h2, h3⟩ := hbd
      rw [hb] at hb'
      simp only [Value.pointer.injEq, Option.some.injEq, Addr.mk.injEq, and_true] at hb'
      subst hb'
      have := run_loadVar ok (N := N) (h := h) (ob := ob) ht hm (b := b) (o := 0) (vs := vs) (fun j hj => by rw [Nat.zero_add]; exact h2 j hj) h3
      rw [Nat.zero_add] at this
      obtain ⟨u, h1, h2⟩ := this
      exact ⟨_, u, rfl, h1, h2⟩
    ·cases hm
 | adr cs off =>
  simp only [readAt] at hm
  obtain ⟨b, o, vs, rfl, _, h2, h3⟩ := ha.adr_inv
  obtain ⟨u, h1, h2⟩ := run_loadVar ok (N := N) (h := h) (ob := ob) ht hm (b := b) (o := o) (vs := vs) h2 (fun j V hV => .fz (h3 j V hV))
  exact ⟨_, u, rfl, h1, h2⟩
 | rad k ver i off =>
  simp only [readAt] at hm
  cases hk : getO ob k with
  | mk ver' bd =>
   rw [hk] at hm
   cases bd with
   | dead => cases hm
   | box => simp at hm
   | rowx => simp at hm
   | mp => simp at hm
   | row fz e xs =>
    cases fz with
    | true => simp at hm
    | false =>
     simp only at hm
     split at hm
     ·rename_i he
      subst he
      obtain ⟨g, c, hg, hi0, hi1, rfl⟩ : ∃ g c, h k = .slice (some ⟨g, 0, none⟩) xs.length c ∧ 0 ≤ i ∧ i < xs.length ∧ a = .pointer (some ⟨g, i.toNat * tb.size e + off, none⟩) := by
       cases ha with
       | fz hz => cases hz
       | rad _ _ h2 => exact h2 _ _ _ hk
      obtain ⟨⟨t', ht'⟩, ⟨cvs, hown, hfl⟩, _⟩ := m.body hk
      obtain ⟨_, _, _, _, hl, _⟩ := ok.elem t' e ht'
      have hin : i.toNat < xs.length := by omega
      have hx : xs[i.toNat]? = some (rdl tb e xs i) := by simp [rdl, List.getElem?_eq_getElem hin]
      have hrow : ∀ j, j < tb.size e → w.cell? ⟨g, i.toNat * tb.size e + j, none⟩ = some (cvs.getD (i.toNat * tb.size e + j) undef) ∧
        ∀ V, (tb.cells e (rdl tb e xs i))[j]? = some V → Fz tb w N V (cvs.getD (i.toNat * tb.size e + j) undef) := by
       intro j hj
       have hlt : i.toNat * tb.size e + j < cvs.length := by
        rw [hown.1]
        have : (i.toNat + 1) * tb.size e ≤ xs.length * tb.size e := Nat.mul_le_mul_right _ hin
        rw [Nat.succ_mul] at this
        omega
       refine ⟨?_, fun V hV => ?_⟩
       ·have := hown.cells (g := g) (by rw [hg]; rfl) _ _ (List.getElem?_eq_getElem hlt)
        rw [add_at, Nat.zero_add] at this
        rw [this, List.getD_eq_getElem?_getD, List.getElem?_eq_getElem hlt]
        rfl
       ·have hf := flat_get tb e (tb.size e) hl xs _ j _ V hx hV
        rw [List.getD_eq_getElem?_getD, List.getElem?_eq_getElem hlt]
        exact hfl.2 _ _ _ hf (List.getElem?_eq_getElem hlt)
      have := run_loadVar ok (N := N) (h := h) (ob := ob) ht hm (b := g) (o := i.toNat * tb.size e) (vs := fun j => cvs.getD (i.toNat * tb.size e + j) undef) (fun j hj => (hrow j (by rw [hl] at hj; exact hj)).1)
       (fun j V hV => .fz ((hrow j (by have := (List.getElem?_eq_some_iff.1 hV).1; rw [hl] at this; exact this)).2 V hV))
      obtain ⟨u, h1, h2⟩ := this
      exact ⟨_, u, rfl, h1, h2⟩
     ·cases hm
 | radx k ver =>
  simp only [readAt] at hm
  cases hk : getO ob k with
  | mk ver' bd =>
   rw [hk] at hm
   cases bd with
   | rowx e xs k0 v0 =>
    simp only at hm
    split at hm
    ·rename_i he
     subst he
     obtain ⟨g, c, hg, rfl⟩ : ∃ g c, h k = .slice (some ⟨g, 0, none⟩) (xs.length + 1) c ∧ a = .pointer (some ⟨g, xs.length, none⟩) := by
      cases ha with
      | fz hz => cases hz
      | radx _ _ h2 => exact h2 _ _ _ _ hk
     obtain ⟨⟨t', ht'⟩, hs1, cvs, hv0, hown, hfl, hr0⟩ := m.body hk
     obtain ⟨_, _, _, _, hl, _⟩ := ok.elem t' e ht'
     have hlen : cvs.length = xs.length := by rw [hfl.1, flat_len tb e (tb.size e) hl, hs1, Nat.mul_one]
     have hc := hown.cells (g := g) (by rw [hg]; rfl) xs.length hv0 (by rw [List.getElem?_append_right (by omega), hlen]; simp)
     rw [add_at, Nat.zero_add] at hc
     have := run_loadVar ok (N := N) (h := h) (ob := ob) ht hm (b := g) (o := xs.length) (vs := fun _ => hv0) (fun j hj => by
       have : j = 0 := by simpa using hj
       subst this
       exact hc) (fun j V hV => by
       cases j with
       | zero => cases hV; exact hr0
       | succ j => simp at hV)
     obtain ⟨u, h1, h2⟩ := this
     exact ⟨_, u, rfl, by simpa using h1, h2⟩
    ·cases hm
   | _ => simp at hm
 | _ => simp [readAt] at hm
end Go.Fw
namespace Go.Fw
open Go.RowKit
variable {T : Nat → Type} {P : Program} {tb : Tab T} {w0 : Base} {w : World} {N0 N : NS} {h : Nat → Value} {ob : List (Obj' T)}
theorem wrap_bounds (k : IntKind) (n : Int) : k.min ≤ k.wrap n ∧ k.wrap n ≤ k.max := by
  cases k <;> simp only [IntKind.wrap, IntKind.min, IntKind.max, IntKind.signed, IntKind.bits, Bool.true_and, Bool.false_and, if_false, if_true, Bool.false_eq_true] <;>
    first
      | (split
         · rename_i hh; have hh := of_decide_eq_true hh; constructor <;> omega
         · rename_i hh; have hh := mt decide_eq_true hh; constructor <;> omega)
      | (constructor <;> omega)
theorem inR_of_bounds {k : IntKind} {n : Int} (h0 : k.min ≤ n) (h1 : n ≤ k.max) : inR k n := by
  unfold inR
  cases k <;> simp only [IntKind.wrap, IntKind.min, IntKind.max, IntKind.signed, IntKind.bits, Bool.true_and, Bool.false_and, if_false, if_true, Bool.false_eq_true] at h0 h1 ⊢ <;>
    first
      | (split
         · rename_i hh; have hh := of_decide_eq_true hh; omega
         · rename_i hh; have hh := mt decide_eq_true hh; omega)
      | omega
theorem inR_wrap (k : IntKind) (n : Int) : inR k (k.wrap n) := inR_of_bounds (wrap_bounds k n).1 (wrap_bounds k n).2
theorem inR_bounds {k : IntKind} {n : Int} (hn : inR k n) : k.min ≤ n ∧ n ≤ k.max := by
  have := wrap_bounds k n
  unfold inR at hn
  rw [hn] at this
  exact this
theorem inR_i64 {n : Int} (h0 : -9223372036854775808 ≤ n) (h1 : n ≤ 9223372036854775807) : inR .i64 n := inR_of_bounds h0 h1
theorem inR_u8 {n : Int} (h0 : 0 ≤ n) (h1 : n ≤ 255) : inR .u8 n := inR_of_bounds h0 h1
theorem inR_cond {k : IntKind} {b : Bool} {m n : Int} (hm : inR k m) (hn : inR k n) : inR k (bif b then m else n) := by cases b <;> assumption
theorem inR_tmod {k : IntKind} {a b : Int} (ha : inR k a) (hb : inR k b) (hz : b ≠ 0) : inR k (a.tmod b) := by
  obtain ⟨a0, a1⟩ := inR_bounds ha
  have h1 : (a.tmod b).natAbs ≤ a.natAbs := by rw [Int.natAbs_tmod]; exact Nat.mod_le _ _
  have h2 : 0 ≤ a → 0 ≤ a.tmod b := fun h => Int.tmod_nonneg _ h
  have h3 : a ≤ 0 → a.tmod b ≤ 0 := fun h => by
    have := Int.tmod_nonneg b (show (0 : Int) ≤ -a by omega)
    rw [Int.neg_tmod] at this
    omega
  have hmin : k.min ≤ 0 := by cases k <;> decide
  have hmax : 0 ≤ k.max := by cases k <;> decide
  refine inR_of_bounds ?_ ?_
  · rcases Int.le_total 0 a with h | h
    · have := h2 h; omega
    · have := h3 h; omega
  · rcases Int.le_total 0 a with h | h
    · have := h2 h; omega
    · have := h3 h; omega
theorem run_bin_int {op : BinOp} {k : IntKind} {a b : Int} {t : TypeId} {x y : Operand} :
    (do eqGuard op t x y (.int k a) (.int k b); binOp op t (.int k a) (.int k b) : Sem Value).run P w = (binOp op t (.int k a) (.int k b)).run P w := by
  cases op <;> simp [eqGuard]
theorem binV_int (op : BinOp) (t : TypeId) {k : IntKind} {a b : Int} (ha : inR k a) (hb : inR k b) {V : Val T} (hbv : binV tb op t (.int k a) (.int k b) = (true, V)) :
    ∃ u, (binOp op t (.int k a) (.int k b)).run P w = .ok u w ∧ Rep tb w N h ob V u := by
  simp only [binV, if_true] at hbv
  cases op <;> simp only [intB, Prod.mk.injEq, Bool.false_eq_true, false_and, bne_iff_ne, ne_eq, true_and] at hbv <;> first
    | exact hbv.elim
    | (subst hbv
       refine ⟨_, by simp [binOp, Op.intArith, Op.intDiv, Op.intCmp]; rfl, ?_⟩
       first
         | exact .fz (.int (inR_wrap _ _))
         | exact .fz .bool)
    | skip
  · obtain ⟨hz, rfl⟩ := hbv
    exact ⟨.int k (k.wrap (a.tdiv b)), by simp [binOp, Op.intDiv, hz], .fz (.int (inR_wrap _ _))⟩
  · obtain ⟨hz, rfl⟩ := hbv
    exact ⟨.int k (a.tmod b), by simp [binOp, Op.intDiv, hz], .fz (.int (inR_tmod ha hb hz))⟩
end Go.Fw
namespace Go.Fw
open Go.RowKit
set_option linter.unusedVariables false
set_option linter.unusedSimpArgs false
variable {T : Nat → Type} {P : Program} {tb : Tab T} {w0 : Base} {w : World} {N0 N : NS} {h : Nat → Value} {ob : List (Obj' T)}
theorem eqCs_vals {cs ds : List (Val T)} {r : Bool} (he : eqCs cs ds = some r) {xs ys : Array Value} (hx : xs.size = cs.length) (hy : ys.size = ds.length)
  (hcx : ∀ (j : Nat) V, cs[j]? = some V → Rep tb w N h ob V (xs.getD j undef)) (hcy : ∀ (j : Nat) V, ds[j]? = some V → Rep tb w N h ob V (ys.getD j undef)) :
  cs.map valOf = xs.toList.map some ∧ ds.map valOf = ys.toList.map some := by
 have key : ∀ (cs ds : List (Val T)) r, eqCs cs ds = some r → ∀ (j : Nat) V, (cs[j]? = some V ∨ ds[j]? = some V) → ∀ v, Rep tb w N h ob V v → valOf V = some v := by
  intro cs
  induction cs with
  | nil => intro ds r he j V hV v hr; cases ds <;> simp [eqCs] at he; simp at hV
  | cons c cs ih =>
   intro ds r he j V hV v hr
   cases ds with
   | nil => simp [eqCs] at he
   | cons d ds =>
    simp only [eqCs] at he
    cases h1 : eqC c d with
    | none => rw [h1] at he; cases he
    | some a =>
     cases h2 : eqCs cs ds with
     | none => rw [h1, h2] at he; cases he
     | some b =>
      cases j with
      | zero =>
       have : V = c ∨ V = d := by simpa [eq_comm] using hV
       cases c <;> cases d <;> simp [eqC] at h1 <;> rcases this with rfl | rfl <;> first
        | (rw [hr.int_inv.1]; rfl) | (rw [hr.bool_inv]; rfl) | (rw [hr.str_inv.1]; rfl)
      | succ j => exact ih ds b h2 j V (by simpa using hV) v hr
 constructor
 ·apply List.ext_getElem?
  intro j
  rw [List.getElem?_map, List.getElem?_map]
  by_cases hj : j < cs.length
  ·have hV : cs[j]? = some cs[j] := List.getElem?_eq_getElem hj
   have := key cs ds r he j _ (.inl hV) _ (hcx j _ hV)
   rw [hV]
   simp only [Option.map_some, this]
   rw [Array.getElem?_toList]
   have hj' : j < xs.size := by omega
   simp [hj']
  ·rw [List.getElem?_eq_none (by omega), List.getElem?_eq_none (by simp; omega)]; rfl
 ·apply List.ext_getElem?
  intro j
  rw [List.getElem?_map, List.getElem?_map]
  by_cases hj : j < ds.length
  ·have hV : ds[j]? = some ds[j] := List.getElem?_eq_getElem hj
   have := key cs ds r he j _ (.inr hV) _ (hcy j _ hV)
   rw [hV]
   simp only [Option.map_some, this]
   rw [Array.getElem?_toList]
   have hj' : j < ys.size := by omega
   simp [hj']
  ·rw [List.getElem?_eq_none (by omega), List.getElem?_eq_none (by simp; omega)]; rfl
theorem binV_sound (ok : TabOk P tb) {op : BinOp} {t : TypeId} {X Y : Val T} {x y : Value} (hx : Rep tb w N h ob X x) (hy : Rep tb w N h ob Y y) (a b : Operand) {V : Val T} (hb : binV tb op t X Y = (true, V)) :
  ∃ u, (do eqGuard op t a b x y; binOp op t x y : Sem Value).run P w = .ok u w ∧ Rep tb w N h ob V u := by
 cases X with
 | int k m =>
  cases Y with
  | int k' n =>
   obtain ⟨rfl, hm⟩ := hx.int_inv
   obtain ⟨rfl, hn⟩ := hy.int_inv
   by_cases hk : k = k'
   ·subst hk
    rw [run_bin_int]
    exact binV_int op t hm hn hb
   ·simp [binV, hk] at hb
  | _ => simp [binV] at hb
 | str s =>
  cases Y with
  | str s' =>
   obtain ⟨rfl, hs⟩ := hx.str_inv
   obtain ⟨rfl, hs'⟩ := hy.str_inv
   cases op <;> simp only [binV, strB, Prod.mk.injEq, decide_eq_true_eq, Bool.false_eq_true, false_and, true_and] at hb <;> first
    | exact hb.elim
    | skip
   ·obtain ⟨hl, rfl⟩ := hb
    refine ⟨.string (s ++ s'), ?_, .fz (.str (by simpa using hl))⟩
    have hmax : IntKind.i64.max = 9223372036854775807 := by decide
    simp [eqGuard, binOp, Op.stringOp, hmax]
    omega
   ·subst hb
    exact ⟨_, by simp [eqGuard, binOp, Op.stringOp], .fz .bool⟩
   ·subst hb
    exact ⟨_, by simp [eqGuard, binOp, Op.stringOp], .fz .bool⟩
  | _ => simp [binV] at hb
 | agg cs =>
  cases Y with
  | agg ds =>
   obtain ⟨xs, rfl, hxs, hcx⟩ := hx.agg_inv
   obtain ⟨ys, rfl, hys, hcy⟩ := hy.agg_inv
   cases op <;> simp only [binV, Prod.mk.injEq, Bool.false_eq_true, false_and] at hb <;> first
    | exact hb.elim
    | skip
   all_goals
    cases he : tb.eqs t with
    | false => rw [he] at hb; simp at hb
    | true =>
     cases hq : eqCs cs ds with
     | none => rw [he, hq] at hb; simp at hb
     | some r =>
      cases hu : tb.unc t cs with
      | none => rw [he, hq, hu] at hb; simp at hb
      | some u1 =>
       cases hv : tb.unc t ds with
       | none => rw [he, hq, hu, hv] at hb; simp at hb
       | some u2 =>
        rw [he, hq, hu, hv] at hb
        simp only [Prod.mk.injEq, true_and] at hb
        subst hb
        obtain ⟨h1, h2⟩ := eqCs_vals hq hxs hys hcx hcy
        have := ok.eqs t he cs ds u1 u2 r hu hv hq xs ys h1 h2 a b w
        first
         | exact ⟨_, this.1, .fz .bool⟩
         | exact ⟨_, this.2, .fz .bool⟩
  | _ => simp [binV] at hb
 | _ => cases Y <;> simp [binV] at hb
theorem ifcV_sound (ok : TabOk P tb) {op : BinOp} {t : TypeId} {X V : Val T} {x : Value} (hx : Rep tb w N h ob X x) (a y : Operand) (hb : ifcV tb op t X y = some V) {v : Value} (hv : y = .const .nilIface → v = .nilIface) :
  ∃ u, (do eqGuard op t a y x v; binOp op t x v : Sem Value).run P w = .ok u w ∧ Rep tb w N h ob V u := by
 unfold ifcV at hb
 split at hb
 ·rename_i b
  have hv := hv rfl
  subst hv
  have hz : Fz tb w N (.ifc b) x := by cases hx with | fz hz => exact hz
  cases hi : tb.iface t with
  | false => rw [hi] at hb; simp at hb
  | true =>
   obtain ⟨ms, hu⟩ := ok.iface t hi
   cases hz with
   | ifc h1 h2 =>
    rw [hi] at hb
    cases b with
    | true =>
     obtain rfl := h1 rfl
     have he : ∀ d : Nat, (Op.equalIn (d + 1) t .nilIface .nilIface).run P w = .ok true w := fun d => by simp [Op.equalIn, run_underlying hu]
     cases op <;> simp at hb
     ·subst hb
      exact ⟨.bool true, by simp [eqGuard, binOp, Op.equal, Op.maxDepth, he 9999], .fz .bool⟩
     ·subst hb
      exact ⟨.bool false, by simp [eqGuard, binOp, Op.equal, Op.maxDepth, he 9999], .fz .bool⟩
    | false =>
     obtain ⟨tt, xx, rfl⟩ := h2 rfl
     have he : ∀ d : Nat, (Op.equalIn (d + 1) t (.iface tt xx) .nilIface).run P w = .ok false w := fun d => by simp [Op.equalIn, run_underlying hu]
     cases op <;> simp at hb
     ·subst hb
      exact ⟨.bool false, by simp [eqGuard, binOp, Op.equal, Op.maxDepth, he 9999], .fz .bool⟩
     ·subst hb
      exact ⟨.bool true, by simp [eqGuard, binOp, Op.equal, Op.maxDepth, he 9999], .fz .bool⟩
 ·cases hb
end Go.Fw
namespace Go.Fw
open Go.RowKit
set_option linter.unusedVariables false
set_option linter.unusedSimpArgs false
variable {T : Nat → Type} {P : Program} {tb : Tab T} {w0 : Base} {w : World} {N0 N : NS} {h : Nat → Value} {ob : List (Obj' T)}
theorem run_newVar (t : TypeId) (v : Value) : (newVar t v).run P w = .ok ⟨w.heap.size, 0, none⟩ (w.alloc (.cells v.cells t)) := by
 simp [newVar, Go.newRow, newObj, Sem.run]
theorem below_alloc (w : World) (o : Obj) : Below w.heap.size w (w.alloc o) := (Below.refl _ _).alloc (Nat.le_refl _) o
theorem heap_new (w : World) (o : Obj) : (w.alloc o).heap[w.heap.size]? = some o := heap_alloc_new w o
theorem post_box (m : Mem tb w0 w N0 N h ob) {d : Nat} (hd : d < ob.length) (hn : d < w0.n) {cs : List (Val T)} {cv : Array Value} {t : TypeId} (hs : cv.size = cs.length)
  (hc : ∀ (j : Nat) V, cs[j]? = some V → Rep tb w N h ob V (cv.getD j undef)) {r : Result Next} (hr : r = .ok (.value (.pointer (some ⟨w.heap.size, 0, none⟩))) (w.alloc (.cells cv t))) :
  OpPost tb w0 w N0 N h ob r (newBox ob d cs).1 (newBox ob d cs).2 := by
 have ht := Turn.bump (h := h) hd (.box false cs) (.pointer (some ⟨w.heap.size, 0, none⟩))
 have hb := below_alloc w (.cells cv t)
 have hw : Kept w (w.alloc (.cells cv t)) N := Kept.blocks hb.size fun b o hbN => hb.block b (m.nlt b o hbN)
 refine ⟨_, _, N, upd h d (.pointer (some ⟨w.heap.size, 0, none⟩)), .inl hr, m.new hd hn hb (fun g hg => ?_) ?_, ?_, ht, hw, fun _ _ x => x, by simp [newBox]⟩
 ·simp [blk] at hg
  subst hg
  exact ⟨Nat.le_refl _, by simp⟩
 ·exact ⟨w.heap.size, t, cv, rfl, heap_new w _, hs, fun j V hV => (hc j V hV).mono hw (fun _ _ x => x) ht⟩
 ·refine .ptr (by simp [newBox, getO_set_same hd]) ⟨_, rfl⟩ (fun fz cs' hk => ⟨w.heap.size, by simp [upd], rfl⟩)
theorem post_map (m : Mem tb w0 w N0 N h ob) {d : Nat} (hd : d < ob.length) (hn : d < w0.n) {kt vt : Nat} (hf : tb.flt kt = true ∧ tb.flt vt = true) {r : Result Next} (hr : r = .ok (.value (.map (some w.heap.size))) (w.alloc (.map #[] 0))) :
  OpPost tb w0 w N0 N h ob r (newMap ob d kt vt).1 (newMap ob d kt vt).2 := by
 have ht := Turn.bump (h := h) hd (.mp kt vt ([] : List (T kt × T vt))) (.map (some w.heap.size))
 have hb := below_alloc w (.map #[] 0)
 have hw : Kept w (w.alloc (.map #[] 0)) N := Kept.blocks hb.size fun b o hbN => hb.block b (m.nlt b o hbN)
 refine ⟨_, _, N, upd h d (.map (some w.heap.size)), .inl hr, m.new hd hn hb (fun g hg => ?_) ?_, ?_, ht, hw, fun _ _ x => x, by simp [newMap]⟩
 ·simp [blk] at hg
  subst hg
  exact ⟨Nat.le_refl _, by simp⟩
 ·exact ⟨hf, w.heap.size, #[], 0, rfl, heap_new w _, rfl, fun i k v hi => by simp at hi⟩
 ·refine .mref (by simp [newMap, getO_set_same hd]) ⟨_, rfl⟩ (fun _ _ _ hk => by simp [upd])
theorem post_row (m : Mem tb w0 w N0 N h ob) {d : Nat} (hd : d < ob.length) (hn : d < w0.n) {e t : Nat} (he : tb.elem t = some e) {xs : List (T e)} {v : Value} {w' : World} {cvs : List Value} (hb : Below w.heap.size w w')
  (ho : w'.ownsRow 0 e (tb.size e) v xs.length cvs) (hv : ∀ g, blk v = some g → w.heap.size ≤ g) (hf : FzL tb w N (flat tb e xs) cvs) {r : Result Next} (hr : r = .ok (.value v) w') :
  OpPost tb w0 w N0 N h ob r (newRow ob d e xs).1 (newRow ob d e xs).2 := by
 have ht := Turn.bump (h := h) hd (.row false e xs) v
 have hw : Kept w w' N := Kept.blocks hb.size fun b o hbN => hb.block b (m.nlt b o hbN)
 refine ⟨_, _, N, upd h d v, .inl hr, m.new hd hn hb (fun g hg => ⟨hv g hg, ?_⟩) ?_, ?_, ht, hw, fun _ _ x => x, by simp [newRow]⟩
 ·have := ho.lt g (by rw [← ownsRow_blk ho]; exact hg)
  exact this.2
 ·exact ⟨⟨t, he⟩, ⟨cvs, ho, hf.mono hw (fun _ _ x => x)⟩, fun hh => by cases hh⟩
 ·refine .own (by simp [newRow, getO_set_same hd]) (by rcases ho.2 with ⟨rfl, _⟩ | ⟨g, cap, cur, rfl, _⟩ <;> exact ⟨_, _, _, rfl⟩) (fun fz e' xs' hk => by simp [upd])
theorem pickA_sound {t : Nat} {wt : Bool} {X : Val T} {x : Value} (hx : Rep tb w N h ob X x) (px : ∀ e v, X = .cnd t wt e v → e = true) : Rep tb w N h ob (pickA t wt X) x := by
 cases X with
 | cnd t' w' e v =>
  simp only [pickA]
  split
  ·rename_i ht
   subst ht
   split
   ·rename_i hw
    subst hw
    cases hx with
    | fz hz => cases hz
    | cnd h1 _ => exact h1 (px e v rfl)
   ·exact .junk
  ·exact .junk
 | _ => exact hx
theorem mergeV_sound {b : Bool} {X Y : Val T} {x : Value} (hX : b = true → Rep tb w N h ob X x) (hY : b = false → Rep tb w N h ob Y x) : Rep tb w N h ob (mergeV b X Y) x := by
 unfold mergeV
 split
 ·cases b
  ·exact hY rfl
  ·exact hX rfl
 ·split
  ·rename_i hk
   subst hk
   cases b
   ·exact hY rfl
   ·exact hX rfl
  ·exact .junk
 ·cases b
  ·exact hY rfl
  ·exact hX rfl
 ·exact .junk
theorem pickV_sound {t : Nat} {b : Bool} {X Y : Val T} {x y : Value} (hx : Rep tb w N h ob X x) (hy : Rep tb w N h ob Y y)
  (px : ∀ e v, X = .cnd t true e v → b = true → e = true) (py : ∀ e v, Y = .cnd t false e v → b = false → e = true) : Rep tb w N h ob (pickV t b X Y) (if b then x else y) :=
 mergeV_sound (fun hb => by subst hb; exact pickA_sound hx (fun e v he => px e v he rfl)) (fun hb => by subst hb; exact pickA_sound hy (fun e v he => py e v he rfl))
theorem cellsV_rep {V : Val T} {cs : List (Val T)} {v : Value} (hc : cellsV V = some cs) (hr : Rep tb w N h ob V v) :
  v.cells.size = cs.length ∧ ∀ (j : Nat) W, cs[j]? = some W → Rep tb w N h ob W (v.cells.getD j undef) := by
 have one : ∀ {V : Val T} {v : Value}, Rep tb w N h ob V v → v.cells = #[v] → v.cells.size = [V].length ∧ ∀ (j : Nat) W, [V][j]? = some W → Rep tb w N h ob W (v.cells.getD j undef) := by
  intro V v hr hv
  rw [hv]
  refine ⟨rfl, fun j W hW => ?_⟩
  cases j with
  | zero => simp at hW; subst hW; exact hr
  | succ j => simp at hW
 cases V with
 | agg cs' =>
  simp only [cellsV, Option.some.injEq] at hc
  subst hc
  obtain ⟨vs, rfl, a, b⟩ := hr.agg_inv
  exact ⟨a, b⟩
 | junk => cases hc
 | tup _ => cases hc
 | cnd t w' e V => cases hc
 | mpv _ _ _ => cases hc
 | mref k ver =>
  simp only [cellsV, Option.some.injEq] at hc; subst hc
  have : ∃ b, v = .map (some b) := by cases hr with | fz hz => cases hz | mref _ h0 _ => exact h0
  obtain ⟨b, rfl⟩ := this
  exact one hr rfl
 | int k n => simp only [cellsV, Option.some.injEq] at hc; subst hc; exact one hr (by rw [hr.int_inv.1]; rfl)
 | bool b => simp only [cellsV, Option.some.injEq] at hc; subst hc; exact one hr (by rw [hr.bool_inv]; rfl)
 | str s => simp only [cellsV, Option.some.injEq] at hc; subst hc; exact one hr (by rw [hr.str_inv.1]; rfl)
 | nil => simp only [cellsV, Option.some.injEq] at hc; subst hc; exact one hr (by rw [hr.nil_inv]; rfl)
 | lst e xs =>
  simp only [cellsV, Option.some.injEq] at hc; subst hc
  obtain ⟨A, c, rfl, _⟩ := hr.lst_inv.lst_inv
  exact one hr rfl
 | adr cs' off =>
  simp only [cellsV, Option.some.injEq] at hc; subst hc
  obtain ⟨b, o, vs, rfl, _⟩ := hr.adr_inv
  exact one hr rfl
 | clo f a b =>
  simp only [cellsV, Option.some.injEq] at hc; subst hc
  obtain ⟨fv, cv, rfl, _⟩ := hr.clo_inv
  exact one hr rfl
 | ptr k ver off =>
  simp only [cellsV, Option.some.injEq] at hc; subst hc
  have : ∃ a, v = .pointer (some a) := by cases hr with | fz hz => cases hz | ptr _ h0 _ => exact h0
  obtain ⟨a, rfl⟩ := this
  exact one hr rfl
 | own k ver =>
  simp only [cellsV, Option.some.injEq] at hc; subst hc
  have : ∃ A n c, v = .slice A n c := by cases hr with | fz hz => cases hz | own _ h0 _ => exact h0
  obtain ⟨A, n, c, rfl⟩ := this
  exact one hr rfl
 | ifc b =>
  simp only [cellsV, Option.some.injEq] at hc; subst hc
  have hz : Fz tb w N (.ifc b) v := by cases hr with | fz hz => exact hz
  cases hz with
  | ifc h1 h2 => cases b with
   | true => obtain rfl := h1 rfl; exact one hr rfl
   | false => obtain ⟨t, x, rfl⟩ := h2 rfl; exact one hr rfl
 | ownx k ver k0 v0 =>
  simp only [cellsV, Option.some.injEq] at hc; subst hc
  have : ∃ A n c, v = .slice A n c := by cases hr with | fz hz => cases hz | ownx _ h0 _ => exact h0
  obtain ⟨A, n, c, rfl⟩ := this
  exact one hr rfl
 | radx k ver =>
  simp only [cellsV, Option.some.injEq] at hc; subst hc
  have : ∃ a, v = .pointer (some a) := by cases hr with | fz hz => cases hz | radx _ h0 _ => exact h0
  obtain ⟨a, rfl⟩ := this
  exact one hr rfl
 | rad k ver i off =>
  simp only [cellsV, Option.some.injEq] at hc; subst hc
  have : ∃ a, v = .pointer (some a) := by cases hr with | fz hz => cases hz | rad _ h0 _ => exact h0
  obtain ⟨a, rfl⟩ := this
  exact one hr rfl
end Go.Fw
namespace Go.Fw
open Go.RowKit
set_option linter.unusedVariables false
set_option linter.unusedSimpArgs false
variable {T : Nat → Type} {P : Program} {tb : Tab T} {w0 : Base} {w : World} {N0 N : NS} {h : Nat → Value} {ob : List (Obj' T)}
theorem splice_get {cs vs cs' : List (Val T)} {off : Nat} (hs : splice cs off vs = some cs') : cs'.length = cs.length ∧ off + vs.length ≤ cs.length ∧
  ∀ (j : Nat) V, cs'[j]? = some V → (off ≤ j ∧ j < off + vs.length ∧ vs[j - off]? = some V) ∨ ((j < off ∨ off + vs.length ≤ j) ∧ cs[j]? = some V) := by
 unfold splice at hs
 split at hs
 ·rename_i hle
  simp only [Option.some.injEq] at hs
  subst hs
  refine ⟨by simp; omega, hle, fun j V hV => ?_⟩
  rw [List.append_assoc] at hV
  by_cases h1 : j < off
  ·rw [List.getElem?_append_left (by simp; omega), List.getElem?_take, if_pos h1] at hV
   exact .inr ⟨.inl h1, hV⟩
  ·rw [List.getElem?_append_right (by simp; omega)] at hV
   simp only [List.length_take] at hV
   have hmin : min off cs.length = off := by omega
   rw [hmin] at hV
   by_cases h2 : j < off + vs.length
   ·rw [List.getElem?_append_left (by omega)] at hV
    exact .inl ⟨by omega, h2, hV⟩
   ·rw [List.getElem?_append_right (by omega), List.getElem?_drop] at hV
    refine .inr ⟨.inr (by omega), ?_⟩
    rw [← hV]; congr 1; omega
 ·cases hs
theorem run_store_block {b : Nat} {e : TypeId} {cv : Array Value} (hh : w.heap[b]? = some (.cells cv e (0, 0))) {off : Nat} {vs : List Value} (hfit : off + vs.length ≤ cv.size) (h1 : ∀ u ∈ vs, u.oneCell' = true) :
  ∃ w' : World, ∃ cv' : Array Value, (storeCells ⟨b, off, none⟩ vs).run P w = .ok () w' ∧ w'.heap[b]? = some (.cells cv' e (0, 0)) ∧ cv'.size = cv.size ∧
   (∀ j, cv'.getD j undef = if off ≤ j ∧ j < off + vs.length then vs.getD (j - off) undef else cv.getD j undef) ∧
   (∀ b', b' ≠ b → w'.heap[b']? = w.heap[b']?) ∧ w'.heap.size = w.heap.size ∧ w'.os = w.os ∧ w'.tape = w.tape ∧ w'.output = w.output := by
 have := run_storeCells_at P b off e vs 0 cv w hh (by simpa using hfit) h1
 simp only [Nat.add_zero] at this
 refine ⟨_, (cv.toList.take off ++ vs ++ cv.toList.drop (off + vs.length)).toArray, this, setRow_heap w b cv _ e _ hh, ?_, fun j => ?_, fun b' hb' => setRow_other w b b' _ hb', by simp, rfl, rfl, rfl⟩
 ·simp; omega
 ·simp only [Array.getD_eq_getD_getElem?, List.getElem?_toArray, List.append_assoc]
  by_cases h1 : j < off
  ·rw [List.getElem?_append_left (by simp; omega), List.getElem?_take, if_pos h1, if_neg (by omega), Array.getElem?_toList]
  ·rw [List.getElem?_append_right (by simp; omega)]
   simp only [List.length_take, Array.length_toList]
   have hmin : min off cv.size = off := by omega
   rw [hmin]
   by_cases h2 : j < off + vs.length
   ·rw [List.getElem?_append_left (by omega), if_pos (by omega), List.getD_eq_getElem?_getD]
   ·rw [List.getElem?_append_right (by omega), List.getElem?_drop, if_neg (by omega), Array.getElem?_toList]
    have : off + vs.length + (j - off - vs.length) = j := by omega
    rw [this]
theorem oneC_rep {V : Val T} {v : Value} (ho : oneC V = true) (hr : Rep tb w N h ob V v) : v.oneCell' = true := by
 cases V with
 | junk => cases ho
 | agg _ => cases ho
 | tup _ => cases ho
 | cnd t w' e V => cases ho
 | mpv _ _ _ => cases ho
 | mref k ver => cases hr with | fz hz => cases hz | mref _ h0 _ => obtain ⟨b, rfl⟩ := h0; rfl
 | int k n => rw [hr.int_inv.1]; rfl
 | bool b => rw [hr.bool_inv]; rfl
 | str s => rw [hr.str_inv.1]; rfl
 | nil => rw [hr.nil_inv]; rfl
 | lst e xs => obtain ⟨A, c, rfl, _⟩ := hr.lst_inv.lst_inv; rfl
 | adr cs' off => obtain ⟨b, o, vs, rfl, _⟩ := hr.adr_inv; rfl
 | clo f a b => obtain ⟨fv, cv, rfl, _⟩ := hr.clo_inv; rfl
 | ptr k ver off => cases hr with | fz hz => cases hz | ptr _ h0 _ => obtain ⟨a, rfl⟩ := h0; rfl
 | own k ver => cases hr with | fz hz => cases hz | own _ h0 _ => obtain ⟨A, n, c, rfl⟩ := h0; rfl
 | rad k ver i off => cases hr with | fz hz => cases hz | rad _ h0 _ => obtain ⟨a, rfl⟩ := h0; rfl
 | ifc b =>
  have hz : Fz tb w N (.ifc b) v := by cases hr with | fz hz => exact hz
  cases hz with
  | ifc h1 h2 => cases b with
   | true => obtain rfl := h1 rfl; rfl
   | false => obtain ⟨t, x, rfl⟩ := h2 rfl; rfl
 | ownx k ver k0 v0 => cases hr with | fz hz => cases hz | ownx _ h0 _ => obtain ⟨A, n, c, rfl⟩ := h0; rfl
 | radx k ver => cases hr with | fz hz => cases hz | radx _ h0 _ => obtain ⟨a, rfl⟩ := h0; rfl
theorem storeC_rep {t : Nat} {V : Val T} {vs : List (Val T)} {v : Value} (hs : storeC tb t V = some vs) (hr : Rep tb w N h ob V v) :
  v.cells.size = vs.length ∧ vs.length = tb.size t ∧ (∀ u ∈ v.cells.toList, u.oneCell' = true) ∧ ∀ (j : Nat) W, vs[j]? = some W → Rep tb w N h ob W (v.cells.getD j undef) := by
 unfold storeC at hs
 cases hc : cellsV V with
 | none => rw [hc] at hs; cases hs
 | some cs =>
  rw [hc] at hs
  simp only at hs
  split at hs
  ·rename_i hl
   split at hs
   ·rename_i hall
    simp only [Option.some.injEq] at hs
    subst hs
    obtain ⟨h1, h2⟩ := cellsV_rep hc hr
    refine ⟨h1, hl, fun u hu => ?_, h2⟩
    obtain ⟨j, hj, rfl⟩ := List.getElem_of_mem hu
    have hj' : j < cs.length := by simpa [h1] using hj
    have := h2 j cs[j] (List.getElem?_eq_getElem hj')
    have ho := oneC_rep (List.all_eq_true.1 hall _ (List.getElem_mem hj')) this
    simpa [show j < v.cells.size by omega] using ho
   ·cases hs
  ·cases hs
theorem Mem.stored (m : Mem tb w0 w N0 N h ob) {k ver : Nat} {bd bd' : Body T} (hk : getO ob k = ⟨ver, bd⟩) (hs : sameKind bd bd') (hm : mutb bd = true) (hl : lim tb bd = 0) (hir : isRow bd' = isRow bd) {b : Nat} (hb : blk (h k) = some b) {w' : World}
  (hother : ∀ b', b' ≠ b → w'.heap[b']? = w.heap[b']?) (hsz : w'.heap.size = w.heap.size) (hos : w'.os = w.os) (htp : w'.tape = w.tape) (hout : w'.output = w.output)
  (hr : BodyRep tb w' N h (ob.set k ⟨ver, bd'⟩) (h k) bd') : Mem tb w0 w' N0 N h (ob.set k ⟨ver, bd'⟩) ∧ Kept w w' N := by
 have hlt : k < ob.length := getO_lt hk (by rintro rfl; exact hs.elim)
 have ht := Turn.set (h := h) hk hs
 have hkb : (getO ob k).body = bd := by rw [hk]
 obtain ⟨hB, hNb, hlt'⟩ := m.live k b (by rw [hkb]; exact hm) hb
 rw [hkb] at hNb
 have hNb : ∀ o, ¬ N b o := fun o => hNb o (by omega)
 have hN : Kept w w' N := Kept.blocks (Nat.le_of_eq hsz.symm) fun b' o hb' => hother b' (by rintro rfl; exact hNb o hb')
 refine ⟨⟨m.below.trans ⟨hos, htp, hout, Nat.le_of_eq hsz.symm, fun i hi hx => hother i (by rintro rfl; rcases hB with h1 | h1 <;> first | omega | exact hx h1.1)⟩, fun b o hb => by rw [hsz]; exact m.nlt b o hb, m.n0, m.n1, fun k' => ?_, fun k' b' hm' hb' => ?_, fun k1 k2 b' hne h1 h2 hb' => ?_, fun k' hk' => ?_, m.glob⟩, hN⟩
 ·by_cases he : k = k'
  ·subst he; rw [getO_set_same hlt]; exact hr
  ·rw [getO_set_ne he]
   exact (m.objs k').mono hN (fun b' hm' hb' => hother b' (by rintro rfl; exact m.dist k k' b' he (by rw [hkb]; exact hm) hm' hb hb')) (fun _ _ x => x) ht
 ·by_cases he : k = k'
  ·subst he
   rw [hb] at hb'
   simp only [Option.some.injEq] at hb'
   subst hb'
   exact ⟨hB, fun o _ => hNb o, by rw [hsz]; exact hlt'⟩
  ·rw [getO_set_ne he] at hm' ⊢
   obtain ⟨a, b2, c⟩ := m.live k' b' hm' hb'
   exact ⟨a, b2, by rw [hsz]; exact c⟩
 ·have conv : ∀ k', mutb (getO (ob.set k ⟨ver, bd'⟩) k').body = true → mutb (getO ob k').body = true := by
   intro k' hk'
   by_cases he : k = k'
   ·subst he; rw [hkb]; exact hm
   ·rw [getO_set_ne he] at hk'; exact hk'
  exact m.dist k1 k2 b' hne (conv k1 h1) (conv k2 h2) hb'
 ·have := m.ext k' hk'
  by_cases he : k = k'
  ·subst he
   rw [hk] at this
   rw [getO_set_same hlt]
   exact ⟨this.1, this.2.1, by rw [hir]; exact this.2.2⟩
  ·rw [getO_set_ne he]; exact this
theorem store_box (ok : TabOk P tb) (m : Mem tb w0 w N0 N h ob) {t : Nat} (ht : tb.has t = true) {k ver off : Nat} {cs cs' vs : List (Val T)} {V : Val T} {a v : Value} (hk : getO ob k = ⟨ver, .box false cs⟩)
  (ha : Rep tb w N h ob (.ptr k ver off) a) (hv : Rep tb w N h ob V v) (hs : storeC tb t V = some vs) (hsp : splice cs off vs = some cs') :
  OpPost tb w0 w N0 N h ob ((do (Instr.storeAt t a v); pure Next.skip : Sem Next).run P w) .junk (ob.set k ⟨ver, .box false cs'⟩) := by
 obtain ⟨⟨i, hi, hsz⟩, hpos, _⟩ := ok.has t ht
 obtain ⟨b, hb, rfl⟩ := ha.ptr_eq hk
 obtain ⟨h1, h2, h3, h4⟩ := storeC_rep hs hv
 obtain ⟨b', e, cv, hb', hh, hcs, hc⟩ := m.body hk
 rw [hb] at hb'
 simp only [Value.pointer.injEq, Option.some.injEq, Addr.mk.injEq, and_true] at hb'
 subst hb'
 obtain ⟨s1, s2, s3⟩ := splice_get hsp
 obtain ⟨w', cv', r1, r2, r3, r4, r5, r6, r7, r8, r9⟩ := run_store_block (P := P) hh (off := off) (vs := v.cells.toList) (by simp only [Array.length_toList]; omega) h3
 have htn := Turn.set (h := h) hk (bd' := .box false cs') trivial
 have hNb : ∀ o, ¬ N b o := fun o => (m.live k b (by rw [hk]; rfl) (by rw [hb]; rfl)).2.1 o (by rw [hk]; exact Nat.zero_le _)
 have hNN : Kept w w' N := Kept.blocks (Nat.le_of_eq r6.symm) fun b' o hb' => r5 b' (by rintro rfl; exact hNb o hb')
 have hbody : BodyRep tb w' N h (ob.set k ⟨ver, .box false cs'⟩) (h k) (.box false cs') := by
  refine ⟨b, e, cv', hb, r2, by omega, fun j V hV => ?_⟩
  rw [r4]
  rcases s3 j V hV with ⟨q1, q2, q3⟩ | ⟨q1, q2⟩
  ·rw [if_pos (by simp only [Array.length_toList]; omega)]
   have := (h4 _ V q3).mono hNN (fun _ _ x => x) htn
   simpa [List.getD_eq_getElem?_getD, Array.getD_eq_getD_getElem?] using this
  ·rw [if_neg (by simp only [Array.length_toList]; omega)]
   exact (hc j V q2).mono hNN (fun _ _ x => x) htn
 obtain ⟨m', hN⟩ := m.stored hk (bd' := .box false cs') trivial rfl rfl rfl (b := b) (by rw [hb]; rfl) r5 r6 r7 r8 r9 hbody
 refine ⟨undef, w', N, h, .inr ⟨?_, rfl⟩, m', .junk, htn, hN, fun _ _ x => x, by simp⟩
 have : v.cells.size = i.size := by omega
 simp [Instr.storeAt, Instr.sureAddr, storeVar, sizeOf, typeInfo, hi, this, r1]
end Go.Fw
namespace Go.Fw
open Go.RowKit
set_option linter.unusedVariables false
set_option linter.unusedSimpArgs false
variable {T : Nat → Type} {P : Program} {tb : Tab T} {w0 : Base} {w : World} {N0 N : NS} {h : Nat → Value} {ob : List (Obj' T)}
theorem flat_idx (tb : Tab T) (e s : Nat) (hs : 0 < s) (hl : ∀ x, (tb.cells e x).length = s) (xs : List (T e)) (q : Nat) (V : Val T) (hq : (flat tb e xs)[q]? = some V) :
    ∃ x, xs[q / s]? = some x ∧ (tb.cells e x)[q % s]? = some V := by
  have hlt : q < xs.length * s := by have := (List.getElem?_eq_some_iff.1 hq).1; rwa [flat_len tb e s hl] at this
  have hi : q / s < xs.length := by rw [Nat.div_lt_iff_lt_mul hs]; exact hlt
  have hr : q % s < s := Nat.mod_lt _ hs
  refine ⟨xs[q / s], List.getElem?_eq_getElem hi, ?_⟩
  obtain ⟨W, hV⟩ : ∃ W, (tb.cells e xs[q / s])[q % s]? = some W := ⟨(tb.cells e xs[q / s])[q % s]'(by rw [hl]; exact hr), List.getElem?_eq_getElem _⟩
  have := flat_get tb e s hl xs (q / s) (q % s) _ _ (List.getElem?_eq_getElem hi) hV
  have hqq : q / s * s + q % s = q := by rw [Nat.mul_comm]; exact Nat.div_add_mod q s
  rw [hqq, hq] at this
  rw [hV, this]
theorem Fz.one {V : Val T} {v : Value} (hp : V.pure1 = true) (hz : Fz tb w N V v) : v.oneCell' = true := by
  cases hz with
  | @ifc b v h1 h2 => cases b with
    | true => rw [h1 rfl]; rfl
    | false => obtain ⟨t, x, rfl⟩ := h2 rfl; rfl
  | _ => first | rfl | (simp [Val.pure1] at hp)
def Src (tb : Tab T) (w : World) (N : NS) (e : Nat) (ys : List (T e)) (v : Value) : Prop :=
  ∃ A c, v = .slice A ys.length c ∧ (A = none → ys = []) ∧ ∀ ad, A = some ad → ∃ news : List Value, news.length = ys.length * tb.size e ∧
    (∀ (j : Nat) u, news[j]? = some u → w.cell? (ad.add j) = some u) ∧ FzL tb w N (flat tb e ys) news ∧ ∀ u ∈ news, u.oneCell' = true
theorem Src.ofFz (ok : TabOk P tb) {t e : Nat} (ht : tb.elem t = some e) {ys : List (T e)} {v : Value} (hz : Fz tb w N (.lst e ys) v) : Src tb w N e ys v := by
  obtain ⟨_, _, hs, _, hl, hp⟩ := ok.elem t e ht
  obtain ⟨A, c, rfl, _, _, b, o, vs, h1, _, h2, h3⟩ := hz.lst_inv
  refine ⟨A, c, rfl, fun hA => ?_, fun ad hA => ?_⟩
  · cases ys with
    | nil => rfl
    | cons y ys => have := (h1 (by simp)).1; rw [hA] at this; cases this
  · have key : ∀ q, q < ys.length * tb.size e → q / tb.size e < ys.length ∧ q % tb.size e < tb.size e ∧ q / tb.size e * tb.size e + q % tb.size e = q := fun q hq =>
      ⟨by rw [Nat.div_lt_iff_lt_mul hs]; exact hq, Nat.mod_lt _ hs, by rw [Nat.mul_comm]; exact Nat.div_add_mod q _⟩
    have hfz : ∀ q V, (flat tb e ys)[q]? = some V → Fz tb w N V (vs (q / tb.size e) (q % tb.size e)) := fun q V hq => by
      obtain ⟨x, hx, hV⟩ := flat_idx tb e (tb.size e) hs hl ys q V hq
      exact h3 _ _ x V hx hV
    refine ⟨(List.range (ys.length * tb.size e)).map fun q => vs (q / tb.size e) (q % tb.size e), by simp, fun j u hu => ?_, ⟨by simp [flat_len tb e _ hl], fun j V v hV hv => ?_⟩, fun u hu => ?_⟩
    · have hj : j < ys.length * tb.size e := by have := (List.getElem?_eq_some_iff.1 hu).1; simpa using this
      obtain ⟨k1, k2, k3⟩ := key j hj
      have hA' := (h1 (Nat.lt_of_le_of_lt (Nat.zero_le _) k1)).1
      rw [hA] at hA'
      simp only [Option.some.injEq] at hA'
      subst hA'
      rw [add_at]
      have := h2 _ _ k1 k2
      rw [k3] at this
      rw [this]
      simpa [hj] using hu
    · have hj : j < ys.length * tb.size e := by have := (List.getElem?_eq_some_iff.1 hV).1; rwa [flat_len tb e _ hl] at this
      have : v = vs (j / tb.size e) (j % tb.size e) := by simpa [hj] using hv.symm
      rw [this]
      exact hfz j V hV
    · obtain ⟨j, hj, rfl⟩ := List.mem_map.1 hu
      have hj' : j < (flat tb e ys).length := by rw [flat_len tb e _ hl]; simpa using hj
      have hV := List.getElem?_eq_getElem hj'
      obtain ⟨x, hx, hxV⟩ := flat_idx tb e (tb.size e) hs hl ys j _ hV
      exact Fz.one (hp x _ (List.mem_of_getElem? hxV)) (hfz j _ hV)
theorem Src.ofRow (ok : TabOk P tb) {t e : Nat} (ht : tb.elem t = some e) {ys : List (T e)} {v : Value} {cvs : List Value} (ho : w.ownsRow 0 e (tb.size e) v ys.length cvs) (hf : FzL tb w N (flat tb e ys) cvs) : Src tb w N e ys v := by
  obtain ⟨_, _, hs, _, hl, hp⟩ := ok.elem t e ht
  have hone : ∀ u ∈ cvs, u.oneCell' = true := fun u hu => by
    obtain ⟨j, hj, rfl⟩ := List.getElem_of_mem hu
    have hj' : j < (flat tb e ys).length := by rw [← hf.1]; exact hj
    have hV := List.getElem?_eq_getElem hj'
    obtain ⟨x, hx, hxV⟩ := flat_idx tb e (tb.size e) hs hl ys j _ hV
    exact Fz.one (hp x _ (List.mem_of_getElem? hxV)) (hf.2 j _ _ hV (List.getElem?_eq_getElem hj))
  rcases ho.2 with ⟨rfl, hn⟩ | ⟨g, cap, cur, rfl, _, hg, _⟩
  · refine ⟨none, 0, by rw [hn], fun _ => List.eq_nil_of_length_eq_zero hn, fun ad hA => by cases hA⟩
  · refine ⟨some ⟨g, 0, none⟩, cap, rfl, (fun hA => by cases hA), fun ad hA => ?_⟩
    simp only [Option.some.injEq] at hA
    subst hA
    exact ⟨cvs, ho.1, fun j u hu => ho.cells (g := g) rfl j u hu, hf, hone⟩
theorem lstV_src (ok : TabOk P tb) (m : Mem tb w0 w N0 N h ob) {t e : Nat} (ht : tb.elem t = some e) {k0 : Nat} {Y : Val T} {ys : List (T e)} {v : Value} (hl : lstV ob e k0 Y = some ys) (hr : Rep tb w N h ob Y v) : Src tb w N e ys v := by
  cases Y with
  | nil =>
    simp only [lstV, Option.some.injEq] at hl
    subst hl
    rw [hr.nil_inv]
    exact ⟨none, 0, rfl, fun _ => rfl, fun ad hA => by cases hA⟩
  | lst e' xs =>
    simp only [lstV] at hl
    split at hl
    · rename_i he
      subst he
      simp only [Option.some.injEq] at hl
      subst hl
      exact Src.ofFz ok ht hr.lst_inv
    · cases hl
  | own k ver =>
    simp only [lstV] at hl
    split at hl
    · cases hl
    · cases hk : getO ob k with
      | mk ver' bd =>
        rw [hk] at hl
        cases bd with
        | dead => simp at hl
        | box => simp at hl
        | mp => simp at hl
        | rowx => simp at hl
        | row fz e' xs =>
          simp only at hl
          split at hl
          · rename_i hv
            subst hv
            split at hl
            · rename_i he
              subst he
              simp only [Option.some.injEq] at hl
              subst hl
              have := hr.own_eq hk
              subst this
              obtain ⟨_, ⟨cvs, h1, h2⟩, _⟩ := m.body hk
              exact Src.ofRow ok ht h1 h2
            · cases hl
          · cases hl
  | _ => simp [lstV] at hl
theorem run_append_none (t ty e : TypeId) (i : TypeInfo) (size c : Nat) (ht : P.underlying t = some (.slice e)) (hi : P.info? e = some i) (v : Value) (n : Nat) (xs : List Value) (hown : w.ownsRow 0 e size v n xs) :
    (Builtin.append_ #[t, t] ty #[v, .slice none 0 c]).run P w = .ok v w := by
  rcases hown.2 with ⟨rfl, rfl⟩ | ⟨g, cap, cur, rfl, _, _, hnc, _⟩
  · simp [Builtin.append_, run_underlying ht, sizeOf, typeInfo, hi, Builtin.lenOf, Builtin.firstCells]
  · simp [Builtin.append_, run_underlying ht, sizeOf, typeInfo, hi, Builtin.lenOf, Builtin.firstCells, hnc, storeCells]
theorem run_app_keeps {t ty e : TypeId} {i : TypeInfo} {z : Value} {size bytes : Nat} (hu : P.underlying t = some (.slice e)) (hi : P.info? e = some i) (hz : i.zero = some z) (hsz : i.size = size) (hby : i.bytes = bytes) (hpos : 0 < size) {v : Value} {n : Nat} {xs : List Value} (ho : w.ownsRow 0 e size v n xs)
    {ad : Addr} {m c : Nat} {news : List Value} (n1 : news.length = m * size) (n2 : ∀ (j : Nat) u, news[j]? = some u → w.cell? (ad.add j) = some u) (n4 : ∀ u ∈ news, u.oneCell' = true) (h63 : n + m ≤ maxLen) (hbytes : (n + m) * bytes ≤ 140737488355328)
    {v' : Value} {w' : World} (hr : (Builtin.append_ #[t, t] ty #[v, .slice (some ad) m c]).run P w = .ok v' w') (ho' : w'.ownsRow 0 e size v' (n + m) (xs ++ news)) : ∀ g o, blk v = some g → o < n * size → w'.cell? ⟨g, o, none⟩ = w.cell? ⟨g, o, none⟩ := by
  intro g o hg hlt
  subst hsz
  subst hby
  have hold := row_cell ho hg hlt
  have hsmall : n + m ≤ 9223372036854775807 := by simp only [maxLen] at h63; omega
  rcases ho.2 with ⟨rfl, _⟩ | ⟨g', cap, cur, rfl, _, hgg, hnc, hcm, hcs, htake⟩
  · cases hg
  · simp only [blk, Option.some.injEq] at hg
    subst hg
    by_cases hroom : n + m ≤ cap
    · have hfit : n * i.size + news.length ≤ cur.size := by rw [n1, hcs, ← Nat.add_mul]; exact Nat.mul_le_mul_right _ hroom
      have h2 := run_append_room (P := P) w t ty e i hu hi g' n cap cur hgg ad m c news n1 n2 n4 hroom hfit
      rw [h2] at hr
      simp only [Result.ok.injEq] at hr
      obtain ⟨rfl, rfl⟩ := hr
      have hnew := row_cell ho' (b := g') rfl (o := o) (by rw [Nat.add_mul]; omega)
      rw [hnew.1, hold.1]
      have hl : o < xs.length := by rw [ho.1]; exact hlt
      simp only [List.getD_eq_getElem?_getD]
      rw [List.getElem?_append_left hl]
    · have holds : ∀ (j : Nat) u, xs[j]? = some u → w.cell? ((⟨g', 0, none⟩ : Addr).add j) = some u := ho.cells (g := g') rfl
      have h2 := run_append_grow (P := P) w t ty e i z hu hi hz ⟨g', 0, none⟩ n cap xs ho.1 holds ad m c news n1 n2 (by omega) (by omega) (growslice_fits (by omega) hbytes)
      rw [h2] at hr
      simp only [Result.ok.injEq] at hr
      obtain ⟨rfl, rfl⟩ := hr
      exact World.cell?_of_block (Below.heap_alloc w.drew _ _ hold.2)
theorem run_app (ok : TabOk P tb) {t e : Nat} (ht : tb.elem t = some e) (ty : TypeId) {xs ys : List (T e)} {v y : Value} {cvs : List Value} (ho : w.ownsRow 0 e (tb.size e) v xs.length cvs) (hf : FzL tb w N (flat tb e xs) cvs)
    (hs : Src tb w N e ys y) (hroom : (xs.length + ys.length) * tb.bytes e ≤ maxRoom) :
    ∃ v' w' cvs', (Builtin.append_ #[t, t] ty #[v, y]).run P w = .ok v' w' ∧ w'.ownsRow 0 e (tb.size e) v' (xs ++ ys).length cvs' ∧ FzL tb w N (flat tb e (xs ++ ys)) cvs' ∧ w.grownBy w' v.ownBlock ∧
      (∀ g, blk v' = some g → blk v = some g ∨ w.heap.size ≤ g) ∧ (∀ g o, blk v = some g → o < xs.length * tb.size e → w'.cell? ⟨g, o, none⟩ = w.cell? ⟨g, o, none⟩) := by
  obtain ⟨hu, ⟨i, z, hi, hz, hsz, hby, hzs⟩, hpos, hb, hl, _⟩ := ok.elem t e ht
  obtain ⟨A, c, rfl, hA, hsrc⟩ := hs
  cases A with
  | none =>
    have := hA rfl
    subst this
    refine ⟨v, w, cvs, run_append_none t ty e i (tb.size e) c hu hi v _ cvs ho, by simpa using ho, by simpa [flat] using hf, ⟨rfl, rfl, rfl, Nat.le_refl _, fun _ _ _ => rfl⟩, fun g hg => .inl hg, fun _ _ _ _ => rfl⟩
  | some ad =>
    obtain ⟨news, n1, n2, n3, n4⟩ := hsrc ad rfl
    have hlen : xs.length + ys.length ≤ maxLen := by
      unfold maxRoom at hroom
      have : xs.length + ys.length ≤ (xs.length + ys.length) * tb.bytes e := Nat.le_mul_of_pos_right _ hb
      unfold maxLen; omega
    obtain ⟨v', w', hr, h2, h3, h4, h5⟩ := run_append_own_at (P := P) w 0 t ty e i z (tb.size e) (tb.bytes e) hu hi hz hsz hby hzs hpos v xs.length cvs ho ad ys.length c news n1 n2 n4 hlen (by unfold maxRoom at hroom; exact hroom) (Nat.zero_le _)
    refine ⟨v', w', cvs ++ news, hr, by simpa using h2, by rw [flat_append]; exact hf.append n3, h3, fun g hg => ?_, run_app_keeps (P := P) hu hi hz hsz hby hpos ho n1 n2 n4 hlen (by unfold maxRoom at hroom; exact hroom) hr h2⟩
    rw [ownsRow_blk h2] at hg
    rw [ownsRow_blk ho]
    rcases h5 with h5 | h5
    · exact .inl (h5 ▸ hg)
    · rw [h5] at hg
      simp only [Option.some.injEq] at hg
      exact .inr (Nat.le_of_eq hg)
theorem post_app (ok : TabOk P tb) (m : Mem tb w0 w N0 N h ob) {t e : Nat} (ht : tb.elem t = some e) (ty : TypeId) {k ver : Nat} {fz : Bool} {xs ys : List (T e)} {v y : Value} (hk : getO ob k = ⟨ver, .row fz e xs⟩) (hv : v = h k)
    (hs : Src tb w N e ys y) (hroom : (xs.length + ys.length) * tb.bytes e ≤ maxRoom) :
    OpPost tb w0 w N0 N h ob ((do pure (Next.value (← Builtin.append_ #[t, t] ty #[v, y])) : Sem Next).run P w) (.own k (ver + 1)) (ob.set k ⟨ver + 1, .row fz e (xs ++ ys)⟩) := by
  subst hv
  have hlt : k < ob.length := getO_lt hk (by simp)
  have hver : (getO ob k).ver = ver := by rw [hk]
  have hmu : mutb (getO ob k).body = true := by rw [hk]; rfl
  obtain ⟨he, ⟨cvs, ho, hf⟩, hfz⟩ := m.body hk
  obtain ⟨v', w', cvs', hr, ho', hf', hg, hloc, hkeep⟩ := run_app (P := P) ok ht ty ho hf hs hroom
  have hlive := m.live k
  rw [hk] at hlive
  have hbase : ∀ b, blk (h k) = some b → w0.w.heap.size ≤ b := fun b hb => by
    rcases (hlive b rfl hb).1 with h1 | ⟨_, h1⟩
    · exact h1
    · have := (m.ext k h1).2.2
      rw [hk] at this; cases this
  have hlimle : lim tb (.row fz e xs) ≤ xs.length * tb.size e := by cases fz <;> simp [lim]
  have hN : Kept w w' N := ⟨hg.size, fun b o hb => by
    by_cases hbk : blk (h k) = some b
    · refine hkeep b o hbk ?_
      rcases Nat.lt_or_ge o (xs.length * tb.size e) with h1 | h1
      · exact h1
      · exact absurd hb ((hlive b rfl hbk).2.1 o (Nat.le_trans hlimle h1))
    · exact World.cell?_of_block (hg.block b (m.nlt b o hb) (fun heq => hbk (by rw [ownsRow_blk ho, ← heq])))⟩
  have htn : Turn ob (ob.set k ⟨ver + 1, .row fz e (xs ++ ys)⟩) h (upd h k v') := by
    have := Turn.bump (h := h) hlt (.row fz e (xs ++ ys)) v'
    rw [hver] at this
    exact this
  have hnew : ∀ g, blk v' = some g → g < w'.heap.size := fun g hgg => (ho'.lt g (by rw [← ownsRow_blk ho']; exact hgg)).2
  have hother : ∀ k' b, k ≠ k' → mutb (getO ob k').body = true → blk (h k') = some b → w'.heap[b]? = w.heap[b]? := fun k' b hne hm' hb =>
    hg.block b (m.live k' b hm' hb).2.2 (fun heq => m.dist k k' b hne hmu hm' (by rw [ownsRow_blk ho, ← heq]) hb)
  -- what is frozen now: the new row's elements, if the old ones were
  have hN' : ∃ N' : NS, (∀ b o, N b o → N' b o) ∧ (∀ b o, N' b o → N b o ∨ (fz = true ∧ blk v' = some b ∧ o < (xs ++ ys).length * tb.size e)) ∧ (fz = true → ∀ b o, blk v' = some b → o < (xs ++ ys).length * tb.size e → N' b o) :=
    ⟨fun b o => N b o ∨ (fz = true ∧ blk v' = some b ∧ o < (xs ++ ys).length * tb.size e), fun b o x => .inl x, fun b o x => x, fun hz b o hb ho => .inr ⟨hz, hb, ho⟩⟩
  obtain ⟨N', n1, n2, n3⟩ := hN'
  have hvb : ∀ g, blk v' = some g → w0.w.heap.size ≤ g := fun g hgg => by
    rcases hloc g hgg with hl | hl
    · exact hbase g hl
    · exact Nat.le_trans m.below.size hl
  have hapart : ∀ k', k ≠ k' → mutb (getO ob k').body = true → ∀ b, blk v' = some b → blk (h k') ≠ some b := fun k' hne' hm' b hb hb' => by
    rcases hloc b hb with hl | hl
    · exact m.dist k k' b hne' hmu hm' hl hb'
    · have := (m.live k' b hm' hb').2.2; omega
  refine ⟨v', w', N', upd h k v', .inl (by simp [hr]), ⟨m.below.trans ⟨hg.os, hg.tape, hg.output, hg.size, fun i hi _ => ?_⟩, fun b o hb => ?_, fun b o hb => n1 b o (m.n0 b o hb), fun b o hb => ?_, fun k' => ?_, fun k' b hm' hb => ?_, fun k1 k2 b hne h1 h2 hb => ?_, fun k' hk' => ?_, m.glob⟩,
    ?_, htn, hN, n1, by simp⟩
  · refine hg.block i (Nat.lt_of_lt_of_le hi m.below.size) (fun heq => ?_)
    have := hbase i (by rw [ownsRow_blk ho, ← heq])
    omega
  · rcases n2 b o hb with hb | ⟨_, hb, _⟩
    · exact Nat.lt_of_lt_of_le (m.nlt b o hb) hg.size
    · exact hnew b hb
  · rcases n2 b o hb with hb | ⟨_, hb, _⟩
    · exact m.n1 b o hb
    · exact .inr (hvb b hb)
  · by_cases hkk : k = k'
    · subst hkk
      rw [getO_set_same hlt]
      have hu : upd h k v' k = v' := by simp [upd]
      rw [hu]
      exact ⟨he, ⟨cvs', ho', hf'.mono hN n1⟩, n3⟩
    · rw [getO_set_ne hkk]
      have hu : upd h k v' k' = h k' := by simp [upd, hkk]
      rw [hu]
      exact (m.objs k').mono hN (fun b hm' hb => hother k' b hkk hm' hb) n1 htn
  · by_cases hkk : k = k'
    · subst hkk
      have hu : upd h k v' k = v' := by simp [upd]
      rw [hu] at hb
      rw [getO_set_same hlt]
      refine ⟨.inl (hvb b hb), fun o ho' hbN => ?_, hnew b hb⟩
      rcases n2 b o hbN with hbN | ⟨hz, _, hlt'⟩
      · rcases hloc b hb with hl | hl
        · refine (hlive b rfl hl).2.1 o ?_ hbN
          cases fz with
          | false => exact Nat.zero_le _
          | true =>
            simp only [lim] at ho' ⊢
            refine Nat.le_trans (Nat.mul_le_mul_right _ ?_) ho'
            simp
        · have := m.nlt b o hbN; omega
      · subst hz
        simp only [lim] at ho'
        omega
    · rw [getO_set_ne hkk] at hm' ⊢
      have hu : upd h k v' k' = h k' := by simp [upd, hkk]
      rw [hu] at hb
      obtain ⟨a, b2, c⟩ := m.live k' b hm' hb
      refine ⟨a, fun o ho' hbN => ?_, Nat.lt_of_lt_of_le c hg.size⟩
      rcases n2 b o hbN with hbN | ⟨_, hb', _⟩
      · exact b2 o ho' hbN
      · exact hapart k' hkk hm' b hb' hb
  · by_cases e1 : k = k1
    · subst e1
      rw [getO_set_ne hne] at h2
      have hu1 : upd h k v' k = v' := by simp [upd]
      have hu2 : upd h k v' k2 = h k2 := by simp [upd, hne]
      rw [hu1] at hb
      rw [hu2]
      exact hapart k2 hne h2 b hb
    · rw [getO_set_ne e1] at h1
      have hu1 : upd h k v' k1 = h k1 := by simp [upd, e1]
      rw [hu1] at hb
      by_cases e2 : k = k2
      · subst e2
        have hu2 : upd h k v' k = v' := by simp [upd]
        rw [hu2]
        intro hb'
        exact hapart k1 e1 h1 b hb' hb
      · rw [getO_set_ne e2] at h2
        have hu2 : upd h k v' k2 = h k2 := by simp [upd, e2]
        rw [hu2]
        exact m.dist k1 k2 b hne h1 h2 hb
  · have := m.ext k' hk'
    by_cases he : k = k'
    · subst he
      rw [hk] at this; cases this.2.2
    · rw [getO_set_ne he]
      have hu : upd h k v' k' = h k' := by simp [upd, he]
      rw [hu]; exact this
  · refine .own (by rw [getO_set_same hlt]; exact Nat.le_refl _) (by rcases ho'.2 with ⟨rfl, _⟩ | ⟨g, cap, cur, rfl, _⟩ <;> exact ⟨_, _, _, rfl⟩) (fun fz e' xs' hk' => by simp [upd])
theorem post_grow (m : Mem tb w0 w N0 N h ob) {k ver : Nat} {bd bd' : Body T} {V' : Val T} (hk : getO ob k = ⟨ver, bd⟩) (hmu' : mutb bd = true) (hrow : isRow bd = true) (hl0 : lim tb bd = 0) (hmd : mutb bd' = true) (hl' : lim tb bd' = 0)
    {act : Sem Next} {v' : Value} {w' : World} (hr : act.run P w = .ok (.value v') w') (hown : blk (h k) = (h k).ownBlock) (hg : w.grownBy w' (h k).ownBlock) (hloc : ∀ g, blk v' = some g → blk (h k) = some g ∨ w.heap.size ≤ g) (hnew : ∀ g, blk v' = some g → g < w'.heap.size)
    (hbody : Kept w w' N → Turn ob (ob.set k ⟨ver + 1, bd'⟩) h (upd h k v') → BodyRep tb w' N (upd h k v') (ob.set k ⟨ver + 1, bd'⟩) v' bd')
    (hV : Rep tb w' N (upd h k v') (ob.set k ⟨ver + 1, bd'⟩) V' v') :
    OpPost tb w0 w N0 N h ob (act.run P w) V' (ob.set k ⟨ver + 1, bd'⟩) := by
  have hlt : k < ob.length := getO_lt hk (by rintro rfl; cases hmu')
  have hver : (getO ob k).ver = ver := by rw [hk]
  have hmu : mutb (getO ob k).body = true := by rw [hk]; exact hmu'
  have hlive := m.live k
  rw [hk] at hlive
  have hbase : ∀ b, blk (h k) = some b → w0.w.heap.size ≤ b := fun b hb => by
    rcases (hlive b hmu' hb).1 with h1 | ⟨_, h1⟩
    · exact h1
    · have := (m.ext k h1).2.2
      rw [hk] at this; rw [hrow] at this; cases this
  have hnN : ∀ b o, blk (h k) = some b → ¬ N b o := fun b o hb => (hlive b hmu' hb).2.1 o (by show lim tb bd ≤ o; omega)
  have hN : Kept w w' N := ⟨hg.size, fun b o hb => World.cell?_of_block (hg.block b (m.nlt b o hb) (fun heq => hnN b o (by rw [hown, ← heq]) hb))⟩
  have htn : Turn ob (ob.set k ⟨ver + 1, bd'⟩) h (upd h k v') := by
    have := Turn.bump (h := h) hlt bd' v'
    rw [hver] at this
    exact this
  have hother : ∀ k' b, k ≠ k' → mutb (getO ob k').body = true → blk (h k') = some b → w'.heap[b]? = w.heap[b]? := fun k' b hne hm' hb =>
    hg.block b (m.live k' b hm' hb).2.2 (fun heq => m.dist k k' b hne hmu hm' (by rw [hown, ← heq]) hb)
  have hvb : ∀ g, blk v' = some g → w0.w.heap.size ≤ g := fun g hgg => by
    rcases hloc g hgg with hl | hl
    · exact hbase g hl
    · exact Nat.le_trans m.below.size hl
  have hapart : ∀ k', k ≠ k' → mutb (getO ob k').body = true → ∀ b, blk v' = some b → blk (h k') ≠ some b := fun k' hne' hm' b hb hb' => by
    rcases hloc b hb with hl | hl
    · exact m.dist k k' b hne' hmu hm' hl hb'
    · have := (m.live k' b hm' hb').2.2; omega
  refine ⟨v', w', N, upd h k v', .inl hr, ⟨m.below.trans ⟨hg.os, hg.tape, hg.output, hg.size, fun i hi _ => ?_⟩, fun b o hb => Nat.lt_of_lt_of_le (m.nlt b o hb) hg.size, m.n0, m.n1, fun k' => ?_, fun k' b hm' hb => ?_, fun k1 k2 b hne h1 h2 hb => ?_, fun k' hk' => ?_, m.glob⟩,
    hV, htn, hN, fun _ _ x => x, by simp⟩
  · refine hg.block i (Nat.lt_of_lt_of_le hi m.below.size) (fun heq => ?_)
    have := hbase i (by rw [hown, ← heq])
    omega
  · by_cases hkk : k = k'
    · subst hkk
      rw [getO_set_same hlt]
      have hu : upd h k v' k = v' := by simp [upd]
      rw [hu]
      exact hbody hN htn
    · rw [getO_set_ne hkk]
      have hu : upd h k v' k' = h k' := by simp [upd, hkk]
      rw [hu]
      exact (m.objs k').mono hN (fun b hm' hb => hother k' b hkk hm' hb) (fun _ _ x => x) htn
  · by_cases hkk : k = k'
    · subst hkk
      have hu : upd h k v' k = v' := by simp [upd]
      rw [hu] at hb
      refine ⟨.inl (hvb b hb), fun o ho' hbN => ?_, hnew b hb⟩
      rcases hloc b hb with hl | hl
      · exact hnN b o hl hbN
      · have := m.nlt b o hbN; omega
    · rw [getO_set_ne hkk] at hm' ⊢
      have hu : upd h k v' k' = h k' := by simp [upd, hkk]
      rw [hu] at hb
      obtain ⟨a, b2, c⟩ := m.live k' b hm' hb
      exact ⟨a, b2, Nat.lt_of_lt_of_le c hg.size⟩
  · by_cases e1 : k = k1
    · subst e1
      rw [getO_set_ne hne] at h2
      have hu1 : upd h k v' k = v' := by simp [upd]
      have hu2 : upd h k v' k2 = h k2 := by simp [upd, hne]
      rw [hu1] at hb
      rw [hu2]
      exact hapart k2 hne h2 b hb
    · rw [getO_set_ne e1] at h1
      have hu1 : upd h k v' k1 = h k1 := by simp [upd, e1]
      rw [hu1] at hb
      by_cases e2 : k = k2
      · subst e2
        have hu2 : upd h k v' k = v' := by simp [upd]
        rw [hu2]
        intro hb'
        exact hapart k1 e1 h1 b hb' hb
      · rw [getO_set_ne e2] at h2
        have hu2 : upd h k v' k2 = h k2 := by simp [upd, e2]
        rw [hu2]
        exact m.dist k1 k2 b hne h1 h2 hb
  · have := m.ext k' hk'
    by_cases he : k = k'
    · subst he
      rw [hk] at this
      have := this.2.2
      rw [hrow] at this; cases this
    · rw [getO_set_ne he]
      have hu : upd h k v' k' = h k' := by simp [upd, he]
      rw [hu]; exact this
theorem appX_sound (ok : TabOk P tb) (m : Mem tb w0 w N0 N h ob) {rk : Nat → List Knd} {t e : Nat} (ht : tb.elem t = some e) (ty : TypeId) {k ver kb vb k0 v0 : Nat} {V : Val T} {ob' : List (Obj' T)} {x y : Value}
    (hx : Rep tb w N h ob (.own k ver) x) (hy : Rep tb w N h ob (.ownx kb vb k0 v0) y) (ha : (appX tb ob e k ver kb vb k0 v0 : OpR T rk) = .ok true V ob') :
    OpPost tb w0 w N0 N h ob ((do pure (Next.value (← Builtin.append_ #[t, t] ty #[x, y])) : Sem Next).run P w) V ob' := by
  unfold appX at ha
  cases hk : getO ob k with
  | mk ver' bd =>
    cases hkb : getO ob kb with
    | mk vb' bdb =>
      rw [hk, hkb] at ha
      cases bd with
      | row fz e' xs =>
        cases fz with
        | true => simp at ha
        | false =>
        cases bdb with
        | rowx e'' ys k1 v1 =>
          simp only at ha
          split at ha
          · rename_i hc
            obtain ⟨rfl, rfl, rfl, rfl, rfl, rfl, hkk, hkk0⟩ := hc
            simp only [OpR.ok.injEq, decide_eq_true_eq] at ha
            obtain ⟨hroom, rfl, rfl⟩ := ha
            have hxe := hx.own_eq hk
            have hye := hy.ownx_eq hkb
            subst hxe; subst hye
            obtain ⟨he, ⟨cvs, ho, hf⟩, _⟩ := m.body hk
            obtain ⟨_, hs1, cvb, hv0, hob, hfb, hr0⟩ := m.body hkb
            obtain ⟨hu, ⟨i, z, hi, hz, hsz, hby, hzs⟩, hpos, hbp, hl, hp⟩ := ok.elem t _ ht
            have hlenb : cvb.length = ys.length := by rw [hfb.1, flat_len tb _ _ hl, hs1, Nat.mul_one]
            obtain ⟨A, n0, c0, hv0s⟩ : ∃ A n c, hv0 = .slice A n c := by cases hr0 with | fz hz => cases hz | own _ h0 _ => exact h0
            rcases hob.2 with ⟨_, hz0⟩ | ⟨g, cap, cur, hbe, _⟩
            · omega
            have hcell : ∀ (j : Nat) u, (cvb ++ [hv0])[j]? = some u → w.cell? ((⟨g, 0, none⟩ : Addr).add j) = some u := hob.cells (g := g) (by rw [hbe]; rfl)
            have hone : ∀ u ∈ cvb ++ [hv0], u.oneCell' = true := fun u hu => by
              rcases List.mem_append.1 hu with hu | hu
              · obtain ⟨j, hj, rfl⟩ := List.getElem_of_mem hu
                have hj' : j < (flat tb _ ys).length := by rw [← hfb.1]; exact hj
                have hV := List.getElem?_eq_getElem hj'
                refine Fz.one ?_ (hfb.2 j _ _ hV (List.getElem?_eq_getElem hj))
                obtain ⟨y0, _, hy1⟩ := List.mem_flatMap.1 (List.getElem_mem hj')
                exact hp y0 _ hy1
              · simp only [List.mem_singleton] at hu; subst hu; rw [hv0s]; rfl
            have hlen : xs.length + (ys.length + 1) ≤ maxLen := by
              unfold maxRoom at hroom
              have : xs.length + (ys.length + 1) ≤ (xs.length + (ys.length + 1)) * tb.bytes _ := Nat.le_mul_of_pos_right _ hbp
              unfold maxLen; omega
            have hn1 : (cvb ++ [hv0]).length = (ys.length + 1) * tb.size e'' := by rw [hs1, Nat.mul_one]; simp [hlenb]
            rw [hbe]
            obtain ⟨v', w', hr, h2, h3, h4, h5⟩ := run_append_own_at (P := P) w 0 t ty _ i z (tb.size _) (tb.bytes _) hu hi hz hsz hby hzs hpos (h k) xs.length cvs ho ⟨g, 0, none⟩ (ys.length + 1) cap (cvb ++ [hv0]) hn1 hcell hone hlen (by unfold maxRoom at hroom; exact hroom) (Nat.zero_le _)
            have hb2 := ownsRow_blk h2
            refine post_grow m hk rfl rfl rfl rfl rfl (v' := v') (w' := w') (by simp [hr]) (ownsRow_blk ho) h3 (fun g' hg' => ?_) (fun g' hg' => (h2.lt g' (by rw [← hb2]; exact hg')).2) (fun hK hT => ?_) ?_
            · rw [hb2] at hg'
              rw [ownsRow_blk ho]
              rcases h5 with h5 | h5
              · exact .inl (h5 ▸ hg')
              · rw [h5] at hg'
                simp only [Option.some.injEq] at hg'
                exact .inr (Nat.le_of_eq hg')
            · refine ⟨⟨t, ht⟩, hs1, cvs ++ cvb, hv0, ?_, ?_, hr0.mono hK (fun _ _ x => x) hT⟩
              · rw [hs1] at h2
                have : (xs ++ ys).length + 1 = xs.length + (ys.length + 1) := by simp; omega
                rw [this, List.append_assoc]
                exact h2
              · rw [flat_append]
                exact (hf.mono hK (fun _ _ x => x)).append (hfb.mono hK (fun _ _ x => x))
            · have hlt : k < ob.length := getO_lt hk (by simp)
              refine .ownx (by rw [getO_set_same hlt]; exact Nat.le_refl _) (by rcases h2.2 with ⟨rfl, _⟩ | ⟨g, cap, cur, rfl, _⟩ <;> exact ⟨_, _, _, rfl⟩) (fun e' xs' hk' => by simp [upd])
          · cases ha
        | _ => simp at ha
      | _ => simp at ha
theorem appV_sound (ok : TabOk P tb) (m : Mem tb w0 w N0 N h ob) {rk : Nat → List Knd} {t e : Nat} (ht : tb.elem t = some e) (ty : TypeId) {d : Nat} (hd : d < ob.length) (hn : d < w0.n) {X Y V : Val T} {ob' : List (Obj' T)} {x y : Value}
    (hx : Rep tb w N h ob X x) (hy : Rep tb w N h ob Y y) (ha : (appV tb ob d e X Y : OpR T rk) = .ok true V ob') :
    OpPost tb w0 w N0 N h ob ((do pure (Next.value (← Builtin.append_ #[t, t] ty #[x, y])) : Sem Next).run P w) V ob' := by
  cases X with
  | nil =>
    simp only [appV] at ha
    cases hl : lstV ob e d Y with
    | none => rw [hl] at ha; cases ha
    | some ys =>
      rw [hl] at ha
      simp only [OpR.ok.injEq, decide_eq_true_eq] at ha
      obtain ⟨hroom, rfl, rfl⟩ := ha
      have hs := lstV_src ok m ht hl hy
      rw [hx.nil_inv]
      obtain ⟨v', w', cvs', hr, ho', hf', hg, hloc, _⟩ := run_app (P := P) (N := N) ok ht ty (xs := []) (ys := ys) (v := .slice none 0 0) (cvs := []) (World.ownsRow_nil w 0 e _) ⟨by simp [flat], by simp⟩ hs (by simpa using hroom)
      have hb : Below w.heap.size w w' := ⟨hg.os, hg.tape, hg.output, hg.size, fun k hk => hg.block k hk (by simp [Value.ownBlock])⟩
      exact post_row m hd hn ht hb (by simpa using ho') (fun g hgg => (hloc g hgg).resolve_left (by simp [blk])) (by simpa using hf') (by simp [hr])
  | own k ver =>
    have old : ∀ {Y : Val T}, Rep tb w N h ob Y y → ((match getO ob k with
      | ⟨ver', .row fz e' xs⟩ => if ver' = ver then (if h : e' = e then (match lstV ob e k Y with
        | some ys => .ok (decide ((xs.length + ys.length) * tb.bytes e ≤ maxRoom)) (.own k (ver + 1)) (ob.set k ⟨ver + 1, .row fz e ((h ▸ xs) ++ ys)⟩)
        | none => .bad) else .bad) else .bad
      | _ => .bad : OpR T rk) = .ok true V ob') → OpPost tb w0 w N0 N h ob ((do pure (Next.value (← Builtin.append_ #[t, t] ty #[x, y])) : Sem Next).run P w) V ob' := by
     intro Y hy ha
     cases hk : getO ob k with
     | mk ver' bd =>
       rw [hk] at ha
       cases bd with
       | row fz e' xs =>
         simp only at ha
         split at ha
         · rename_i hv
           subst hv
           split at ha
           · rename_i he
             subst he
             cases hl : lstV ob e' k Y with
             | none => rw [hl] at ha; cases ha
             | some ys =>
               rw [hl] at ha
               simp only [OpR.ok.injEq, decide_eq_true_eq] at ha
               obtain ⟨hroom, rfl, rfl⟩ := ha
               exact post_app ok m ht ty hk (hx.own_eq hk) (lstV_src ok m ht hl hy) hroom
           · cases ha
         · cases ha
       | _ => simp at ha
    cases Y with
    | ownx kb vb k0 v0 => exact appX_sound ok m ht ty hx hy ha
    | _ => exact old hy ha
  | _ => simp [appV] at ha
end Go.Fw
namespace Go.Fw
open Go.RowKit
set_option linter.unusedVariables false
set_option linter.unusedSimpArgs false
variable {T : Nat → Type} {P : Program} {tb : Tab T} {w0 : Base} {w : World} {N0 N : NS} {h : Nat → Value} {ob : List (Obj' T)}
theorem foldl_splice (vs : List Value) : ∀ (off k : Nat) (cs : Array Value), off + k + vs.length ≤ cs.size →
  ((vs.zipIdx k).foldl (fun cs (c, j) => cs.setIfInBounds (off + j) c) cs).size = cs.size ∧
  ∀ j, ((vs.zipIdx k).foldl (fun cs (c, j) => cs.setIfInBounds (off + j) c) cs).getD j undef = if off + k ≤ j ∧ j < off + k + vs.length then vs.getD (j - off - k) undef else cs.getD j undef := by
 induction vs with
 | nil => intro off k cs _; exact ⟨rfl, fun j => by rw [if_neg (by simp only [List.length_nil]; omega)]; simp⟩
 | cons v vs ih =>
  intro off k cs hle
  simp only [List.length_cons] at hle
  simp only [List.zipIdx_cons, List.foldl_cons]
  obtain ⟨h1, h2⟩ := ih off (k + 1) (cs.setIfInBounds (off + k) v) (by simp; omega)
  refine ⟨by rw [h1]; simp, fun j => ?_⟩
  rw [h2 j]
  simp only [List.length_cons]
  by_cases hj : j = off + k
  ·subst hj
   rw [if_neg (by omega), if_pos (by omega)]
   have : off + k - off - k = 0 := by omega
   rw [this]
   simp [Array.getD_eq_getD_getElem?, show off + k < cs.size by omega]
  ·by_cases hin : off + (k + 1) ≤ j ∧ j < off + (k + 1) + vs.length
   ·rw [if_pos hin, if_pos (by omega)]
    have : j - off - k = (j - off - (k + 1)) + 1 := by omega
    rw [this]
    simp
   ·rw [if_neg hin, if_neg (by omega)]
    simp [Array.getD_eq_getD_getElem?, Array.getElem?_setIfInBounds_ne (show off + k ≠ j by omega)]
theorem fillV_sound {t : Nat} {pl : Nat → Option (Nat × Nat)} (hpl : ∀ i p, tb.part t i = some p → pl i = some p) {ρ : Operand → Val T} {evl : Operand → Value} (hρ : ∀ x, Rep tb w N h ob (ρ x) (evl x)) :
  ∀ (parts : List (Nat × Operand)) (cs cs' : List (Val T)) (z : Array Value), z.size = cs.length → (∀ (j : Nat) V, cs[j]? = some V → Rep tb w N h ob V (z.getD j undef)) → fillV tb t ρ parts cs = some cs' →
  ∃ out : Array Value, Instr.fill pl z (parts.map fun (i, x) => (i, evl x)) = some out ∧ out.size = cs'.length ∧ ∀ (j : Nat) V, cs'[j]? = some V → Rep tb w N h ob V (out.getD j undef) := by
 intro parts
 induction parts with
 | nil =>
  intro cs cs' z hz hr hf
  simp only [fillV, Option.some.injEq] at hf
  subst hf
  exact ⟨z, rfl, hz, hr⟩
 | cons p r ih =>
  intro cs cs' z hz hr hf
  obtain ⟨i, x⟩ := p
  simp only [fillV] at hf
  cases hp : tb.part t i with
  | none => rw [hp] at hf; simp at hf
  | some os =>
   obtain ⟨off, size⟩ := os
   cases hc : cellsV (ρ x) with
   | none => rw [hp, hc] at hf; simp at hf
   | some vs =>
    rw [hp, hc] at hf
    simp only at hf
    split at hf
    ·rename_i hl
     cases hs : splice cs off vs with
     | none => rw [hs] at hf; cases hf
     | some cs1 =>
      rw [hs] at hf
      simp only at hf
      obtain ⟨s1, s2, s3⟩ := splice_get hs
      obtain ⟨c1, c2⟩ := cellsV_rep hc (hρ x)
      obtain ⟨f1, f2⟩ := foldl_splice (evl x).cells.toList off 0 z (by simp; omega)
      have hz1 : ((evl x).cells.zipIdx.foldl (fun cs (c, j) => cs.setIfInBounds (off + j) c) z) = ((evl x).cells.toList.zipIdx 0).foldl (fun cs (c, j) => cs.setIfInBounds (off + j) c) z := by
       rw [← Array.foldl_toList, Array.toList_zipIdx]
      obtain ⟨out, o1, o2, o3⟩ := ih cs1 cs' (((evl x).cells.toList.zipIdx 0).foldl (fun cs (c, j) => cs.setIfInBounds (off + j) c) z) (by rw [f1]; omega) (fun j V hV => by
       rw [f2 j]
       rcases s3 j V hV with ⟨q1, q2, q3⟩ | ⟨q1, q2⟩
       ·rw [if_pos (by simp; omega)]
        have := c2 _ V q3
        simpa [List.getD_eq_getElem?_getD, Array.getD_eq_getD_getElem?] using this
       ·rw [if_neg (by simp; omega)]
        exact hr j V q2) hf
      refine ⟨out, ?_, o2, o3⟩
      simp only [List.map_cons, Instr.fill, hpl i _ hp]
      rw [if_neg (by simp; omega), hz1]
      exact o1
    ·cases hf
theorem Cst.rep {V : Val T} {v : Value} (hc : Cst V v) : Rep tb w N h ob V v := by
 cases hc with
 | int a => exact .fz (.int a)
 | bool => exact .fz .bool
 | str a => exact .fz (.str a)
 | nil => exact .fz .nil
 | junk => exact .junk
theorem elemsV_sound (ok : TabOk P tb) {e : Nat} {evl : Operand → Value} {ρ : Operand → Val T} : ∀ (parts : List (Nat × Operand)) (n : Nat) {N : NS} {ob ob' : List (Obj' T)} {ys : List (T e)} (m : Mem tb w0 w N0 N h ob)
  (hρ : ∀ x, Rep tb w N h ob (ρ x) (evl x)) (he : elemsV tb e ρ parts n ob = some (ys, ob')),
  ∃ N' : NS, ∃ cvs : List Value, Mem tb w0 w N0 N' h ob' ∧ Turn ob ob' h h ∧ (∀ b o, N b o → N' b o) ∧ ob'.length = ob.length ∧ ys.length = parts.length ∧ parts.map (·.1) = List.range' n parts.length ∧
   cvs = parts.flatMap (fun p => (evl p.2).cells.toList) ∧ (∀ p ∈ parts, (evl p.2).cells.size = tb.size e) ∧ FzL tb w N' (flat tb e ys) cvs := by
 intro parts
 induction parts with
 | nil =>
  intro n N ob ob' ys m hρ he
  simp only [elemsV, Option.some.injEq, Prod.mk.injEq] at he
  obtain ⟨rfl, rfl⟩ := he
  exact ⟨N, [], m, Turn.refl _ _, fun _ _ x => x, rfl, rfl, rfl, rfl, by simp, ⟨by simp [flat], by simp⟩⟩
 | cons p r ih =>
  intro n N ob ob' ys m hρ he
  obtain ⟨i, x⟩ := p
  simp only [elemsV] at he
  split at he
  ·rename_i hi
   subst hi
   cases hc : cellsV (ρ x) with
   | none => rw [hc] at he; cases he
   | some cs =>
    rw [hc] at he
    simp only at he
    split at he
    ·rename_i hl
     cases hf : frzL cs ob with
     | none => rw [hf] at he; cases he
     | some q =>
      obtain ⟨cs', ob1⟩ := q
      rw [hf] at he
      simp only at he
      cases hu : tb.unc e cs' with
      | none => rw [hu] at he; cases he
      | some y =>
       rw [hu] at he
       simp only at he
       cases hr : elemsV tb e ρ r (i + 1) ob1 with
       | none => rw [hr] at he; cases he
       | some q2 =>
        obtain ⟨ys', ob2⟩ := q2
        rw [hr] at he
        simp only [Option.some.injEq, Prod.mk.injEq] at he
        obtain ⟨rfl, rfl⟩ := he
        obtain ⟨c1, c2⟩ := cellsV_rep hc (hρ x)
        obtain ⟨N1, m1, z1, t1, n1, l1⟩ := frzL_sound ok cs (vs := (evl x).cells.toList) m (by simpa using c1) (fun j V v hV hv => by
         have := c2 j V hV
         rw [getD_of_toList hv] at this
         exact this) hf
        obtain ⟨N2, cvs, m2, t2, n2, l2, y2, p2, rfl, s2, z2⟩ := ih (i + 1) m1 (fun x => (hρ x).mono (Kept.refl _ _) n1 t1) hr
        have hsim := ok.unc e cs' y hu
        refine ⟨N2, _, m2, t1.trans t2, fun b o hb => n2 b o (n1 b o hb), by omega, by simp [y2], by simp [p2, List.range'_succ], rfl, fun p hp => ?_, ?_⟩
        ·rcases List.mem_cons.1 hp with rfl | hp
         ·simp only [c1, hl]
         ·exact s2 p hp
        ·have hfl : flat tb e (y :: ys') = tb.cells e y ++ flat tb e ys' := by simp [flat]
         rw [hfl, List.flatMap_cons]
         refine FzL.append ⟨by rw [hsim.1, ← z1.1], fun j V v hV hv => ?_⟩ z2
         have hj : j < cs'.length := by rw [← hsim.1]; exact (List.getElem?_eq_some_iff.1 hV).1
         exact ((z1.2 j _ v (List.getElem?_eq_getElem hj) hv).mono (Kept.refl _ _) n2).sim (hsim.2 j V _ hV (List.getElem?_eq_getElem hj))
    ·cases he
  ·cases he
end Go.Fw
