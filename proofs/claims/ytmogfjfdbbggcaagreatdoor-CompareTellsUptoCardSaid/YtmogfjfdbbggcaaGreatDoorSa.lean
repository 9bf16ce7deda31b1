import Derived.Test.YtmogfjfdbbggcaaGreatDoorFwD
import Derived.Test.YtmogfjfdbbggcaaGreatDoorSs
import Derived.Test.YtmogfjfdbbggcaaGreatDoorProg
import Derived.KernelRfl
set_option linter.all false
set_option linter.unusedVariables false
set_option maxHeartbeats 1000000
set_option maxRecDepth 10000
namespace Go.Fw.S1
open Go.Proofs
structure Expr where
 f0 : Int
 f1 : Int
 f2 : ByteArray
 f3 : List Expr
structure Func where
 f0 : ByteArray
 f1 : List Int
 f2 : Int
 f3 : Expr
structure Agg where
 f0 : Int
 f1 : Int
 f2 : ByteArray
structure Pat where
 f0 : Expr
 f1 : Int
structure Col where
 f0 : ByteArray
 f1 : Int
 f2 : ByteArray
structure Node where
 f0 : Int
 f1 : List Int
 f2 : ByteArray
 f3 : Int
 f4 : List Expr
 f5 : Int
 f6 : Int
 f7 : Int
 f8 : List Int
 f9 : List Int
 f10 : Int
 f11 : Int
 f12 : Int
 f13 : List Agg
 f14 : List Pat
 f15 : List Col
structure Program where
 f0 : List Func
 f1 : List Node
structure Match where
 f0 : Int
 f1 : Int
 f2 : Int
structure Ty80 where
 f0 : Int
 f1 : Int
structure Reader where
 f0 : ByteArray
 f1 : Bool
structure Ty104 where
 f0 : Int
 f1 : Int
 f2 : Int
 f3 : Int
 f4 : Int
 f5 : Int
 f6 : Int
 f7 : Int
inductive Kind where
 | k0
 | k1
 | k2
 | k3
 | k4
 | k5
 | k6
 | k7
structure RReader where
 f0 : ByteArray
 f1 : Bool
structure Body where
 f0 : Expr
 f1 : Bool
def T : Nat → Type
 | 3 => Int
 | 4 => Bool
 | 5 => Int
 | 9 => ByteArray
 | 22 => List Func
 | 23 => List Node
 | 25 => Program
 | 26 => List Match
 | 33 => List Int
 | 38 => List Expr
 | 39 => List Agg
 | 40 => List Pat
 | 41 => List Col
 | 43 => Node
 | 47 => Agg
 | 49 => Expr
 | 52 => Match
 | 60 => List (List Bool)
 | 63 => List Bool
 | 66 => Nat
 | 70 => List ByteArray
 | 77 => Col
 | 80 => Ty80
 | 83 => Nat
 | 88 => Reader
 | 100 => Func
 | 103 => Pat
 | 104 => Ty104
 | 116 => Kind
 | 128 => RReader
 | 131 => List Int
 | 133 => List (List Int)
 | 150 => List Body
 | 152 => Body
 | _ => Unit
theorem T_ne : ∀ e, Nonempty (T e) := by
 intro e
 unfold T
 split
 ·exact ⟨(0 : Int)⟩
 ·exact ⟨false⟩
 ·exact ⟨(0 : Int)⟩
 ·exact ⟨ByteArray.empty⟩
 ·exact ⟨[]⟩
 ·exact ⟨[]⟩
 ·exact ⟨(Program.mk [] [])⟩
 ·exact ⟨[]⟩
 ·exact ⟨[]⟩
 ·exact ⟨[]⟩
 ·exact ⟨[]⟩
 ·exact ⟨[]⟩
 ·exact ⟨[]⟩
 ·exact ⟨(Node.mk (0 : Int) [] ByteArray.empty (0 : Int) [] (0 : Int) (0 : Int) (0 : Int) [] [] (0 : Int) (0 : Int) (0 : Int) [] [] [])⟩
 ·exact ⟨(Agg.mk (0 : Int) (0 : Int) ByteArray.empty)⟩
 ·exact ⟨(Expr.mk (0 : Int) (0 : Int) ByteArray.empty [])⟩
 ·exact ⟨(Match.mk (0 : Int) (0 : Int) (0 : Int))⟩
 ·exact ⟨[]⟩
 ·exact ⟨[]⟩
 ·exact ⟨(0 : Nat)⟩
 ·exact ⟨[]⟩
 ·exact ⟨(Col.mk ByteArray.empty (0 : Int) ByteArray.empty)⟩
 ·exact ⟨(Ty80.mk (0 : Int) (0 : Int))⟩
 ·exact ⟨(0 : Nat)⟩
 ·exact ⟨(Reader.mk ByteArray.empty false)⟩
 ·exact ⟨(Func.mk ByteArray.empty [] (0 : Int) (Expr.mk (0 : Int) (0 : Int) ByteArray.empty []))⟩
 ·exact ⟨(Pat.mk (Expr.mk (0 : Int) (0 : Int) ByteArray.empty []) (0 : Int))⟩
 ·exact ⟨(Ty104.mk (0 : Int) (0 : Int) (0 : Int) (0 : Int) (0 : Int) (0 : Int) (0 : Int) (0 : Int))⟩
 ·exact ⟨Kind.k0⟩
 ·exact ⟨(RReader.mk ByteArray.empty false)⟩
 ·exact ⟨[]⟩
 ·exact ⟨[]⟩
 ·exact ⟨[]⟩
 ·exact ⟨(Body.mk (Expr.mk (0 : Int) (0 : Int) ByteArray.empty []) false)⟩
 ·exact ⟨()⟩
abbrev nV (a : Node) : List (Val T) := [.int .i64 a.f0, .lst 3 a.f1, .str a.f2, .int .i64 a.f3, .lst 49 a.f4, .int .i64 a.f5, .int .i64 a.f6, .int .i64 a.f7, .lst 3 a.f8, .lst 3 a.f9, .int .i64 a.f10, .int .i64 a.f11, .int .i64 a.f12, .lst 47 a.f13, .lst 103 a.f14, .lst 77 a.f15]
abbrev eV (e : Expr) : List (Val T) := [.int .i64 e.f0, .int .i64 e.f1, .str e.f2, .lst 49 e.f3]
def kcells116 : Kind → List (Val T)
 | .k0 => [.int .i64 0, .clo 102 [] [], .clo 103 [] [], .bool false]
 | .k1 => [.int .i64 1, .clo 102 [] [], .clo 103 [] [], .bool false]
 | .k2 => [.int .i64 2, .clo 102 [] [], .clo 103 [] [], .bool false]
 | .k3 => [.int .i64 1, .clo 104 [] [], .clo 105 [] [], .bool true]
 | .k4 => [.int .i64 1, .clo 106 [] [], .clo 105 [] [], .bool true]
 | .k5 => [.int .i64 2, .clo 109 [] [], .clo 110 [] [], .bool true]
 | .k6 => [.int .i64 2, .clo 111 [] [], .clo 112 [] [], .bool true]
 | .k7 => [.int .i64 1, .clo 113 [] [], .clo 114 [] [], .bool true]
def kfind116 (x0 : Int) (x1 x2 : Nat) (x3 : Bool) : Option Kind :=
 bif decide (x0 = 0) && (Nat.beq x1 102 && (Nat.beq x2 103 && !x3)) then some .k0 else
 bif decide (x0 = 1) && (Nat.beq x1 102 && (Nat.beq x2 103 && !x3)) then some .k1 else
 bif decide (x0 = 2) && (Nat.beq x1 102 && (Nat.beq x2 103 && !x3)) then some .k2 else
 bif decide (x0 = 1) && (Nat.beq x1 104 && (Nat.beq x2 105 && x3)) then some .k3 else
 bif decide (x0 = 1) && (Nat.beq x1 106 && (Nat.beq x2 105 && x3)) then some .k4 else
 bif decide (x0 = 2) && (Nat.beq x1 109 && (Nat.beq x2 110 && x3)) then some .k5 else
 bif decide (x0 = 2) && (Nat.beq x1 111 && (Nat.beq x2 112 && x3)) then some .k6 else
 bif decide (x0 = 1) && (Nat.beq x1 113 && (Nat.beq x2 114 && x3)) then some .k7 else
 none
theorem kfind116_ok {x0 : Int} {x1 x2 : Nat} {x3 : Bool} {k : Kind} (h : kfind116 x0 x1 x2 x3 = some k) : kcells116 k = [.int .i64 x0, .clo x1 [] [], .clo x2 [] [], .bool x3] := by
 unfold kfind116 at h
 by_cases h0 : (decide (x0 = 0) && (Nat.beq x1 102 && (Nat.beq x2 103 && !x3))) = true
 ·rw [h0] at h
  simp only [cond_true, Option.some.injEq] at h
  subst h
  simp only [Bool.and_eq_true, decide_eq_true_eq] at h0
  obtain ⟨q0, q1, q2, q3⟩ := h0
  have q1 := Nat.eq_of_beq_eq_true q1
  have q2 := Nat.eq_of_beq_eq_true q2
  have q3 : x3 = false := by simpa using q3
  subst q0; subst q1; subst q2; subst q3
  rfl
 rw [Bool.not_eq_true] at h0
 rw [h0] at h
 simp only [cond_false] at h
 by_cases h1 : (decide (x0 = 1) && (Nat.beq x1 102 && (Nat.beq x2 103 && !x3))) = true
 ·rw [h1] at h
  simp only [cond_true, Option.some.injEq] at h
  subst h
  simp only [Bool.and_eq_true, decide_eq_true_eq] at h1
  obtain ⟨q0, q1, q2, q3⟩ := h1
  have q1 := Nat.eq_of_beq_eq_true q1
  have q2 := Nat.eq_of_beq_eq_true q2
  have q3 : x3 = false := by simpa using q3
  subst q0; subst q1; subst q2; subst q3
  rfl
 rw [Bool.not_eq_true] at h1
 rw [h1] at h
 simp only [cond_false] at h
 by_cases h2 : (decide (x0 = 2) && (Nat.beq x1 102 && (Nat.beq x2 103 && !x3))) = true
 ·rw [h2] at h
  simp only [cond_true, Option.some.injEq] at h
  subst h
  simp only [Bool.and_eq_true, decide_eq_true_eq] at h2
  obtain ⟨q0, q1, q2, q3⟩ := h2
  have q1 := Nat.eq_of_beq_eq_true q1
  have q2 := Nat.eq_of_beq_eq_true q2
  have q3 : x3 = false := by simpa using q3
  subst q0; subst q1; subst q2; subst q3
  rfl
 rw [Bool.not_eq_true] at h2
 rw [h2] at h
 simp only [cond_false] at h
 by_cases h3 : (decide (x0 = 1) && (Nat.beq x1 104 && (Nat.beq x2 105 && x3))) = true
 ·rw [h3] at h
  simp only [cond_true, Option.some.injEq] at h
  subst h
  simp only [Bool.and_eq_true, decide_eq_true_eq] at h3
  obtain ⟨q0, q1, q2, q3⟩ := h3
  have q1 := Nat.eq_of_beq_eq_true q1
  have q2 := Nat.eq_of_beq_eq_true q2
  have q3 : x3 = true := by simpa using q3
  subst q0; subst q1; subst q2; subst q3
  rfl
 rw [Bool.not_eq_true] at h3
 rw [h3] at h
 simp only [cond_false] at h
 by_cases h4 : (decide (x0 = 1) && (Nat.beq x1 106 && (Nat.beq x2 105 && x3))) = true
 ·rw [h4] at h
  simp only [cond_true, Option.some.injEq] at h
  subst h
  simp only [Bool.and_eq_true, decide_eq_true_eq] at h4
  obtain ⟨q0, q1, q2, q3⟩ := h4
  have q1 := Nat.eq_of_beq_eq_true q1
  have q2 := Nat.eq_of_beq_eq_true q2
  have q3 : x3 = true := by simpa using q3
  subst q0; subst q1; subst q2; subst q3
  rfl
 rw [Bool.not_eq_true] at h4
 rw [h4] at h
 simp only [cond_false] at h
 by_cases h5 : (decide (x0 = 2) && (Nat.beq x1 109 && (Nat.beq x2 110 && x3))) = true
 ·rw [h5] at h
  simp only [cond_true, Option.some.injEq] at h
  subst h
  simp only [Bool.and_eq_true, decide_eq_true_eq] at h5
  obtain ⟨q0, q1, q2, q3⟩ := h5
  have q1 := Nat.eq_of_beq_eq_true q1
  have q2 := Nat.eq_of_beq_eq_true q2
  have q3 : x3 = true := by simpa using q3
  subst q0; subst q1; subst q2; subst q3
  rfl
 rw [Bool.not_eq_true] at h5
 rw [h5] at h
 simp only [cond_false] at h
 by_cases h6 : (decide (x0 = 2) && (Nat.beq x1 111 && (Nat.beq x2 112 && x3))) = true
 ·rw [h6] at h
  simp only [cond_true, Option.some.injEq] at h
  subst h
  simp only [Bool.and_eq_true, decide_eq_true_eq] at h6
  obtain ⟨q0, q1, q2, q3⟩ := h6
  have q1 := Nat.eq_of_beq_eq_true q1
  have q2 := Nat.eq_of_beq_eq_true q2
  have q3 : x3 = true := by simpa using q3
  subst q0; subst q1; subst q2; subst q3
  rfl
 rw [Bool.not_eq_true] at h6
 rw [h6] at h
 simp only [cond_false] at h
 by_cases h7 : (decide (x0 = 1) && (Nat.beq x1 113 && (Nat.beq x2 114 && x3))) = true
 ·rw [h7] at h
  simp only [cond_true, Option.some.injEq] at h
  subst h
  simp only [Bool.and_eq_true, decide_eq_true_eq] at h7
  obtain ⟨q0, q1, q2, q3⟩ := h7
  have q1 := Nat.eq_of_beq_eq_true q1
  have q2 := Nat.eq_of_beq_eq_true q2
  have q3 : x3 = true := by simpa using q3
  subst q0; subst q1; subst q2; subst q3
  rfl
 rw [Bool.not_eq_true] at h7
 rw [h7] at h
 simp only [cond_false] at h
 cases h
def cells : (e : Nat) → T e → List (Val T)
 | 3, x => [.int .i64 x]
 | 4, x => [.bool x]
 | 5, x => [.int .u8 x]
 | 9, x => [.str x]
 | 22, x => [.lst 100 x]
 | 23, x => [.lst 43 x]
 | 25, x => [.lst 100 x.f0, .lst 43 x.f1]
 | 26, x => [.lst 52 x]
 | 33, x => [.lst 3 x]
 | 38, x => [.lst 49 x]
 | 39, x => [.lst 47 x]
 | 40, x => [.lst 103 x]
 | 41, x => [.lst 77 x]
 | 43, x => [.int .i64 x.f0, .lst 3 x.f1, .str x.f2, .int .i64 x.f3, .lst 49 x.f4, .int .i64 x.f5, .int .i64 x.f6, .int .i64 x.f7, .lst 3 x.f8, .lst 3 x.f9, .int .i64 x.f10, .int .i64 x.f11, .int .i64 x.f12, .lst 47 x.f13, .lst 103 x.f14, .lst 77 x.f15]
 | 47, x => [.int .i64 x.f0, .int .i64 x.f1, .str x.f2]
 | 49, x => [.int .i64 x.f0, .int .i64 x.f1, .str x.f2, .lst 49 x.f3]
 | 52, x => [.int .i64 x.f0, .int .i64 x.f1, .int .i64 x.f2]
 | 60, x => [.lst 63 x]
 | 63, x => [.lst 4 x]
 | 66, x => [.clo x [] []]
 | 70, x => [.lst 9 x]
 | 77, x => [.str x.f0, .int .i64 x.f1, .str x.f2]
 | 80, x => [.int .i64 x.f0, .int .i64 x.f1]
 | 83, x => [.clo x [] []]
 | 88, x => [.str x.f0, .bool x.f1]
 | 100, x => [.str x.f0, .lst 3 x.f1, .int .i64 x.f2, .int .i64 x.f3.f0, .int .i64 x.f3.f1, .str x.f3.f2, .lst 49 x.f3.f3]
 | 103, x => [.int .i64 x.f0.f0, .int .i64 x.f0.f1, .str x.f0.f2, .lst 49 x.f0.f3, .int .i64 x.f1]
 | 104, x => [.int .i64 x.f0, .int .i64 x.f1, .int .i64 x.f2, .int .i64 x.f3, .int .i64 x.f4, .int .i64 x.f5, .int .i64 x.f6, .int .i64 x.f7]
 | 116, x => kcells116 x
 | 128, x => [.str x.f0, .bool x.f1]
 | 131, x => [.lst 5 x]
 | 133, x => [.lst 33 x]
 | 150, x => [.lst 152 x]
 | 152, x => [.int .i64 x.f0.f0, .int .i64 x.f0.f1, .str x.f0.f2, .lst 49 x.f0.f3, .bool x.f1]
 | _, _ => []
def unc3 : List (Val T) → Option (Int)
 | c0 :: [] => (asI .i64 c0).bind fun x0 => some x0
 | _ => none
theorem unc3_ok {vs : List (Val T)} {x : Int} (h : unc3 vs = some x) : SimL (cells 3 x) vs ∧ pureL (cells 3 x) = true := by
 unfold unc3 at h
 split at h
 ·obtain ⟨x0, h0, h⟩ := Option.bind_eq_some_iff.1 h
  have h := Option.some.inj h
  subst h
  exact ⟨.cons (asI_ok h0) (.nil), rfl⟩
 ·cases h
def unc4 : List (Val T) → Option (Bool)
 | c0 :: [] => (asB c0).bind fun x0 => some x0
 | _ => none
theorem unc4_ok {vs : List (Val T)} {x : Bool} (h : unc4 vs = some x) : SimL (cells 4 x) vs ∧ pureL (cells 4 x) = true := by
 unfold unc4 at h
 split at h
 ·obtain ⟨x0, h0, h⟩ := Option.bind_eq_some_iff.1 h
  have h := Option.some.inj h
  subst h
  exact ⟨.cons (asB_ok h0) (.nil), rfl⟩
 ·cases h
def unc5 : List (Val T) → Option (Int)
 | c0 :: [] => (asI .u8 c0).bind fun x0 => some x0
 | _ => none
theorem unc5_ok {vs : List (Val T)} {x : Int} (h : unc5 vs = some x) : SimL (cells 5 x) vs ∧ pureL (cells 5 x) = true := by
 unfold unc5 at h
 split at h
 ·obtain ⟨x0, h0, h⟩ := Option.bind_eq_some_iff.1 h
  have h := Option.some.inj h
  subst h
  exact ⟨.cons (asI_ok h0) (.nil), rfl⟩
 ·cases h
def unc9 : List (Val T) → Option (ByteArray)
 | c0 :: [] => (asS c0).bind fun x0 => some x0
 | _ => none
theorem unc9_ok {vs : List (Val T)} {x : ByteArray} (h : unc9 vs = some x) : SimL (cells 9 x) vs ∧ pureL (cells 9 x) = true := by
 unfold unc9 at h
 split at h
 ·obtain ⟨x0, h0, h⟩ := Option.bind_eq_some_iff.1 h
  have h := Option.some.inj h
  subst h
  exact ⟨.cons (asS_ok h0) (.nil), rfl⟩
 ·cases h
def unc22 : List (Val T) → Option (List Func)
 | c0 :: [] => (asL (T := T) 100 c0).bind fun x0 => some x0
 | _ => none
theorem unc22_ok {vs : List (Val T)} {x : List Func} (h : unc22 vs = some x) : SimL (cells 22 x) vs ∧ pureL (cells 22 x) = true := by
 unfold unc22 at h
 split at h
 ·obtain ⟨x0, h0, h⟩ := Option.bind_eq_some_iff.1 h
  have h := Option.some.inj h
  subst h
  exact ⟨.cons (asL_ok h0) (.nil), rfl⟩
 ·cases h
def unc23 : List (Val T) → Option (List Node)
 | c0 :: [] => (asL (T := T) 43 c0).bind fun x0 => some x0
 | _ => none
theorem unc23_ok {vs : List (Val T)} {x : List Node} (h : unc23 vs = some x) : SimL (cells 23 x) vs ∧ pureL (cells 23 x) = true := by
 unfold unc23 at h
 split at h
 ·obtain ⟨x0, h0, h⟩ := Option.bind_eq_some_iff.1 h
  have h := Option.some.inj h
  subst h
  exact ⟨.cons (asL_ok h0) (.nil), rfl⟩
 ·cases h
def unc25 : List (Val T) → Option (Program)
 | c0 :: c1 :: [] => (asL (T := T) 100 c0).bind fun x0 => (asL (T := T) 43 c1).bind fun x1 => some (Program.mk x0 x1)
 | _ => none
theorem unc25_ok {vs : List (Val T)} {x : Program} (h : unc25 vs = some x) : SimL (cells 25 x) vs ∧ pureL (cells 25 x) = true := by
 unfold unc25 at h
 split at h
 ·obtain ⟨x0, h0, h⟩ := Option.bind_eq_some_iff.1 h
  obtain ⟨x1, h1, h⟩ := Option.bind_eq_some_iff.1 h
  have h := Option.some.inj h
  subst h
  exact ⟨.cons (asL_ok h0) (.cons (asL_ok h1) (.nil)), rfl⟩
 ·cases h
def unc26 : List (Val T) → Option (List Match)
 | c0 :: [] => (asL (T := T) 52 c0).bind fun x0 => some x0
 | _ => none
theorem unc26_ok {vs : List (Val T)} {x : List Match} (h : unc26 vs = some x) : SimL (cells 26 x) vs ∧ pureL (cells 26 x) = true := by
 unfold unc26 at h
 split at h
 ·obtain ⟨x0, h0, h⟩ := Option.bind_eq_some_iff.1 h
  have h := Option.some.inj h
  subst h
  exact ⟨.cons (asL_ok h0) (.nil), rfl⟩
 ·cases h
def unc33 : List (Val T) → Option (List Int)
 | c0 :: [] => (asL (T := T) 3 c0).bind fun x0 => some x0
 | _ => none
theorem unc33_ok {vs : List (Val T)} {x : List Int} (h : unc33 vs = some x) : SimL (cells 33 x) vs ∧ pureL (cells 33 x) = true := by
 unfold unc33 at h
 split at h
 ·obtain ⟨x0, h0, h⟩ := Option.bind_eq_some_iff.1 h
  have h := Option.some.inj h
  subst h
  exact ⟨.cons (asL_ok h0) (.nil), rfl⟩
 ·cases h
def unc38 : List (Val T) → Option (List Expr)
 | c0 :: [] => (asL (T := T) 49 c0).bind fun x0 => some x0
 | _ => none
theorem unc38_ok {vs : List (Val T)} {x : List Expr} (h : unc38 vs = some x) : SimL (cells 38 x) vs ∧ pureL (cells 38 x) = true := by
 unfold unc38 at h
 split at h
 ·obtain ⟨x0, h0, h⟩ := Option.bind_eq_some_iff.1 h
  have h := Option.some.inj h
  subst h
  exact ⟨.cons (asL_ok h0) (.nil), rfl⟩
 ·cases h
def unc39 : List (Val T) → Option (List Agg)
 | c0 :: [] => (asL (T := T) 47 c0).bind fun x0 => some x0
 | _ => none
theorem unc39_ok {vs : List (Val T)} {x : List Agg} (h : unc39 vs = some x) : SimL (cells 39 x) vs ∧ pureL (cells 39 x) = true := by
 unfold unc39 at h
 split at h
 ·obtain ⟨x0, h0, h⟩ := Option.bind_eq_some_iff.1 h
  have h := Option.some.inj h
  subst h
  exact ⟨.cons (asL_ok h0) (.nil), rfl⟩
 ·cases h
def unc40 : List (Val T) → Option (List Pat)
 | c0 :: [] => (asL (T := T) 103 c0).bind fun x0 => some x0
 | _ => none
theorem unc40_ok {vs : List (Val T)} {x : List Pat} (h : unc40 vs = some x) : SimL (cells 40 x) vs ∧ pureL (cells 40 x) = true := by
 unfold unc40 at h
 split at h
 ·obtain ⟨x0, h0, h⟩ := Option.bind_eq_some_iff.1 h
  have h := Option.some.inj h
  subst h
  exact ⟨.cons (asL_ok h0) (.nil), rfl⟩
 ·cases h
def unc41 : List (Val T) → Option (List Col)
 | c0 :: [] => (asL (T := T) 77 c0).bind fun x0 => some x0
 | _ => none
theorem unc41_ok {vs : List (Val T)} {x : List Col} (h : unc41 vs = some x) : SimL (cells 41 x) vs ∧ pureL (cells 41 x) = true := by
 unfold unc41 at h
 split at h
 ·obtain ⟨x0, h0, h⟩ := Option.bind_eq_some_iff.1 h
  have h := Option.some.inj h
  subst h
  exact ⟨.cons (asL_ok h0) (.nil), rfl⟩
 ·cases h
def unc43 : List (Val T) → Option (Node)
 | c0 :: c1 :: c2 :: c3 :: c4 :: c5 :: c6 :: c7 :: c8 :: c9 :: c10 :: c11 :: c12 :: c13 :: c14 :: c15 :: [] => (asI .i64 c0).bind fun x0 => (asL (T := T) 3 c1).bind fun x1 => (asS c2).bind fun x2 => (asI .i64 c3).bind fun x3 => (asL (T := T) 49 c4).bind fun x4 => (asI .i64 c5).bind fun x5 => (asI .i64 c6).bind fun x6 => (asI .i64 c7).bind fun x7 => (asL (T := T) 3 c8).bind fun x8 => (asL (T := T) 3 c9).bind fun x9 => (asI .i64 c10).bind fun x10 => (asI .i64 c11).bind fun x11 => (asI .i64 c12).bind fun x12 => (asL (T := T) 47 c13).bind fun x13 => (asL (T := T) 103 c14).bind fun x14 => (asL (T := T) 77 c15).bind fun x15 => some (Node.mk x0 x1 x2 x3 x4 x5 x6 x7 x8 x9 x10 x11 x12 x13 x14 x15)
 | _ => none
theorem unc43_ok {vs : List (Val T)} {x : Node} (h : unc43 vs = some x) : SimL (cells 43 x) vs ∧ pureL (cells 43 x) = true := by
 unfold unc43 at h
 split at h
 ·obtain ⟨x0, h0, h⟩ := Option.bind_eq_some_iff.1 h
  obtain ⟨x1, h1, h⟩ := Option.bind_eq_some_iff.1 h
  obtain ⟨x2, h2, h⟩ := Option.bind_eq_some_iff.1 h
  obtain ⟨x3, h3, h⟩ := Option.bind_eq_some_iff.1 h
  obtain ⟨x4, h4, h⟩ := Option.bind_eq_some_iff.1 h
  obtain ⟨x5, h5, h⟩ := Option.bind_eq_some_iff.1 h
  obtain ⟨x6, h6, h⟩ := Option.bind_eq_some_iff.1 h
  obtain ⟨x7, h7, h⟩ := Option.bind_eq_some_iff.1 h
  obtain ⟨x8, h8, h⟩ := Option.bind_eq_some_iff.1 h
  obtain ⟨x9, h9, h⟩ := Option.bind_eq_some_iff.1 h
  obtain ⟨x10, h10, h⟩ := Option.bind_eq_some_iff.1 h
  obtain ⟨x11, h11, h⟩ := Option.bind_eq_some_iff.1 h
  obtain ⟨x12, h12, h⟩ := Option.bind_eq_some_iff.1 h
  obtain ⟨x13, h13, h⟩ := Option.bind_eq_some_iff.1 h
  obtain ⟨x14, h14, h⟩ := Option.bind_eq_some_iff.1 h
  obtain ⟨x15, h15, h⟩ := Option.bind_eq_some_iff.1 h
  have h := Option.some.inj h
  subst h
  exact ⟨.cons (asI_ok h0) (.cons (asL_ok h1) (.cons (asS_ok h2) (.cons (asI_ok h3) (.cons (asL_ok h4) (.cons (asI_ok h5) (.cons (asI_ok h6) (.cons (asI_ok h7) (.cons (asL_ok h8) (.cons (asL_ok h9) (.cons (asI_ok h10) (.cons (asI_ok h11) (.cons (asI_ok h12) (.cons (asL_ok h13) (.cons (asL_ok h14) (.cons (asL_ok h15) (.nil)))))))))))))))), rfl⟩
 ·cases h
def unc47 : List (Val T) → Option (Agg)
 | c0 :: c1 :: c2 :: [] => (asI .i64 c0).bind fun x0 => (asI .i64 c1).bind fun x1 => (asS c2).bind fun x2 => some (Agg.mk x0 x1 x2)
 | _ => none
theorem unc47_ok {vs : List (Val T)} {x : Agg} (h : unc47 vs = some x) : SimL (cells 47 x) vs ∧ pureL (cells 47 x) = true := by
 unfold unc47 at h
 split at h
 ·obtain ⟨x0, h0, h⟩ := Option.bind_eq_some_iff.1 h
  obtain ⟨x1, h1, h⟩ := Option.bind_eq_some_iff.1 h
  obtain ⟨x2, h2, h⟩ := Option.bind_eq_some_iff.1 h
  have h := Option.some.inj h
  subst h
  exact ⟨.cons (asI_ok h0) (.cons (asI_ok h1) (.cons (asS_ok h2) (.nil))), rfl⟩
 ·cases h
def unc49 : List (Val T) → Option (Expr)
 | c0 :: c1 :: c2 :: c3 :: [] => (asI .i64 c0).bind fun x0 => (asI .i64 c1).bind fun x1 => (asS c2).bind fun x2 => (asL (T := T) 49 c3).bind fun x3 => some (Expr.mk x0 x1 x2 x3)
 | _ => none
theorem unc49_ok {vs : List (Val T)} {x : Expr} (h : unc49 vs = some x) : SimL (cells 49 x) vs ∧ pureL (cells 49 x) = true := by
 unfold unc49 at h
 split at h
 ·obtain ⟨x0, h0, h⟩ := Option.bind_eq_some_iff.1 h
  obtain ⟨x1, h1, h⟩ := Option.bind_eq_some_iff.1 h
  obtain ⟨x2, h2, h⟩ := Option.bind_eq_some_iff.1 h
  obtain ⟨x3, h3, h⟩ := Option.bind_eq_some_iff.1 h
  have h := Option.some.inj h
  subst h
  exact ⟨.cons (asI_ok h0) (.cons (asI_ok h1) (.cons (asS_ok h2) (.cons (asL_ok h3) (.nil)))), rfl⟩
 ·cases h
def unc52 : List (Val T) → Option (Match)
 | c0 :: c1 :: c2 :: [] => (asI .i64 c0).bind fun x0 => (asI .i64 c1).bind fun x1 => (asI .i64 c2).bind fun x2 => some (Match.mk x0 x1 x2)
 | _ => none
theorem unc52_ok {vs : List (Val T)} {x : Match} (h : unc52 vs = some x) : SimL (cells 52 x) vs ∧ pureL (cells 52 x) = true := by
 unfold unc52 at h
 split at h
 ·obtain ⟨x0, h0, h⟩ := Option.bind_eq_some_iff.1 h
  obtain ⟨x1, h1, h⟩ := Option.bind_eq_some_iff.1 h
  obtain ⟨x2, h2, h⟩ := Option.bind_eq_some_iff.1 h
  have h := Option.some.inj h
  subst h
  exact ⟨.cons (asI_ok h0) (.cons (asI_ok h1) (.cons (asI_ok h2) (.nil))), rfl⟩
 ·cases h
def unc60 : List (Val T) → Option (List (List Bool))
 | c0 :: [] => (asL (T := T) 63 c0).bind fun x0 => some x0
 | _ => none
theorem unc60_ok {vs : List (Val T)} {x : List (List Bool)} (h : unc60 vs = some x) : SimL (cells 60 x) vs ∧ pureL (cells 60 x) = true := by
 unfold unc60 at h
 split at h
 ·obtain ⟨x0, h0, h⟩ := Option.bind_eq_some_iff.1 h
  have h := Option.some.inj h
  subst h
  exact ⟨.cons (asL_ok h0) (.nil), rfl⟩
 ·cases h
def unc63 : List (Val T) → Option (List Bool)
 | c0 :: [] => (asL (T := T) 4 c0).bind fun x0 => some x0
 | _ => none
theorem unc63_ok {vs : List (Val T)} {x : List Bool} (h : unc63 vs = some x) : SimL (cells 63 x) vs ∧ pureL (cells 63 x) = true := by
 unfold unc63 at h
 split at h
 ·obtain ⟨x0, h0, h⟩ := Option.bind_eq_some_iff.1 h
  have h := Option.some.inj h
  subst h
  exact ⟨.cons (asL_ok h0) (.nil), rfl⟩
 ·cases h
def unc66 : List (Val T) → Option (Nat)
 | c0 :: [] => (asF c0).bind fun x0 => some x0
 | _ => none
theorem unc66_ok {vs : List (Val T)} {x : Nat} (h : unc66 vs = some x) : SimL (cells 66 x) vs ∧ pureL (cells 66 x) = true := by
 unfold unc66 at h
 split at h
 ·obtain ⟨x0, h0, h⟩ := Option.bind_eq_some_iff.1 h
  have h := Option.some.inj h
  subst h
  exact ⟨.cons (asF_ok h0) (.nil), rfl⟩
 ·cases h
def unc70 : List (Val T) → Option (List ByteArray)
 | c0 :: [] => (asL (T := T) 9 c0).bind fun x0 => some x0
 | _ => none
theorem unc70_ok {vs : List (Val T)} {x : List ByteArray} (h : unc70 vs = some x) : SimL (cells 70 x) vs ∧ pureL (cells 70 x) = true := by
 unfold unc70 at h
 split at h
 ·obtain ⟨x0, h0, h⟩ := Option.bind_eq_some_iff.1 h
  have h := Option.some.inj h
  subst h
  exact ⟨.cons (asL_ok h0) (.nil), rfl⟩
 ·cases h
def unc77 : List (Val T) → Option (Col)
 | c0 :: c1 :: c2 :: [] => (asS c0).bind fun x0 => (asI .i64 c1).bind fun x1 => (asS c2).bind fun x2 => some (Col.mk x0 x1 x2)
 | _ => none
theorem unc77_ok {vs : List (Val T)} {x : Col} (h : unc77 vs = some x) : SimL (cells 77 x) vs ∧ pureL (cells 77 x) = true := by
 unfold unc77 at h
 split at h
 ·obtain ⟨x0, h0, h⟩ := Option.bind_eq_some_iff.1 h
  obtain ⟨x1, h1, h⟩ := Option.bind_eq_some_iff.1 h
  obtain ⟨x2, h2, h⟩ := Option.bind_eq_some_iff.1 h
  have h := Option.some.inj h
  subst h
  exact ⟨.cons (asS_ok h0) (.cons (asI_ok h1) (.cons (asS_ok h2) (.nil))), rfl⟩
 ·cases h
def unc80 : List (Val T) → Option (Ty80)
 | c0 :: c1 :: [] => (asI .i64 c0).bind fun x0 => (asI .i64 c1).bind fun x1 => some (Ty80.mk x0 x1)
 | _ => none
theorem unc80_ok {vs : List (Val T)} {x : Ty80} (h : unc80 vs = some x) : SimL (cells 80 x) vs ∧ pureL (cells 80 x) = true := by
 unfold unc80 at h
 split at h
 ·obtain ⟨x0, h0, h⟩ := Option.bind_eq_some_iff.1 h
  obtain ⟨x1, h1, h⟩ := Option.bind_eq_some_iff.1 h
  have h := Option.some.inj h
  subst h
  exact ⟨.cons (asI_ok h0) (.cons (asI_ok h1) (.nil)), rfl⟩
 ·cases h
def unc83 : List (Val T) → Option (Nat)
 | c0 :: [] => (asF c0).bind fun x0 => some x0
 | _ => none
theorem unc83_ok {vs : List (Val T)} {x : Nat} (h : unc83 vs = some x) : SimL (cells 83 x) vs ∧ pureL (cells 83 x) = true := by
 unfold unc83 at h
 split at h
 ·obtain ⟨x0, h0, h⟩ := Option.bind_eq_some_iff.1 h
  have h := Option.some.inj h
  subst h
  exact ⟨.cons (asF_ok h0) (.nil), rfl⟩
 ·cases h
def unc88 : List (Val T) → Option (Reader)
 | c0 :: c1 :: [] => (asS c0).bind fun x0 => (asB c1).bind fun x1 => some (Reader.mk x0 x1)
 | _ => none
theorem unc88_ok {vs : List (Val T)} {x : Reader} (h : unc88 vs = some x) : SimL (cells 88 x) vs ∧ pureL (cells 88 x) = true := by
 unfold unc88 at h
 split at h
 ·obtain ⟨x0, h0, h⟩ := Option.bind_eq_some_iff.1 h
  obtain ⟨x1, h1, h⟩ := Option.bind_eq_some_iff.1 h
  have h := Option.some.inj h
  subst h
  exact ⟨.cons (asS_ok h0) (.cons (asB_ok h1) (.nil)), rfl⟩
 ·cases h
def unc100 : List (Val T) → Option (Func)
 | c0 :: c1 :: c2 :: c3 :: c4 :: c5 :: c6 :: [] => (asS c0).bind fun x0 => (asL (T := T) 3 c1).bind fun x1 => (asI .i64 c2).bind fun x2 => (asI .i64 c3).bind fun x3 => (asI .i64 c4).bind fun x4 => (asS c5).bind fun x5 => (asL (T := T) 49 c6).bind fun x6 => some (Func.mk x0 x1 x2 (Expr.mk x3 x4 x5 x6))
 | _ => none
theorem unc100_ok {vs : List (Val T)} {x : Func} (h : unc100 vs = some x) : SimL (cells 100 x) vs ∧ pureL (cells 100 x) = true := by
 unfold unc100 at h
 split at h
 ·obtain ⟨x0, h0, h⟩ := Option.bind_eq_some_iff.1 h
  obtain ⟨x1, h1, h⟩ := Option.bind_eq_some_iff.1 h
  obtain ⟨x2, h2, h⟩ := Option.bind_eq_some_iff.1 h
  obtain ⟨x3, h3, h⟩ := Option.bind_eq_some_iff.1 h
  obtain ⟨x4, h4, h⟩ := Option.bind_eq_some_iff.1 h
  obtain ⟨x5, h5, h⟩ := Option.bind_eq_some_iff.1 h
  obtain ⟨x6, h6, h⟩ := Option.bind_eq_some_iff.1 h
  have h := Option.some.inj h
  subst h
  exact ⟨.cons (asS_ok h0) (.cons (asL_ok h1) (.cons (asI_ok h2) (.cons (asI_ok h3) (.cons (asI_ok h4) (.cons (asS_ok h5) (.cons (asL_ok h6) (.nil))))))), rfl⟩
 ·cases h
def unc103 : List (Val T) → Option (Pat)
 | c0 :: c1 :: c2 :: c3 :: c4 :: [] => (asI .i64 c0).bind fun x0 => (asI .i64 c1).bind fun x1 => (asS c2).bind fun x2 => (asL (T := T) 49 c3).bind fun x3 => (asI .i64 c4).bind fun x4 => some (Pat.mk (Expr.mk x0 x1 x2 x3) x4)
 | _ => none
theorem unc103_ok {vs : List (Val T)} {x : Pat} (h : unc103 vs = some x) : SimL (cells 103 x) vs ∧ pureL (cells 103 x) = true := by
 unfold unc103 at h
 split at h
 ·obtain ⟨x0, h0, h⟩ := Option.bind_eq_some_iff.1 h
  obtain ⟨x1, h1, h⟩ := Option.bind_eq_some_iff.1 h
  obtain ⟨x2, h2, h⟩ := Option.bind_eq_some_iff.1 h
  obtain ⟨x3, h3, h⟩ := Option.bind_eq_some_iff.1 h
  obtain ⟨x4, h4, h⟩ := Option.bind_eq_some_iff.1 h
  have h := Option.some.inj h
  subst h
  exact ⟨.cons (asI_ok h0) (.cons (asI_ok h1) (.cons (asS_ok h2) (.cons (asL_ok h3) (.cons (asI_ok h4) (.nil))))), rfl⟩
 ·cases h
def unc104 : List (Val T) → Option (Ty104)
 | c0 :: c1 :: c2 :: c3 :: c4 :: c5 :: c6 :: c7 :: [] => (asI .i64 c0).bind fun x0 => (asI .i64 c1).bind fun x1 => (asI .i64 c2).bind fun x2 => (asI .i64 c3).bind fun x3 => (asI .i64 c4).bind fun x4 => (asI .i64 c5).bind fun x5 => (asI .i64 c6).bind fun x6 => (asI .i64 c7).bind fun x7 => some (Ty104.mk x0 x1 x2 x3 x4 x5 x6 x7)
 | _ => none
theorem unc104_ok {vs : List (Val T)} {x : Ty104} (h : unc104 vs = some x) : SimL (cells 104 x) vs ∧ pureL (cells 104 x) = true := by
 unfold unc104 at h
 split at h
 ·obtain ⟨x0, h0, h⟩ := Option.bind_eq_some_iff.1 h
  obtain ⟨x1, h1, h⟩ := Option.bind_eq_some_iff.1 h
  obtain ⟨x2, h2, h⟩ := Option.bind_eq_some_iff.1 h
  obtain ⟨x3, h3, h⟩ := Option.bind_eq_some_iff.1 h
  obtain ⟨x4, h4, h⟩ := Option.bind_eq_some_iff.1 h
  obtain ⟨x5, h5, h⟩ := Option.bind_eq_some_iff.1 h
  obtain ⟨x6, h6, h⟩ := Option.bind_eq_some_iff.1 h
  obtain ⟨x7, h7, h⟩ := Option.bind_eq_some_iff.1 h
  have h := Option.some.inj h
  subst h
  exact ⟨.cons (asI_ok h0) (.cons (asI_ok h1) (.cons (asI_ok h2) (.cons (asI_ok h3) (.cons (asI_ok h4) (.cons (asI_ok h5) (.cons (asI_ok h6) (.cons (asI_ok h7) (.nil)))))))), rfl⟩
 ·cases h
def unc116 : List (Val T) → Option (Kind)
 | c0 :: c1 :: c2 :: c3 :: [] => (asI .i64 c0).bind fun x0 => (asF c1).bind fun x1 => (asF c2).bind fun x2 => (asB c3).bind fun x3 => kfind116 x0 x1 x2 x3
 | _ => none
theorem unc116_ok {vs : List (Val T)} {x : Kind} (h : unc116 vs = some x) : SimL (cells 116 x) vs ∧ pureL (cells 116 x) = true := by
 unfold unc116 at h
 split at h
 ·obtain ⟨x0, h0, h⟩ := Option.bind_eq_some_iff.1 h
  obtain ⟨x1, h1, h⟩ := Option.bind_eq_some_iff.1 h
  obtain ⟨x2, h2, h⟩ := Option.bind_eq_some_iff.1 h
  obtain ⟨x3, h3, h⟩ := Option.bind_eq_some_iff.1 h
  have hk := kfind116_ok h
  show SimL (kcells116 x) _ ∧ pureL (kcells116 x) = true
  rw [hk]
  exact ⟨.cons (asI_ok h0) (.cons (asF_ok h1) (.cons (asF_ok h2) (.cons (asB_ok h3) (.nil)))), rfl⟩
 ·cases h
def unc128 : List (Val T) → Option (RReader)
 | c0 :: c1 :: [] => (asS c0).bind fun x0 => (asB c1).bind fun x1 => some (RReader.mk x0 x1)
 | _ => none
theorem unc128_ok {vs : List (Val T)} {x : RReader} (h : unc128 vs = some x) : SimL (cells 128 x) vs ∧ pureL (cells 128 x) = true := by
 unfold unc128 at h
 split at h
 ·obtain ⟨x0, h0, h⟩ := Option.bind_eq_some_iff.1 h
  obtain ⟨x1, h1, h⟩ := Option.bind_eq_some_iff.1 h
  have h := Option.some.inj h
  subst h
  exact ⟨.cons (asS_ok h0) (.cons (asB_ok h1) (.nil)), rfl⟩
 ·cases h
def unc131 : List (Val T) → Option (List Int)
 | c0 :: [] => (asL (T := T) 5 c0).bind fun x0 => some x0
 | _ => none
theorem unc131_ok {vs : List (Val T)} {x : List Int} (h : unc131 vs = some x) : SimL (cells 131 x) vs ∧ pureL (cells 131 x) = true := by
 unfold unc131 at h
 split at h
 ·obtain ⟨x0, h0, h⟩ := Option.bind_eq_some_iff.1 h
  have h := Option.some.inj h
  subst h
  exact ⟨.cons (asL_ok h0) (.nil), rfl⟩
 ·cases h
def unc133 : List (Val T) → Option (List (List Int))
 | c0 :: [] => (asL (T := T) 33 c0).bind fun x0 => some x0
 | _ => none
theorem unc133_ok {vs : List (Val T)} {x : List (List Int)} (h : unc133 vs = some x) : SimL (cells 133 x) vs ∧ pureL (cells 133 x) = true := by
 unfold unc133 at h
 split at h
 ·obtain ⟨x0, h0, h⟩ := Option.bind_eq_some_iff.1 h
  have h := Option.some.inj h
  subst h
  exact ⟨.cons (asL_ok h0) (.nil), rfl⟩
 ·cases h
def unc150 : List (Val T) → Option (List Body)
 | c0 :: [] => (asL (T := T) 152 c0).bind fun x0 => some x0
 | _ => none
theorem unc150_ok {vs : List (Val T)} {x : List Body} (h : unc150 vs = some x) : SimL (cells 150 x) vs ∧ pureL (cells 150 x) = true := by
 unfold unc150 at h
 split at h
 ·obtain ⟨x0, h0, h⟩ := Option.bind_eq_some_iff.1 h
  have h := Option.some.inj h
  subst h
  exact ⟨.cons (asL_ok h0) (.nil), rfl⟩
 ·cases h
def unc152 : List (Val T) → Option (Body)
 | c0 :: c1 :: c2 :: c3 :: c4 :: [] => (asI .i64 c0).bind fun x0 => (asI .i64 c1).bind fun x1 => (asS c2).bind fun x2 => (asL (T := T) 49 c3).bind fun x3 => (asB c4).bind fun x4 => some (Body.mk (Expr.mk x0 x1 x2 x3) x4)
 | _ => none
theorem unc152_ok {vs : List (Val T)} {x : Body} (h : unc152 vs = some x) : SimL (cells 152 x) vs ∧ pureL (cells 152 x) = true := by
 unfold unc152 at h
 split at h
 ·obtain ⟨x0, h0, h⟩ := Option.bind_eq_some_iff.1 h
  obtain ⟨x1, h1, h⟩ := Option.bind_eq_some_iff.1 h
  obtain ⟨x2, h2, h⟩ := Option.bind_eq_some_iff.1 h
  obtain ⟨x3, h3, h⟩ := Option.bind_eq_some_iff.1 h
  obtain ⟨x4, h4, h⟩ := Option.bind_eq_some_iff.1 h
  have h := Option.some.inj h
  subst h
  exact ⟨.cons (asI_ok h0) (.cons (asI_ok h1) (.cons (asS_ok h2) (.cons (asL_ok h3) (.cons (asB_ok h4) (.nil))))), rfl⟩
 ·cases h
def unc0 : (e : Nat) → List (Val T) → Option (T e)
 | 3, vs => unc3 vs
 | 4, vs => unc4 vs
 | 5, vs => unc5 vs
 | 9, vs => unc9 vs
 | 22, vs => unc22 vs
 | 23, vs => unc23 vs
 | 25, vs => unc25 vs
 | 26, vs => unc26 vs
 | 33, vs => unc33 vs
 | 38, vs => unc38 vs
 | 39, vs => unc39 vs
 | 40, vs => unc40 vs
 | 41, vs => unc41 vs
 | 43, vs => unc43 vs
 | 47, vs => unc47 vs
 | 49, vs => unc49 vs
 | 52, vs => unc52 vs
 | 60, vs => unc60 vs
 | 63, vs => unc63 vs
 | 66, vs => unc66 vs
 | 70, vs => unc70 vs
 | 77, vs => unc77 vs
 | 80, vs => unc80 vs
 | 83, vs => unc83 vs
 | 88, vs => unc88 vs
 | 100, vs => unc100 vs
 | 103, vs => unc103 vs
 | 104, vs => unc104 vs
 | 116, vs => unc116 vs
 | 128, vs => unc128 vs
 | 131, vs => unc131 vs
 | 133, vs => unc133 vs
 | 150, vs => unc150 vs
 | 152, vs => unc152 vs
 | _, _ => none
def ids : List Nat := [3, 4, 5, 9, 22, 23, 25, 26, 33, 38, 39, 40, 41, 43, 47, 49, 52, 60, 63, 66, 70, 77, 80, 83, 88, 100, 103, 104, 116, 128, 131, 133, 150, 152]
def unc (e : Nat) (vs : List (Val T)) : Option (T e) := match inB e ids with
 | true => unc0 e vs
 | false => none
theorem unc_ok (e : Nat) (vs : List (Val T)) (x : T e) (h : unc e vs = some x) : SimL (cells e x) vs ∧ pureL (cells e x) = true := by
 cases hb : inB e ids with
 | false => unfold unc at h; rw [hb] at h; cases h
 | true =>
  have hm := inB_iff.1 hb
  simp only [ids, List.mem_cons, List.not_mem_nil, or_false] at hm
  rcases hm with rfl | rfl | rfl | rfl | rfl | rfl | rfl | rfl | rfl | rfl | rfl | rfl | rfl | rfl | rfl | rfl | rfl | rfl | rfl | rfl | rfl | rfl | rfl | rfl | rfl | rfl | rfl | rfl | rfl | rfl | rfl | rfl | rfl | rfl
  ·exact unc3_ok h
  ·exact unc4_ok h
  ·exact unc5_ok h
  ·exact unc9_ok h
  ·exact unc22_ok h
  ·exact unc23_ok h
  ·exact unc25_ok h
  ·exact unc26_ok h
  ·exact unc33_ok h
  ·exact unc38_ok h
  ·exact unc39_ok h
  ·exact unc40_ok h
  ·exact unc41_ok h
  ·exact unc43_ok h
  ·exact unc47_ok h
  ·exact unc49_ok h
  ·exact unc52_ok h
  ·exact unc60_ok h
  ·exact unc63_ok h
  ·exact unc66_ok h
  ·exact unc70_ok h
  ·exact unc77_ok h
  ·exact unc80_ok h
  ·exact unc83_ok h
  ·exact unc88_ok h
  ·exact unc100_ok h
  ·exact unc103_ok h
  ·exact unc104_ok h
  ·exact unc116_ok h
  ·exact unc128_ok h
  ·exact unc131_ok h
  ·exact unc133_ok h
  ·exact unc150_ok h
  ·exact unc152_ok h
def rows : List Row := [
 ⟨3, 1, 8, false, none, [], [], some [.int .i64], some .i64, false, none, none, true⟩,
 ⟨4, 1, 1, false, none, [], [], some [.bool], none, false, none, none, true⟩,
 ⟨5, 1, 1, false, none, [], [], some [.int .u8], some .u8, false, none, none, true⟩,
 ⟨9, 1, 16, false, none, [], [], some [.str], none, true, none, none, true⟩,
 ⟨22, 1, 24, false, some 100, [], [], some [.nil], none, false, none, none, false⟩,
 ⟨23, 1, 24, false, some 43, [], [], some [.nil], none, false, none, none, false⟩,
 ⟨25, 2, 48, true, none, [(0, 22), (1, 23)], [(0, 1), (1, 1)], some [.nil, .nil], none, false, none, none, false⟩,
 ⟨26, 1, 24, false, some 52, [], [], some [.nil], none, false, none, none, false⟩,
 ⟨33, 1, 24, false, some 3, [], [], some [.nil], none, false, none, none, false⟩,
 ⟨38, 1, 24, false, some 49, [], [], some [.nil], none, false, none, none, false⟩,
 ⟨39, 1, 24, false, some 47, [], [], some [.nil], none, false, none, none, false⟩,
 ⟨40, 1, 24, false, some 103, [], [], some [.nil], none, false, none, none, false⟩,
 ⟨41, 1, 24, false, some 77, [], [], some [.nil], none, false, none, none, false⟩,
 ⟨43, 16, 248, true, none, [(0, 3), (1, 33), (2, 9), (3, 3), (4, 38), (5, 3), (6, 3), (7, 3), (8, 33), (9, 33), (10, 3), (11, 3), (12, 3), (13, 39), (14, 40), (15, 41)], [(0, 1), (1, 1), (2, 1), (3, 1), (4, 1), (5, 1), (6, 1), (7, 1), (8, 1), (9, 1), (10, 1), (11, 1), (12, 1), (13, 1), (14, 1), (15, 1)], some [.int .i64, .nil, .str, .int .i64, .nil, .int .i64, .int .i64, .int .i64, .nil, .nil, .int .i64, .int .i64, .int .i64, .nil, .nil, .nil], none, false, none, none, false⟩,
 ⟨47, 3, 32, true, none, [(0, 3), (1, 3), (2, 9)], [(0, 1), (1, 1), (2, 1)], some [.int .i64, .int .i64, .str], none, false, none, none, true⟩,
 ⟨49, 4, 56, true, none, [(0, 3), (1, 3), (2, 9), (3, 38)], [(0, 1), (1, 1), (2, 1), (3, 1)], some [.int .i64, .int .i64, .str, .nil], none, false, none, none, false⟩,
 ⟨52, 3, 24, true, none, [(0, 3), (1, 3), (2, 3)], [(0, 1), (1, 1), (2, 1)], some [.int .i64, .int .i64, .int .i64], none, false, none, none, true⟩,
 ⟨60, 1, 24, false, some 63, [], [], some [.nil], none, false, none, none, false⟩,
 ⟨63, 1, 24, false, some 4, [], [], some [.nil], none, false, none, none, false⟩,
 ⟨66, 1, 8, false, none, [], [], some [.junk], none, false, none, none, false⟩,
 ⟨70, 1, 24, false, some 9, [], [], some [.nil], none, false, none, none, false⟩,
 ⟨77, 3, 40, true, none, [(0, 9), (1, 3), (2, 9)], [(0, 1), (1, 1), (2, 1)], some [.str, .int .i64, .str], none, false, none, none, true⟩,
 ⟨80, 2, 16, true, none, [], [(0, 1), (1, 1)], some [.int .i64, .int .i64], none, false, some (3, 2), none, true⟩,
 ⟨83, 1, 8, false, none, [], [], some [.junk], none, false, none, none, false⟩,
 ⟨88, 2, 24, true, none, [(0, 9), (1, 4)], [(0, 1), (1, 1)], some [.str, .bool], none, false, none, none, true⟩,
 ⟨100, 7, 104, true, none, [(0, 9), (1, 33), (2, 3), (3, 49)], [(0, 1), (1, 1), (2, 1), (3, 4)], some [.str, .nil, .int .i64, .int .i64, .int .i64, .str, .nil], none, false, none, none, false⟩,
 ⟨103, 5, 64, true, none, [(0, 49), (4, 3)], [(0, 4), (4, 1)], some [.int .i64, .int .i64, .str, .nil, .int .i64], none, false, none, none, false⟩,
 ⟨104, 8, 64, true, none, [], [(0, 1), (1, 1), (2, 1), (3, 1), (4, 1), (5, 1), (6, 1), (7, 1)], some [.int .i64, .int .i64, .int .i64, .int .i64, .int .i64, .int .i64, .int .i64, .int .i64], none, false, some (3, 8), none, true⟩,
 ⟨116, 4, 32, true, none, [(0, 3), (1, 66), (2, 83), (3, 4)], [(0, 1), (1, 1), (2, 1), (3, 1)], some [.int .i64, .junk, .junk, .bool], none, false, none, none, false⟩,
 ⟨128, 2, 24, true, none, [(0, 9), (1, 4)], [(0, 1), (1, 1)], some [.str, .bool], none, false, none, none, true⟩,
 ⟨131, 1, 24, false, some 5, [], [], some [.nil], none, false, none, none, false⟩,
 ⟨133, 1, 24, false, some 33, [], [], some [.nil], none, false, none, none, false⟩,
 ⟨150, 1, 24, false, some 152, [], [], some [.nil], none, false, none, none, false⟩,
 ⟨152, 5, 64, true, none, [(0, 49), (4, 4)], [(0, 4), (4, 1)], some [.int .i64, .int .i64, .str, .nil, .bool], none, false, none, none, false⟩,
 ⟨139, 36, 288, true, none, [], [(0, 4), (4, 4), (8, 4), (12, 4), (16, 4), (20, 4), (24, 4), (28, 4), (32, 4)], some [.int .i64, .junk, .junk, .bool, .int .i64, .junk, .junk, .bool, .int .i64, .junk, .junk, .bool, .int .i64, .junk, .junk, .bool, .int .i64, .junk, .junk, .bool, .int .i64, .junk, .junk, .bool, .int .i64, .junk, .junk, .bool, .int .i64, .junk, .junk, .bool, .int .i64, .junk, .junk, .bool], none, false, some (116, 9), none, false⟩,
 ⟨57, 5, 104, true, none, [(0, 25), (2, 25), (4, 55)], [(0, 2), (2, 2), (4, 1)], some [.nil, .nil, .nil, .nil, .junk], none, false, none, none, false⟩,
 ⟨55, 1, 8, false, none, [], [], some [.junk], none, false, none, some (80, 4), false⟩,
 ⟨54, 1, 8, false, none, [], [], some [.junk], none, false, none, none, false⟩]
def fns : List Nat := [3, 4, 5, 6, 7, 8, 9, 10, 11, 12, 13, 14, 15, 16, 17, 18, 19, 20, 21, 22, 23, 24, 25, 26, 27, 28, 29, 30, 31, 32, 33, 34, 35, 36, 37, 38, 39, 40, 41, 42, 43, 44, 45, 46, 47, 48, 49, 50, 51, 52, 53, 54, 55, 56, 57, 58, 59, 60, 61, 62, 63, 64, 65, 66, 67, 68, 69, 70, 71, 72, 73, 74, 75, 76, 77, 78, 79, 80, 81, 82, 83, 84, 85, 86, 87, 88, 90, 91, 92, 93, 94, 95, 96, 97, 98, 99, 100, 101, 102, 103, 104, 105, 106, 107, 108, 109, 110, 111, 112, 113, 114, 115, 116, 122, 123, 124, 125, 126, 127, 128, 129, 130, 131, 132, 133, 145, 146, 147, 148, 149, 150, 151, 152, 161, 162, 163, 164, 165, 166]
noncomputable def dflt (e : Nat) : T e := Classical.choice (T_ne e)
def ksplit116 {R : Type} (x : Kind) (k : Kind → R) : R := match x with
 | .k0 => k .k0
 | .k1 => k .k1
 | .k2 => k .k2
 | .k3 => k .k3
 | .k4 => k .k4
 | .k5 => k .k5
 | .k6 => k .k6
 | .k7 => k .k7
def split : (t : Nat) → (R : Type) → T t → (T t → R) → R
 | 116, R, x, k => ksplit116 x k
 | _, R, x, k => k x
theorem split_ok (t : Nat) (R : Type) (x : T t) (k : T t → R) : split t R x k = k x := by
 unfold split
 split
 ·rename_i x; cases x <;> rfl
 ·rfl
def byteStr (l : List Int) : ByteArray := ⟨(l.map fun n => UInt8.ofNat n.toNat).toArray⟩
def rks : List (Nat × List Knd) := [(3, [.bool]), (4, [.bool]), (5, [.bool]), (6, [.lst 52]), (7, [.bool]), (8, [.fresh 52]), (9, [.int .i64]), (10, [.int .i64]), (11, [.lst 3]), (12, [.fresh 3]), (13, [.str, .int .i64]), (14, [.str, .int .i64]), (15, [.agg 43]), (16, [.agg 43]), (17, [.bool]), (18, [.bool]), (19, [.bool]), (23, [.fresh 63]), (24, [.bool]), (27, [.bool]), (28, [.bool]), (29, [.fbox 88]), (34, [.str]), (35, [.str]), (36, [.str]), (37, [.int .i64, .fresh 9, .bool]), (38, [.str]), (39, [.str]), (40, [.str]), (41, [.bool]), (42, [.bool]), (43, [.bool]), (44, [.bool]), (47, [.int .i64, .int .i64]), (48, [.bool]), (49, [.bool]), (50, [.bool]), (51, [.int .i64, .int .i64]), (52, [.bool]), (57, [.str]), (58, [.fbox 128]), (64, [.str]), (65, [.agg 25, .bool]), (66, [.bool]), (67, [.fresh 3]), (68, [.int .i64]), (69, [.bool]), (70, [.int .i64]), (71, [.int .i64]), (72, [.int .i64]), (73, [.agg 104]), (77, [.bool]), (81, [.bool]), (83, [.bool]), (84, [.agg 116, .bool]), (85, [.bool]), (86, [.int .i64]), (87, [.int .i64, .ifc]), (88, [.str, .bool]), (94, [.bool]), (95, [.int .i64]), (96, [.bool]), (97, [.lst 3, .bool]), (98, [.str]), (99, [.int .i64]), (100, [.agg 49, .bool]), (101, [.bool]), (102, [.bool]), (103, [.int .i64, .int .i64]), (104, [.bool]), (105, [.int .i64, .int .i64]), (106, [.bool]), (107, [.bool]), (108, [.bool]), (109, [.bool]), (110, [.int .i64, .int .i64]), (111, [.bool]), (112, [.int .i64, .int .i64]), (113, [.bool]), (114, [.int .i64, .int .i64]), (115, [.agg 49, .bool]), (116, [.bool]), (122, [.int .i64, .bool]), (123, [.bool]), (124, [.int .i64, .bool]), (125, [.bool]), (126, [.bool]), (127, [.bool]), (128, [.int .i64, .bool]), (129, [.bool]), (130, [.fresh 3]), (131, [.agg 152]), (132, [.int .i64]), (133, [.agg 49, .bool]), (145, [.int .i64, .bool]), (146, [.bool]), (147, [.int .i64]), (148, [.str]), (149, [.agg 49, .bool]), (152, [.agg 49, .bool]), (161, [.int .i64, .bool]), (162, [.int .i64]), (163, [.int .i64, .bool]), (164, [.int .i64, .bool]), (165, [.agg 49]), (166, [.agg 49]), (50021, [.bool]), (50022, [.bool]), (50026, [.bool]), (50030, [.int .i64]), (50031, [.int .i64]), (50032, [.str]), (50033, [.bool]), (50045, [.bool]), (50046, [.bool]), (50054, [.int .i64]), (50055, []), (50056, []), (50059, [.int .i64]), (50060, [.int .i64]), (50061, [.int .i64]), (50062, [.str]), (50063, [.bool]), (50075, [.bool]), (50079, [.bool]), (50090, [.int .i64]), (50091, [.int .i64]), (50092, [.int .i64]), (50093, [.bool]), (50151, []), (2250020, [.int .i64]), (2250082, [.bool]), (2350020, [.int .i64]), (2750025, [.bool]), (2750053, [.int .i64]), (7650074, [.bool]), (7800076, [.bool]), (8050078, [.bool]), (8200080, [.bool]), (10200074, [.bool]), (15250150, [])]
def rk (n : Nat) : List Knd := findN [] rks n
def xk (n : Nat) : List XK := findN [] [(50021, [.cst, .mp 80 4]), (50022, [.cst, .mp 80 4]), (50026, [.cst]), (50030, [.box 88]), (50031, [.box 88]), (50032, [.box 88]), (50033, [.cst]), (50045, [.cst, .mp 80 4]), (50046, [.cst, .mp 80 4]), (50054, [.box 88]), (50055, [.box 88]), (50056, [.box 88]), (50059, [.box 128]), (50060, [.box 128]), (50061, [.cst]), (50062, [.box 128]), (50063, [.cst]), (50075, [.cst, .mp 80 4]), (50079, [.cst, .cst, .mp 80 4]), (50090, [.box 128]), (50091, [.box 128]), (50092, [.box 128]), (50093, [.box 128]), (50151, [.box 3]), (2250020, [.cst, .mp 80 4]), (2250082, [.cst, .mp 80 4]), (2350020, [.cst, .mp 80 4]), (2750025, [.cst]), (2750053, [.cst]), (7650074, [.cst, .mp 80 4]), (8050078, [.cst, .cst, .mp 80 4]), (15250150, [.box 3])] n
def nt (n : Nat) : Nat := findN 0 [(3, 141), (4, 74), (5, 26), (6, 47), (7, 26), (8, 69), (9, 108), (10, 118), (11, 32), (12, 55), (13, 93), (14, 79), (15, 4), (16, 29), (17, 26), (18, 20), (19, 78), (23, 63), (24, 55), (27, 11), (28, 11), (29, 6), (34, 6), (35, 7), (36, 10), (37, 41), (38, 13), (39, 7), (40, 11), (41, 36), (42, 67), (43, 72), (44, 144), (47, 21), (48, 26), (49, 245), (50, 38), (51, 51), (52, 26), (57, 5), (58, 6), (64, 18), (65, 177), (66, 26), (67, 20), (68, 10), (69, 15), (70, 21), (71, 22), (72, 26), (73, 20), (77, 17), (81, 10), (83, 18), (84, 22), (85, 36), (86, 8), (87, 18), (88, 11), (94, 64), (95, 15), (96, 163), (97, 269), (98, 37), (99, 84), (100, 39), (101, 31), (102, 3), (103, 4), (104, 37), (105, 24), (106, 10), (107, 6), (108, 15), (109, 11), (110, 9), (111, 6), (112, 7), (113, 11), (114, 7), (115, 54), (116, 53), (122, 54), (123, 9), (124, 26), (125, 58), (126, 55), (127, 21), (128, 20), (129, 26), (130, 24), (131, 68), (132, 20), (133, 84), (145, 193), (146, 16), (147, 20), (148, 10), (149, 66), (152, 68), (161, 46), (162, 25), (163, 23), (164, 14), (165, 29), (166, 31), (50021, 59), (50022, 73), (50026, 13), (50030, 5), (50031, 5), (50032, 38), (50033, 15), (50045, 80), (50046, 14), (50054, 64), (50055, 8), (50056, 23), (50059, 5), (50060, 5), (50061, 8), (50062, 41), (50063, 15), (50075, 40), (50079, 19), (50090, 75), (50091, 14), (50092, 9), (50093, 30), (50151, 5), (2250020, 23), (2250082, 32), (2350020, 23), (2750025, 9), (2750053, 19), (7650074, 32), (7800076, 32), (8050078, 32), (8200080, 32), (10200074, 32), (15250150, 20)] n
noncomputable def tb0 : Tab T := mkTab rows cells unc dflt fns rk xk nt split split_ok
def ifcB (t : Nat) : Bool := Nat.beq t 122
def gokP (w : World) : Prop := Lib.TabIs Tryz.prog w "internal/strconv.uint64pow10" .u64 Lib.pow10Tab ∧ (∃ tp p, w.var? Tryz.prog "strconv.ErrSyntax" = some #[.iface tp p]) ∧ ∃ tp p, w.var? Tryz.prog "strconv.ErrRange" = some #[.iface tp p]
theorem var_same {w w' : World} (h : ∀ k, k < 6 → w'.heap[k]? = w.heap[k]?) {n : String} {g : Nat} (hn : Tryz.prog.globalNamed n = some g) (hg : g < 6) : w'.var? Tryz.prog n = w.var? Tryz.prog n := by
 simp only [World.var?, hn, Option.bind_some, h g hg]
theorem gokP_ok (w w' : World) (h : ∀ k, k < 6 → w'.heap[k]? = w.heap[k]?) (hg : gokP w) : gokP w' := by
 unfold gokP Lib.TabIs at hg ⊢
 rw [var_same h (n := "internal/strconv.uint64pow10") (g := 3) (by kernel_rfl) (by omega), var_same h (n := "strconv.ErrSyntax") (g := 1) (by kernel_rfl) (by omega), var_same h (n := "strconv.ErrRange") (g := 2) (by kernel_rfl) (by omega)]
 exact hg
noncomputable def tb : Tab T := withG tb0 ifcB 6 gokP gokP_ok
noncomputable def rd100 (xs : List Func) (n : Int) : Func := rdl tb 100 xs n
noncomputable def rd43 (xs : List Node) (n : Int) : Node := rdl tb 43 xs n
noncomputable def rd52 (xs : List Match) (n : Int) : Match := rdl tb 52 xs n
noncomputable def rd3 (xs : List Int) (n : Int) : Int := rdl tb 3 xs n
noncomputable def rd49 (xs : List Expr) (n : Int) : Expr := rdl tb 49 xs n
noncomputable def rd47 (xs : List Agg) (n : Int) : Agg := rdl tb 47 xs n
noncomputable def rd103 (xs : List Pat) (n : Int) : Pat := rdl tb 103 xs n
noncomputable def rd77 (xs : List Col) (n : Int) : Col := rdl tb 77 xs n
noncomputable def rd63 (xs : List (List Bool)) (n : Int) : List Bool := rdl tb 63 xs n
noncomputable def rd4 (xs : List Bool) (n : Int) : Bool := rdl tb 4 xs n
noncomputable def rd9 (xs : List ByteArray) (n : Int) : ByteArray := rdl tb 9 xs n
noncomputable def rd5 (xs : List Int) (n : Int) : Int := rdl tb 5 xs n
noncomputable def rd33 (xs : List (List Int)) (n : Int) : List Int := rdl tb 33 xs n
noncomputable def rd152 (xs : List Body) (n : Int) : Body := rdl tb 152 xs n
theorem tb0_ok : TabOk Tryz.prog tb0 := by
 refine tabOk_of (by kernel_rfl) (by kernel_rfl) unc_ok (fun r hr => ?_) (fun r hr => ?_)
 ·simp only [rows, List.mem_cons, List.mem_nil_iff, or_false] at hr
  rcases hr with rfl | rfl | rfl | rfl | rfl | rfl | rfl | rfl | rfl | rfl | rfl | rfl | rfl | rfl | rfl | rfl | rfl | rfl | rfl | rfl | rfl | rfl | rfl | rfl | rfl | rfl | rfl | rfl | rfl | rfl | rfl | rfl | rfl | rfl | rfl | rfl | rfl | rfl
  ·intro e he; cases he
  ·intro e he; cases he
  ·intro e he; cases he
  ·intro e he; cases he
  ·intro e he re hre x; cases he; cases hre; exact ⟨rfl, rfl⟩
  ·intro e he re hre x; cases he; cases hre; exact ⟨rfl, rfl⟩
  ·intro e he; cases he
  ·intro e he re hre x; cases he; cases hre; exact ⟨rfl, rfl⟩
  ·intro e he re hre x; cases he; cases hre; exact ⟨rfl, rfl⟩
  ·intro e he re hre x; cases he; cases hre; exact ⟨rfl, rfl⟩
  ·intro e he re hre x; cases he; cases hre; exact ⟨rfl, rfl⟩
  ·intro e he re hre x; cases he; cases hre; exact ⟨rfl, rfl⟩
  ·intro e he re hre x; cases he; cases hre; exact ⟨rfl, rfl⟩
  ·intro e he; cases he
  ·intro e he; cases he
  ·intro e he; cases he
  ·intro e he; cases he
  ·intro e he re hre x; cases he; cases hre; exact ⟨rfl, rfl⟩
  ·intro e he re hre x; cases he; cases hre; exact ⟨rfl, rfl⟩
  ·intro e he; cases he
  ·intro e he re hre x; cases he; cases hre; exact ⟨rfl, rfl⟩
  ·intro e he; cases he
  ·intro e he; cases he
  ·intro e he; cases he
  ·intro e he; cases he
  ·intro e he; cases he
  ·intro e he; cases he
  ·intro e he; cases he
  ·intro e he; cases he
  ·intro e he; cases he
  ·intro e he re hre x; cases he; cases hre; exact ⟨rfl, rfl⟩
  ·intro e he re hre x; cases he; cases hre; exact ⟨rfl, rfl⟩
  ·intro e he re hre x; cases he; cases hre; exact ⟨rfl, rfl⟩
  ·intro e he; cases he
  ·intro e he; cases he
  ·intro e he; cases he
  ·intro e he; cases he
  ·intro e he; cases he
 ·simp only [rows, List.mem_cons, List.mem_nil_iff, or_false] at hr
  rcases hr with rfl | rfl | rfl | rfl | rfl | rfl | rfl | rfl | rfl | rfl | rfl | rfl | rfl | rfl | rfl | rfl | rfl | rfl | rfl | rfl | rfl | rfl | rfl | rfl | rfl | rfl | rfl | rfl | rfl | rfl | rfl | rfl | rfl | rfl | rfl | rfl | rfl | rfl
  ·intro _ x; rfl
  ·intro _ x; rfl
  ·intro _ x; rfl
  ·intro _ x; rfl
  ·intro hf; cases hf
  ·intro hf; cases hf
  ·intro hf; cases hf
  ·intro hf; cases hf
  ·intro hf; cases hf
  ·intro hf; cases hf
  ·intro hf; cases hf
  ·intro hf; cases hf
  ·intro hf; cases hf
  ·intro hf; cases hf
  ·intro _ x; rfl
  ·intro hf; cases hf
  ·intro _ x; rfl
  ·intro hf; cases hf
  ·intro hf; cases hf
  ·intro hf; cases hf
  ·intro hf; cases hf
  ·intro _ x; rfl
  ·intro _ x; rfl
  ·intro hf; cases hf
  ·intro _ x; rfl
  ·intro hf; cases hf
  ·intro hf; cases hf
  ·intro _ x; rfl
  ·intro hf; cases hf
  ·intro _ x; rfl
  ·intro hf; cases hf
  ·intro hf; cases hf
  ·intro hf; cases hf
  ·intro hf; cases hf
  ·intro hf; cases hf
  ·intro hf; cases hf
  ·intro hf; cases hf
  ·intro hf; cases hf
theorem tb_ok : TabOk Tryz.prog tb := withG_ok tb0_ok fun t h => by
 have h := Nat.eq_of_beq_eq_true h
 subst h
 exact ⟨_, Tryz.underlying122⟩
end Go.Fw.S1
