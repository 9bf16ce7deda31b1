import Derived.Test.YtmogfjfdbbggcaaFwD
import Derived.Test.YtmogfjfdbbggcaaProg
import Derived.KernelRfl
set_option linter.unusedVariables false
set_option maxHeartbeats 1000000
set_option maxRecDepth 10000
namespace Go.Fw.S1
open Go.Proofs
structure Expr where
  f0 : Int
  f1 : Int
  f2 : ByteArray
  f3 : List Expr
structure Func where
  f0 : ByteArray
  f1 : List Int
  f2 : Int
  f3 : Expr
structure Agg where
  f0 : Int
  f1 : Int
  f2 : ByteArray
structure Pat where
  f0 : Expr
  f1 : Int
structure Col where
  f0 : ByteArray
  f1 : Int
  f2 : ByteArray
structure Node where
  f0 : Int
  f1 : List Int
  f2 : ByteArray
  f3 : Int
  f4 : List Expr
  f5 : Int
  f6 : Int
  f7 : Int
  f8 : List Int
  f9 : List Int
  f10 : Int
  f11 : Int
  f12 : Int
  f13 : List Agg
  f14 : List Pat
  f15 : List Col
structure Program where
  f0 : List Func
  f1 : List Node
structure Match where
  f0 : Int
  f1 : Int
  f2 : Int
structure Ty75 where
  f0 : Int
  f1 : Int
structure Ty88 where
  f0 : Int
  f1 : Int
  f2 : Int
  f3 : Int
  f4 : Int
  f5 : Int
  f6 : Int
  f7 : Int
inductive Kind where
  | k0
  | k1
  | k2
  | k3
  | k4
  | k5
  | k6
  | k7
structure Body where
  f0 : Expr
  f1 : Bool
def T : Nat → Type
  | 3 => Int
  | 4 => Bool
  | 5 => Int
  | 9 => ByteArray
  | 22 => List Func
  | 23 => List Node
  | 25 => Program
  | 29 => List Match
  | 31 => List Int
  | 36 => Match
  | 38 => List Expr
  | 40 => Expr
  | 42 => Func
  | 43 => List Agg
  | 44 => List Pat
  | 45 => List Col
  | 47 => Node
  | 48 => List Int
  | 50 => Col
  | 52 => Agg
  | 58 => Pat
  | 69 => Nat
  | 71 => List Bool
  | 75 => Ty75
  | 78 => Nat
  | 88 => Ty88
  | 100 => Kind
  | 104 => List (List Int)
  | 118 => List Body
  | 120 => Body
  | _ => Unit
theorem T_ne : ∀ e, Nonempty (T e) := by
  intro e
  unfold T
  split
  · exact ⟨(0 : Int)⟩
  · exact ⟨false⟩
  · exact ⟨(0 : Int)⟩
  · exact ⟨ByteArray.empty⟩
  · exact ⟨[]⟩
  · exact ⟨[]⟩
  · exact ⟨(Program.mk [] [])⟩
  · exact ⟨[]⟩
  · exact ⟨[]⟩
  · exact ⟨(Match.mk (0 : Int) (0 : Int) (0 : Int))⟩
  · exact ⟨[]⟩
  · exact ⟨(Expr.mk (0 : Int) (0 : Int) ByteArray.empty [])⟩
  · exact ⟨(Func.mk ByteArray.empty [] (0 : Int) (Expr.mk (0 : Int) (0 : Int) ByteArray.empty []))⟩
  · exact ⟨[]⟩
  · exact ⟨[]⟩
  · exact ⟨[]⟩
  · exact ⟨(Node.mk (0 : Int) [] ByteArray.empty (0 : Int) [] (0 : Int) (0 : Int) (0 : Int) [] [] (0 : Int) (0 : Int) (0 : Int) [] [] [])⟩
  · exact ⟨[]⟩
  · exact ⟨(Col.mk ByteArray.empty (0 : Int) ByteArray.empty)⟩
  · exact ⟨(Agg.mk (0 : Int) (0 : Int) ByteArray.empty)⟩
  · exact ⟨(Pat.mk (Expr.mk (0 : Int) (0 : Int) ByteArray.empty []) (0 : Int))⟩
  · exact ⟨(0 : Nat)⟩
  · exact ⟨[]⟩
  · exact ⟨(Ty75.mk (0 : Int) (0 : Int))⟩
  · exact ⟨(0 : Nat)⟩
  · exact ⟨(Ty88.mk (0 : Int) (0 : Int) (0 : Int) (0 : Int) (0 : Int) (0 : Int) (0 : Int) (0 : Int))⟩
  · exact ⟨Kind.k0⟩
  · exact ⟨[]⟩
  · exact ⟨[]⟩
  · exact ⟨(Body.mk (Expr.mk (0 : Int) (0 : Int) ByteArray.empty []) false)⟩
  · exact ⟨()⟩
def kcells100 : Kind → List (Val T)
  | .k0 => [.int .i64 0, .clo 64 [] [], .clo 65 [] [], .bool false]
  | .k1 => [.int .i64 1, .clo 64 [] [], .clo 65 [] [], .bool false]
  | .k2 => [.int .i64 2, .clo 64 [] [], .clo 65 [] [], .bool false]
  | .k3 => [.int .i64 1, .clo 66 [] [], .clo 67 [] [], .bool true]
  | .k4 => [.int .i64 1, .clo 68 [] [], .clo 67 [] [], .bool true]
  | .k5 => [.int .i64 2, .clo 71 [] [], .clo 72 [] [], .bool true]
  | .k6 => [.int .i64 2, .clo 73 [] [], .clo 74 [] [], .bool true]
  | .k7 => [.int .i64 1, .clo 75 [] [], .clo 76 [] [], .bool true]
def kfind100 (x0 : Int) (x1 x2 : Nat) (x3 : Bool) : Option Kind :=
  bif decide (x0 = 0) && (Nat.beq x1 64 && (Nat.beq x2 65 && !x3)) then some .k0 else
  bif decide (x0 = 1) && (Nat.beq x1 64 && (Nat.beq x2 65 && !x3)) then some .k1 else
  bif decide (x0 = 2) && (Nat.beq x1 64 && (Nat.beq x2 65 && !x3)) then some .k2 else
  bif decide (x0 = 1) && (Nat.beq x1 66 && (Nat.beq x2 67 && x3)) then some .k3 else
  bif decide (x0 = 1) && (Nat.beq x1 68 && (Nat.beq x2 67 && x3)) then some .k4 else
  bif decide (x0 = 2) && (Nat.beq x1 71 && (Nat.beq x2 72 && x3)) then some .k5 else
  bif decide (x0 = 2) && (Nat.beq x1 73 && (Nat.beq x2 74 && x3)) then some .k6 else
  bif decide (x0 = 1) && (Nat.beq x1 75 && (Nat.beq x2 76 && x3)) then some .k7 else
  none
theorem kfind100_ok {x0 : Int} {x1 x2 : Nat} {x3 : Bool} {k : Kind} (h : kfind100 x0 x1 x2 x3 = some k) : kcells100 k = [.int .i64 x0, .clo x1 [] [], .clo x2 [] [], .bool x3] := by
  unfold kfind100 at h
  by_cases h0 : (decide (x0 = 0) && (Nat.beq x1 64 && (Nat.beq x2 65 && !x3))) = true
  · rw [h0] at h
    simp only [cond_true, Option.some.injEq] at h
    subst h
    simp only [Bool.and_eq_true, decide_eq_true_eq] at h0
    obtain ⟨q0, q1, q2, q3⟩ := h0
    have q1 := Nat.eq_of_beq_eq_true q1
    have q2 := Nat.eq_of_beq_eq_true q2
    have q3 : x3 = false := by simpa using q3
    subst q0; subst q1; subst q2; subst q3
    rfl
  rw [Bool.not_eq_true] at h0
  rw [h0] at h
  simp only [cond_false] at h
  by_cases h1 : (decide (x0 = 1) && (Nat.beq x1 64 && (Nat.beq x2 65 && !x3))) = true
  · rw [h1] at h
    simp only [cond_true, Option.some.injEq] at h
    subst h
    simp only [Bool.and_eq_true, decide_eq_true_eq] at h1
    obtain ⟨q0, q1, q2, q3⟩ := h1
    have q1 := Nat.eq_of_beq_eq_true q1
    have q2 := Nat.eq_of_beq_eq_true q2
    have q3 : x3 = false := by simpa using q3
    subst q0; subst q1; subst q2; subst q3
    rfl
  rw [Bool.not_eq_true] at h1
  rw [h1] at h
  simp only [cond_false] at h
  by_cases h2 : (decide (x0 = 2) && (Nat.beq x1 64 && (Nat.beq x2 65 && !x3))) = true
  · rw [h2] at h
    simp only [cond_true, Option.some.injEq] at h
    subst h
    simp only [Bool.and_eq_true, decide_eq_true_eq] at h2
    obtain ⟨q0, q1, q2, q3⟩ := h2
    have q1 := Nat.eq_of_beq_eq_true q1
    have q2 := Nat.eq_of_beq_eq_true q2
    have q3 : x3 = false := by simpa using q3
    subst q0; subst q1; subst q2; subst q3
    rfl
  rw [Bool.not_eq_true] at h2
  rw [h2] at h
  simp only [cond_false] at h
  by_cases h3 : (decide (x0 = 1) && (Nat.beq x1 66 && (Nat.beq x2 67 && x3))) = true
  · rw [h3] at h
    simp only [cond_true, Option.some.injEq] at h
    subst h
    simp only [Bool.and_eq_true, decide_eq_true_eq] at h3
    obtain ⟨q0, q1, q2, q3⟩ := h3
    have q1 := Nat.eq_of_beq_eq_true q1
    have q2 := Nat.eq_of_beq_eq_true q2
    have q3 : x3 = true := by simpa using q3
    subst q0; subst q1; subst q2; subst q3
    rfl
  rw [Bool.not_eq_true] at h3
  rw [h3] at h
  simp only [cond_false] at h
  by_cases h4 : (decide (x0 = 1) && (Nat.beq x1 68 && (Nat.beq x2 67 && x3))) = true
  · rw [h4] at h
    simp only [cond_true, Option.some.injEq] at h
    subst h
    simp only [Bool.and_eq_true, decide_eq_true_eq] at h4
    obtain ⟨q0, q1, q2, q3⟩ := h4
    have q1 := Nat.eq_of_beq_eq_true q1
    have q2 := Nat.eq_of_beq_eq_true q2
    have q3 : x3 = true := by simpa using q3
    subst q0; subst q1; subst q2; subst q3
    rfl
  rw [Bool.not_eq_true] at h4
  rw [h4] at h
  simp only [cond_false] at h
  by_cases h5 : (decide (x0 = 2) && (Nat.beq x1 71 && (Nat.beq x2 72 && x3))) = true
  · rw [h5] at h
    simp only [cond_true, Option.some.injEq] at h
    subst h
    simp only [Bool.and_eq_true, decide_eq_true_eq] at h5
    obtain ⟨q0, q1, q2, q3⟩ := h5
    have q1 := Nat.eq_of_beq_eq_true q1
    have q2 := Nat.eq_of_beq_eq_true q2
    have q3 : x3 = true := by simpa using q3
    subst q0; subst q1; subst q2; subst q3
    rfl
  rw [Bool.not_eq_true] at h5
  rw [h5] at h
  simp only [cond_false] at h
  by_cases h6 : (decide (x0 = 2) && (Nat.beq x1 73 && (Nat.beq x2 74 && x3))) = true
  · rw [h6] at h
    simp only [cond_true, Option.some.injEq] at h
    subst h
    simp only [Bool.and_eq_true, decide_eq_true_eq] at h6
    obtain ⟨q0, q1, q2, q3⟩ := h6
    have q1 := Nat.eq_of_beq_eq_true q1
    have q2 := Nat.eq_of_beq_eq_true q2
    have q3 : x3 = true := by simpa using q3
    subst q0; subst q1; subst q2; subst q3
    rfl
  rw [Bool.not_eq_true] at h6
  rw [h6] at h
  simp only [cond_false] at h
  by_cases h7 : (decide (x0 = 1) && (Nat.beq x1 75 && (Nat.beq x2 76 && x3))) = true
  · rw [h7] at h
    simp only [cond_true, Option.some.injEq] at h
    subst h
    simp only [Bool.and_eq_true, decide_eq_true_eq] at h7
    obtain ⟨q0, q1, q2, q3⟩ := h7
    have q1 := Nat.eq_of_beq_eq_true q1
    have q2 := Nat.eq_of_beq_eq_true q2
    have q3 : x3 = true := by simpa using q3
    subst q0; subst q1; subst q2; subst q3
    rfl
  rw [Bool.not_eq_true] at h7
  rw [h7] at h
  simp only [cond_false] at h
  cases h
def cells : (e : Nat) → T e → List (Val T)
  | 3, x => [.int .i64 x]
  | 4, x => [.bool x]
  | 5, x => [.int .u8 x]
  | 9, x => [.str x]
  | 22, x => [.lst 42 x]
  | 23, x => [.lst 47 x]
  | 25, x => [.lst 42 x.f0, .lst 47 x.f1]
  | 29, x => [.lst 36 x]
  | 31, x => [.lst 3 x]
  | 36, x => [.int .i64 x.f0, .int .i64 x.f1, .int .i64 x.f2]
  | 38, x => [.lst 40 x]
  | 40, x => [.int .i64 x.f0, .int .i64 x.f1, .str x.f2, .lst 40 x.f3]
  | 42, x => [.str x.f0, .lst 3 x.f1, .int .i64 x.f2, .int .i64 x.f3.f0, .int .i64 x.f3.f1, .str x.f3.f2, .lst 40 x.f3.f3]
  | 43, x => [.lst 52 x]
  | 44, x => [.lst 58 x]
  | 45, x => [.lst 50 x]
  | 47, x => [.int .i64 x.f0, .lst 3 x.f1, .str x.f2, .int .i64 x.f3, .lst 40 x.f4, .int .i64 x.f5, .int .i64 x.f6, .int .i64 x.f7, .lst 3 x.f8, .lst 3 x.f9, .int .i64 x.f10, .int .i64 x.f11, .int .i64 x.f12, .lst 52 x.f13, .lst 58 x.f14, .lst 50 x.f15]
  | 48, x => [.lst 5 x]
  | 50, x => [.str x.f0, .int .i64 x.f1, .str x.f2]
  | 52, x => [.int .i64 x.f0, .int .i64 x.f1, .str x.f2]
  | 58, x => [.int .i64 x.f0.f0, .int .i64 x.f0.f1, .str x.f0.f2, .lst 40 x.f0.f3, .int .i64 x.f1]
  | 69, x => [.clo x [] []]
  | 71, x => [.lst 4 x]
  | 75, x => [.int .i64 x.f0, .int .i64 x.f1]
  | 78, x => [.clo x [] []]
  | 88, x => [.int .i64 x.f0, .int .i64 x.f1, .int .i64 x.f2, .int .i64 x.f3, .int .i64 x.f4, .int .i64 x.f5, .int .i64 x.f6, .int .i64 x.f7]
  | 100, x => kcells100 x
  | 104, x => [.lst 31 x]
  | 118, x => [.lst 120 x]
  | 120, x => [.int .i64 x.f0.f0, .int .i64 x.f0.f1, .str x.f0.f2, .lst 40 x.f0.f3, .bool x.f1]
  | _, _ => []
def unc3 : List (Val T) → Option (Int)
  | c0 :: [] => (asI .i64 c0).bind fun x0 => some x0
  | _ => none
theorem unc3_ok {vs : List (Val T)} {x : Int} (h : unc3 vs = some x) : SimL (cells 3 x) vs ∧ pureL (cells 3 x) = true := by
  unfold unc3 at h
  split at h
  · obtain ⟨x0, h0, h⟩ := Option.bind_eq_some_iff.1 h
    have h := Option.some.inj h
    subst h
    exact ⟨.cons (asI_ok h0) (.nil), rfl⟩
  · cases h
def unc4 : List (Val T) → Option (Bool)
  | c0 :: [] => (asB c0).bind fun x0 => some x0
  | _ => none
theorem unc4_ok {vs : List (Val T)} {x : Bool} (h : unc4 vs = some x) : SimL (cells 4 x) vs ∧ pureL (cells 4 x) = true := by
  unfold unc4 at h
  split at h
  · obtain ⟨x0, h0, h⟩ := Option.bind_eq_some_iff.1 h
    have h := Option.some.inj h
    subst h
    exact ⟨.cons (asB_ok h0) (.nil), rfl⟩
  · cases h
def unc5 : List (Val T) → Option (Int)
  | c0 :: [] => (asI .u8 c0).bind fun x0 => some x0
  | _ => none
theorem unc5_ok {vs : List (Val T)} {x : Int} (h : unc5 vs = some x) : SimL (cells 5 x) vs ∧ pureL (cells 5 x) = true := by
  unfold unc5 at h
  split at h
  · obtain ⟨x0, h0, h⟩ := Option.bind_eq_some_iff.1 h
    have h := Option.some.inj h
    subst h
    exact ⟨.cons (asI_ok h0) (.nil), rfl⟩
  · cases h
def unc9 : List (Val T) → Option (ByteArray)
  | c0 :: [] => (asS c0).bind fun x0 => some x0
  | _ => none
theorem unc9_ok {vs : List (Val T)} {x : ByteArray} (h : unc9 vs = some x) : SimL (cells 9 x) vs ∧ pureL (cells 9 x) = true := by
  unfold unc9 at h
  split at h
  · obtain ⟨x0, h0, h⟩ := Option.bind_eq_some_iff.1 h
    have h := Option.some.inj h
    subst h
    exact ⟨.cons (asS_ok h0) (.nil), rfl⟩
  · cases h
def unc22 : List (Val T) → Option (List Func)
  | c0 :: [] => (asL (T := T) 42 c0).bind fun x0 => some x0
  | _ => none
theorem unc22_ok {vs : List (Val T)} {x : List Func} (h : unc22 vs = some x) : SimL (cells 22 x) vs ∧ pureL (cells 22 x) = true := by
  unfold unc22 at h
  split at h
  · obtain ⟨x0, h0, h⟩ := Option.bind_eq_some_iff.1 h
    have h := Option.some.inj h
    subst h
    exact ⟨.cons (asL_ok h0) (.nil), rfl⟩
  · cases h
def unc23 : List (Val T) → Option (List Node)
  | c0 :: [] => (asL (T := T) 47 c0).bind fun x0 => some x0
  | _ => none
theorem unc23_ok {vs : List (Val T)} {x : List Node} (h : unc23 vs = some x) : SimL (cells 23 x) vs ∧ pureL (cells 23 x) = true := by
  unfold unc23 at h
  split at h
  · obtain ⟨x0, h0, h⟩ := Option.bind_eq_some_iff.1 h
    have h := Option.some.inj h
    subst h
    exact ⟨.cons (asL_ok h0) (.nil), rfl⟩
  · cases h
def unc25 : List (Val T) → Option (Program)
  | c0 :: c1 :: [] => (asL (T := T) 42 c0).bind fun x0 => (asL (T := T) 47 c1).bind fun x1 => some (Program.mk x0 x1)
  | _ => none
theorem unc25_ok {vs : List (Val T)} {x : Program} (h : unc25 vs = some x) : SimL (cells 25 x) vs ∧ pureL (cells 25 x) = true := by
  unfold unc25 at h
  split at h
  · obtain ⟨x0, h0, h⟩ := Option.bind_eq_some_iff.1 h
    obtain ⟨x1, h1, h⟩ := Option.bind_eq_some_iff.1 h
    have h := Option.some.inj h
    subst h
    exact ⟨.cons (asL_ok h0) (.cons (asL_ok h1) (.nil)), rfl⟩
  · cases h
def unc29 : List (Val T) → Option (List Match)
  | c0 :: [] => (asL (T := T) 36 c0).bind fun x0 => some x0
  | _ => none
theorem unc29_ok {vs : List (Val T)} {x : List Match} (h : unc29 vs = some x) : SimL (cells 29 x) vs ∧ pureL (cells 29 x) = true := by
  unfold unc29 at h
  split at h
  · obtain ⟨x0, h0, h⟩ := Option.bind_eq_some_iff.1 h
    have h := Option.some.inj h
    subst h
    exact ⟨.cons (asL_ok h0) (.nil), rfl⟩
  · cases h
def unc31 : List (Val T) → Option (List Int)
  | c0 :: [] => (asL (T := T) 3 c0).bind fun x0 => some x0
  | _ => none
theorem unc31_ok {vs : List (Val T)} {x : List Int} (h : unc31 vs = some x) : SimL (cells 31 x) vs ∧ pureL (cells 31 x) = true := by
  unfold unc31 at h
  split at h
  · obtain ⟨x0, h0, h⟩ := Option.bind_eq_some_iff.1 h
    have h := Option.some.inj h
    subst h
    exact ⟨.cons (asL_ok h0) (.nil), rfl⟩
  · cases h
def unc36 : List (Val T) → Option (Match)
  | c0 :: c1 :: c2 :: [] => (asI .i64 c0).bind fun x0 => (asI .i64 c1).bind fun x1 => (asI .i64 c2).bind fun x2 => some (Match.mk x0 x1 x2)
  | _ => none
theorem unc36_ok {vs : List (Val T)} {x : Match} (h : unc36 vs = some x) : SimL (cells 36 x) vs ∧ pureL (cells 36 x) = true := by
  unfold unc36 at h
  split at h
  · obtain ⟨x0, h0, h⟩ := Option.bind_eq_some_iff.1 h
    obtain ⟨x1, h1, h⟩ := Option.bind_eq_some_iff.1 h
    obtain ⟨x2, h2, h⟩ := Option.bind_eq_some_iff.1 h
    have h := Option.some.inj h
    subst h
    exact ⟨.cons (asI_ok h0) (.cons (asI_ok h1) (.cons (asI_ok h2) (.nil))), rfl⟩
  · cases h
def unc38 : List (Val T) → Option (List Expr)
  | c0 :: [] => (asL (T := T) 40 c0).bind fun x0 => some x0
  | _ => none
theorem unc38_ok {vs : List (Val T)} {x : List Expr} (h : unc38 vs = some x) : SimL (cells 38 x) vs ∧ pureL (cells 38 x) = true := by
  unfold unc38 at h
  split at h
  · obtain ⟨x0, h0, h⟩ := Option.bind_eq_some_iff.1 h
    have h := Option.some.inj h
    subst h
    exact ⟨.cons (asL_ok h0) (.nil), rfl⟩
  · cases h
def unc40 : List (Val T) → Option (Expr)
  | c0 :: c1 :: c2 :: c3 :: [] => (asI .i64 c0).bind fun x0 => (asI .i64 c1).bind fun x1 => (asS c2).bind fun x2 => (asL (T := T) 40 c3).bind fun x3 => some (Expr.mk x0 x1 x2 x3)
  | _ => none
theorem unc40_ok {vs : List (Val T)} {x : Expr} (h : unc40 vs = some x) : SimL (cells 40 x) vs ∧ pureL (cells 40 x) = true := by
  unfold unc40 at h
  split at h
  · obtain ⟨x0, h0, h⟩ := Option.bind_eq_some_iff.1 h
    obtain ⟨x1, h1, h⟩ := Option.bind_eq_some_iff.1 h
    obtain ⟨x2, h2, h⟩ := Option.bind_eq_some_iff.1 h
    obtain ⟨x3, h3, h⟩ := Option.bind_eq_some_iff.1 h
    have h := Option.some.inj h
    subst h
    exact ⟨.cons (asI_ok h0) (.cons (asI_ok h1) (.cons (asS_ok h2) (.cons (asL_ok h3) (.nil)))), rfl⟩
  · cases h
def unc42 : List (Val T) → Option (Func)
  | c0 :: c1 :: c2 :: c3 :: c4 :: c5 :: c6 :: [] => (asS c0).bind fun x0 => (asL (T := T) 3 c1).bind fun x1 => (asI .i64 c2).bind fun x2 => (asI .i64 c3).bind fun x3 => (asI .i64 c4).bind fun x4 => (asS c5).bind fun x5 => (asL (T := T) 40 c6).bind fun x6 => some (Func.mk x0 x1 x2 (Expr.mk x3 x4 x5 x6))
  | _ => none
theorem unc42_ok {vs : List (Val T)} {x : Func} (h : unc42 vs = some x) : SimL (cells 42 x) vs ∧ pureL (cells 42 x) = true := by
  unfold unc42 at h
  split at h
  · obtain ⟨x0, h0, h⟩ := Option.bind_eq_some_iff.1 h
    obtain ⟨x1, h1, h⟩ := Option.bind_eq_some_iff.1 h
    obtain ⟨x2, h2, h⟩ := Option.bind_eq_some_iff.1 h
    obtain ⟨x3, h3, h⟩ := Option.bind_eq_some_iff.1 h
    obtain ⟨x4, h4, h⟩ := Option.bind_eq_some_iff.1 h
    obtain ⟨x5, h5, h⟩ := Option.bind_eq_some_iff.1 h
    obtain ⟨x6, h6, h⟩ := Option.bind_eq_some_iff.1 h
    have h := Option.some.inj h
    subst h
    exact ⟨.cons (asS_ok h0) (.cons (asL_ok h1) (.cons (asI_ok h2) (.cons (asI_ok h3) (.cons (asI_ok h4) (.cons (asS_ok h5) (.cons (asL_ok h6) (.nil))))))), rfl⟩
  · cases h
def unc43 : List (Val T) → Option (List Agg)
  | c0 :: [] => (asL (T := T) 52 c0).bind fun x0 => some x0
  | _ => none
theorem unc43_ok {vs : List (Val T)} {x : List Agg} (h : unc43 vs = some x) : SimL (cells 43 x) vs ∧ pureL (cells 43 x) = true := by
  unfold unc43 at h
  split at h
  · obtain ⟨x0, h0, h⟩ := Option.bind_eq_some_iff.1 h
    have h := Option.some.inj h
    subst h
    exact ⟨.cons (asL_ok h0) (.nil), rfl⟩
  · cases h
def unc44 : List (Val T) → Option (List Pat)
  | c0 :: [] => (asL (T := T) 58 c0).bind fun x0 => some x0
  | _ => none
theorem unc44_ok {vs : List (Val T)} {x : List Pat} (h : unc44 vs = some x) : SimL (cells 44 x) vs ∧ pureL (cells 44 x) = true := by
  unfold unc44 at h
  split at h
  · obtain ⟨x0, h0, h⟩ := Option.bind_eq_some_iff.1 h
    have h := Option.some.inj h
    subst h
    exact ⟨.cons (asL_ok h0) (.nil), rfl⟩
  · cases h
def unc45 : List (Val T) → Option (List Col)
  | c0 :: [] => (asL (T := T) 50 c0).bind fun x0 => some x0
  | _ => none
theorem unc45_ok {vs : List (Val T)} {x : List Col} (h : unc45 vs = some x) : SimL (cells 45 x) vs ∧ pureL (cells 45 x) = true := by
  unfold unc45 at h
  split at h
  · obtain ⟨x0, h0, h⟩ := Option.bind_eq_some_iff.1 h
    have h := Option.some.inj h
    subst h
    exact ⟨.cons (asL_ok h0) (.nil), rfl⟩
  · cases h
def unc47 : List (Val T) → Option (Node)
  | c0 :: c1 :: c2 :: c3 :: c4 :: c5 :: c6 :: c7 :: c8 :: c9 :: c10 :: c11 :: c12 :: c13 :: c14 :: c15 :: [] => (asI .i64 c0).bind fun x0 => (asL (T := T) 3 c1).bind fun x1 => (asS c2).bind fun x2 => (asI .i64 c3).bind fun x3 => (asL (T := T) 40 c4).bind fun x4 => (asI .i64 c5).bind fun x5 => (asI .i64 c6).bind fun x6 => (asI .i64 c7).bind fun x7 => (asL (T := T) 3 c8).bind fun x8 => (asL (T := T) 3 c9).bind fun x9 => (asI .i64 c10).bind fun x10 => (asI .i64 c11).bind fun x11 => (asI .i64 c12).bind fun x12 => (asL (T := T) 52 c13).bind fun x13 => (asL (T := T) 58 c14).bind fun x14 => (asL (T := T) 50 c15).bind fun x15 => some (Node.mk x0 x1 x2 x3 x4 x5 x6 x7 x8 x9 x10 x11 x12 x13 x14 x15)
  | _ => none
theorem unc47_ok {vs : List (Val T)} {x : Node} (h : unc47 vs = some x) : SimL (cells 47 x) vs ∧ pureL (cells 47 x) = true := by
  unfold unc47 at h
  split at h
  · obtain ⟨x0, h0, h⟩ := Option.bind_eq_some_iff.1 h
    obtain ⟨x1, h1, h⟩ := Option.bind_eq_some_iff.1 h
    obtain ⟨x2, h2, h⟩ := Option.bind_eq_some_iff.1 h
    obtain ⟨x3, h3, h⟩ := Option.bind_eq_some_iff.1 h
    obtain ⟨x4, h4, h⟩ := Option.bind_eq_some_iff.1 h
    obtain ⟨x5, h5, h⟩ := Option.bind_eq_some_iff.1 h
    obtain ⟨x6, h6, h⟩ := Option.bind_eq_some_iff.1 h
    obtain ⟨x7, h7, h⟩ := Option.bind_eq_some_iff.1 h
    obtain ⟨x8, h8, h⟩ := Option.bind_eq_some_iff.1 h
    obtain ⟨x9, h9, h⟩ := Option.bind_eq_some_iff.1 h
    obtain ⟨x10, h10, h⟩ := Option.bind_eq_some_iff.1 h
    obtain ⟨x11, h11, h⟩ := Option.bind_eq_some_iff.1 h
    obtain ⟨x12, h12, h⟩ := Option.bind_eq_some_iff.1 h
    obtain ⟨x13, h13, h⟩ := Option.bind_eq_some_iff.1 h
    obtain ⟨x14, h14, h⟩ := Option.bind_eq_some_iff.1 h
    obtain ⟨x15, h15, h⟩ := Option.bind_eq_some_iff.1 h
    have h := Option.some.inj h
    subst h
    exact ⟨.cons (asI_ok h0) (.cons (asL_ok h1) (.cons (asS_ok h2) (.cons (asI_ok h3) (.cons (asL_ok h4) (.cons (asI_ok h5) (.cons (asI_ok h6) (.cons (asI_ok h7) (.cons (asL_ok h8) (.cons (asL_ok h9) (.cons (asI_ok h10) (.cons (asI_ok h11) (.cons (asI_ok h12) (.cons (asL_ok h13) (.cons (asL_ok h14) (.cons (asL_ok h15) (.nil)))))))))))))))), rfl⟩
  · cases h
def unc48 : List (Val T) → Option (List Int)
  | c0 :: [] => (asL (T := T) 5 c0).bind fun x0 => some x0
  | _ => none
theorem unc48_ok {vs : List (Val T)} {x : List Int} (h : unc48 vs = some x) : SimL (cells 48 x) vs ∧ pureL (cells 48 x) = true := by
  unfold unc48 at h
  split at h
  · obtain ⟨x0, h0, h⟩ := Option.bind_eq_some_iff.1 h
    have h := Option.some.inj h
    subst h
    exact ⟨.cons (asL_ok h0) (.nil), rfl⟩
  · cases h
def unc50 : List (Val T) → Option (Col)
  | c0 :: c1 :: c2 :: [] => (asS c0).bind fun x0 => (asI .i64 c1).bind fun x1 => (asS c2).bind fun x2 => some (Col.mk x0 x1 x2)
  | _ => none
theorem unc50_ok {vs : List (Val T)} {x : Col} (h : unc50 vs = some x) : SimL (cells 50 x) vs ∧ pureL (cells 50 x) = true := by
  unfold unc50 at h
  split at h
  · obtain ⟨x0, h0, h⟩ := Option.bind_eq_some_iff.1 h
    obtain ⟨x1, h1, h⟩ := Option.bind_eq_some_iff.1 h
    obtain ⟨x2, h2, h⟩ := Option.bind_eq_some_iff.1 h
    have h := Option.some.inj h
    subst h
    exact ⟨.cons (asS_ok h0) (.cons (asI_ok h1) (.cons (asS_ok h2) (.nil))), rfl⟩
  · cases h
def unc52 : List (Val T) → Option (Agg)
  | c0 :: c1 :: c2 :: [] => (asI .i64 c0).bind fun x0 => (asI .i64 c1).bind fun x1 => (asS c2).bind fun x2 => some (Agg.mk x0 x1 x2)
  | _ => none
theorem unc52_ok {vs : List (Val T)} {x : Agg} (h : unc52 vs = some x) : SimL (cells 52 x) vs ∧ pureL (cells 52 x) = true := by
  unfold unc52 at h
  split at h
  · obtain ⟨x0, h0, h⟩ := Option.bind_eq_some_iff.1 h
    obtain ⟨x1, h1, h⟩ := Option.bind_eq_some_iff.1 h
    obtain ⟨x2, h2, h⟩ := Option.bind_eq_some_iff.1 h
    have h := Option.some.inj h
    subst h
    exact ⟨.cons (asI_ok h0) (.cons (asI_ok h1) (.cons (asS_ok h2) (.nil))), rfl⟩
  · cases h
def unc58 : List (Val T) → Option (Pat)
  | c0 :: c1 :: c2 :: c3 :: c4 :: [] => (asI .i64 c0).bind fun x0 => (asI .i64 c1).bind fun x1 => (asS c2).bind fun x2 => (asL (T := T) 40 c3).bind fun x3 => (asI .i64 c4).bind fun x4 => some (Pat.mk (Expr.mk x0 x1 x2 x3) x4)
  | _ => none
theorem unc58_ok {vs : List (Val T)} {x : Pat} (h : unc58 vs = some x) : SimL (cells 58 x) vs ∧ pureL (cells 58 x) = true := by
  unfold unc58 at h
  split at h
  · obtain ⟨x0, h0, h⟩ := Option.bind_eq_some_iff.1 h
    obtain ⟨x1, h1, h⟩ := Option.bind_eq_some_iff.1 h
    obtain ⟨x2, h2, h⟩ := Option.bind_eq_some_iff.1 h
    obtain ⟨x3, h3, h⟩ := Option.bind_eq_some_iff.1 h
    obtain ⟨x4, h4, h⟩ := Option.bind_eq_some_iff.1 h
    have h := Option.some.inj h
    subst h
    exact ⟨.cons (asI_ok h0) (.cons (asI_ok h1) (.cons (asS_ok h2) (.cons (asL_ok h3) (.cons (asI_ok h4) (.nil))))), rfl⟩
  · cases h
def unc69 : List (Val T) → Option (Nat)
  | c0 :: [] => (asF c0).bind fun x0 => some x0
  | _ => none
theorem unc69_ok {vs : List (Val T)} {x : Nat} (h : unc69 vs = some x) : SimL (cells 69 x) vs ∧ pureL (cells 69 x) = true := by
  unfold unc69 at h
  split at h
  · obtain ⟨x0, h0, h⟩ := Option.bind_eq_some_iff.1 h
    have h := Option.some.inj h
    subst h
    exact ⟨.cons (asF_ok h0) (.nil), rfl⟩
  · cases h
def unc71 : List (Val T) → Option (List Bool)
  | c0 :: [] => (asL (T := T) 4 c0).bind fun x0 => some x0
  | _ => none
theorem unc71_ok {vs : List (Val T)} {x : List Bool} (h : unc71 vs = some x) : SimL (cells 71 x) vs ∧ pureL (cells 71 x) = true := by
  unfold unc71 at h
  split at h
  · obtain ⟨x0, h0, h⟩ := Option.bind_eq_some_iff.1 h
    have h := Option.some.inj h
    subst h
    exact ⟨.cons (asL_ok h0) (.nil), rfl⟩
  · cases h
def unc75 : List (Val T) → Option (Ty75)
  | c0 :: c1 :: [] => (asI .i64 c0).bind fun x0 => (asI .i64 c1).bind fun x1 => some (Ty75.mk x0 x1)
  | _ => none
theorem unc75_ok {vs : List (Val T)} {x : Ty75} (h : unc75 vs = some x) : SimL (cells 75 x) vs ∧ pureL (cells 75 x) = true := by
  unfold unc75 at h
  split at h
  · obtain ⟨x0, h0, h⟩ := Option.bind_eq_some_iff.1 h
    obtain ⟨x1, h1, h⟩ := Option.bind_eq_some_iff.1 h
    have h := Option.some.inj h
    subst h
    exact ⟨.cons (asI_ok h0) (.cons (asI_ok h1) (.nil)), rfl⟩
  · cases h
def unc78 : List (Val T) → Option (Nat)
  | c0 :: [] => (asF c0).bind fun x0 => some x0
  | _ => none
theorem unc78_ok {vs : List (Val T)} {x : Nat} (h : unc78 vs = some x) : SimL (cells 78 x) vs ∧ pureL (cells 78 x) = true := by
  unfold unc78 at h
  split at h
  · obtain ⟨x0, h0, h⟩ := Option.bind_eq_some_iff.1 h
    have h := Option.some.inj h
    subst h
    exact ⟨.cons (asF_ok h0) (.nil), rfl⟩
  · cases h
def unc88 : List (Val T) → Option (Ty88)
  | c0 :: c1 :: c2 :: c3 :: c4 :: c5 :: c6 :: c7 :: [] => (asI .i64 c0).bind fun x0 => (asI .i64 c1).bind fun x1 => (asI .i64 c2).bind fun x2 => (asI .i64 c3).bind fun x3 => (asI .i64 c4).bind fun x4 => (asI .i64 c5).bind fun x5 => (asI .i64 c6).bind fun x6 => (asI .i64 c7).bind fun x7 => some (Ty88.mk x0 x1 x2 x3 x4 x5 x6 x7)
  | _ => none
theorem unc88_ok {vs : List (Val T)} {x : Ty88} (h : unc88 vs = some x) : SimL (cells 88 x) vs ∧ pureL (cells 88 x) = true := by
  unfold unc88 at h
  split at h
  · obtain ⟨x0, h0, h⟩ := Option.bind_eq_some_iff.1 h
    obtain ⟨x1, h1, h⟩ := Option.bind_eq_some_iff.1 h
    obtain ⟨x2, h2, h⟩ := Option.bind_eq_some_iff.1 h
    obtain ⟨x3, h3, h⟩ := Option.bind_eq_some_iff.1 h
    obtain ⟨x4, h4, h⟩ := Option.bind_eq_some_iff.1 h
    obtain ⟨x5, h5, h⟩ := Option.bind_eq_some_iff.1 h
    obtain ⟨x6, h6, h⟩ := Option.bind_eq_some_iff.1 h
    obtain ⟨x7, h7, h⟩ := Option.bind_eq_some_iff.1 h
    have h := Option.some.inj h
    subst h
    exact ⟨.cons (asI_ok h0) (.cons (asI_ok h1) (.cons (asI_ok h2) (.cons (asI_ok h3) (.cons (asI_ok h4) (.cons (asI_ok h5) (.cons (asI_ok h6) (.cons (asI_ok h7) (.nil)))))))), rfl⟩
  · cases h
def unc100 : List (Val T) → Option (Kind)
  | c0 :: c1 :: c2 :: c3 :: [] => (asI .i64 c0).bind fun x0 => (asF c1).bind fun x1 => (asF c2).bind fun x2 => (asB c3).bind fun x3 => kfind100 x0 x1 x2 x3
  | _ => none
theorem unc100_ok {vs : List (Val T)} {x : Kind} (h : unc100 vs = some x) : SimL (cells 100 x) vs ∧ pureL (cells 100 x) = true := by
  unfold unc100 at h
  split at h
  · obtain ⟨x0, h0, h⟩ := Option.bind_eq_some_iff.1 h
    obtain ⟨x1, h1, h⟩ := Option.bind_eq_some_iff.1 h
    obtain ⟨x2, h2, h⟩ := Option.bind_eq_some_iff.1 h
    obtain ⟨x3, h3, h⟩ := Option.bind_eq_some_iff.1 h
    have hk := kfind100_ok h
    show SimL (kcells100 x) _ ∧ pureL (kcells100 x) = true
    rw [hk]
    exact ⟨.cons (asI_ok h0) (.cons (asF_ok h1) (.cons (asF_ok h2) (.cons (asB_ok h3) (.nil)))), rfl⟩
  · cases h
def unc104 : List (Val T) → Option (List (List Int))
  | c0 :: [] => (asL (T := T) 31 c0).bind fun x0 => some x0
  | _ => none
theorem unc104_ok {vs : List (Val T)} {x : List (List Int)} (h : unc104 vs = some x) : SimL (cells 104 x) vs ∧ pureL (cells 104 x) = true := by
  unfold unc104 at h
  split at h
  · obtain ⟨x0, h0, h⟩ := Option.bind_eq_some_iff.1 h
    have h := Option.some.inj h
    subst h
    exact ⟨.cons (asL_ok h0) (.nil), rfl⟩
  · cases h
def unc118 : List (Val T) → Option (List Body)
  | c0 :: [] => (asL (T := T) 120 c0).bind fun x0 => some x0
  | _ => none
theorem unc118_ok {vs : List (Val T)} {x : List Body} (h : unc118 vs = some x) : SimL (cells 118 x) vs ∧ pureL (cells 118 x) = true := by
  unfold unc118 at h
  split at h
  · obtain ⟨x0, h0, h⟩ := Option.bind_eq_some_iff.1 h
    have h := Option.some.inj h
    subst h
    exact ⟨.cons (asL_ok h0) (.nil), rfl⟩
  · cases h
def unc120 : List (Val T) → Option (Body)
  | c0 :: c1 :: c2 :: c3 :: c4 :: [] => (asI .i64 c0).bind fun x0 => (asI .i64 c1).bind fun x1 => (asS c2).bind fun x2 => (asL (T := T) 40 c3).bind fun x3 => (asB c4).bind fun x4 => some (Body.mk (Expr.mk x0 x1 x2 x3) x4)
  | _ => none
theorem unc120_ok {vs : List (Val T)} {x : Body} (h : unc120 vs = some x) : SimL (cells 120 x) vs ∧ pureL (cells 120 x) = true := by
  unfold unc120 at h
  split at h
  · obtain ⟨x0, h0, h⟩ := Option.bind_eq_some_iff.1 h
    obtain ⟨x1, h1, h⟩ := Option.bind_eq_some_iff.1 h
    obtain ⟨x2, h2, h⟩ := Option.bind_eq_some_iff.1 h
    obtain ⟨x3, h3, h⟩ := Option.bind_eq_some_iff.1 h
    obtain ⟨x4, h4, h⟩ := Option.bind_eq_some_iff.1 h
    have h := Option.some.inj h
    subst h
    exact ⟨.cons (asI_ok h0) (.cons (asI_ok h1) (.cons (asS_ok h2) (.cons (asL_ok h3) (.cons (asB_ok h4) (.nil))))), rfl⟩
  · cases h
def unc0 : (e : Nat) → List (Val T) → Option (T e)
  | 3, vs => unc3 vs
  | 4, vs => unc4 vs
  | 5, vs => unc5 vs
  | 9, vs => unc9 vs
  | 22, vs => unc22 vs
  | 23, vs => unc23 vs
  | 25, vs => unc25 vs
  | 29, vs => unc29 vs
  | 31, vs => unc31 vs
  | 36, vs => unc36 vs
  | 38, vs => unc38 vs
  | 40, vs => unc40 vs
  | 42, vs => unc42 vs
  | 43, vs => unc43 vs
  | 44, vs => unc44 vs
  | 45, vs => unc45 vs
  | 47, vs => unc47 vs
  | 48, vs => unc48 vs
  | 50, vs => unc50 vs
  | 52, vs => unc52 vs
  | 58, vs => unc58 vs
  | 69, vs => unc69 vs
  | 71, vs => unc71 vs
  | 75, vs => unc75 vs
  | 78, vs => unc78 vs
  | 88, vs => unc88 vs
  | 100, vs => unc100 vs
  | 104, vs => unc104 vs
  | 118, vs => unc118 vs
  | 120, vs => unc120 vs
  | _, _ => none
def ids : List Nat := [3, 4, 5, 9, 22, 23, 25, 29, 31, 36, 38, 40, 42, 43, 44, 45, 47, 48, 50, 52, 58, 69, 71, 75, 78, 88, 100, 104, 118, 120]
def unc (e : Nat) (vs : List (Val T)) : Option (T e) := match inB e ids with
  | true => unc0 e vs
  | false => none
theorem unc_ok (e : Nat) (vs : List (Val T)) (x : T e) (h : unc e vs = some x) : SimL (cells e x) vs ∧ pureL (cells e x) = true := by
  cases hb : inB e ids with
  | false => unfold unc at h; rw [hb] at h; cases h
  | true =>
    have hm := inB_iff.1 hb
    simp only [ids, List.mem_cons, List.not_mem_nil, or_false] at hm
    rcases hm with rfl | rfl | rfl | rfl | rfl | rfl | rfl | rfl | rfl | rfl | rfl | rfl | rfl | rfl | rfl | rfl | rfl | rfl | rfl | rfl | rfl | rfl | rfl | rfl | rfl | rfl | rfl | rfl | rfl | rfl
    · exact unc3_ok h
    · exact unc4_ok h
    · exact unc5_ok h
    · exact unc9_ok h
    · exact unc22_ok h
    · exact unc23_ok h
    · exact unc25_ok h
    · exact unc29_ok h
    · exact unc31_ok h
    · exact unc36_ok h
    · exact unc38_ok h
    · exact unc40_ok h
    · exact unc42_ok h
    · exact unc43_ok h
    · exact unc44_ok h
    · exact unc45_ok h
    · exact unc47_ok h
    · exact unc48_ok h
    · exact unc50_ok h
    · exact unc52_ok h
    · exact unc58_ok h
    · exact unc69_ok h
    · exact unc71_ok h
    · exact unc75_ok h
    · exact unc78_ok h
    · exact unc88_ok h
    · exact unc100_ok h
    · exact unc104_ok h
    · exact unc118_ok h
    · exact unc120_ok h
def rows : List Row := [
  ⟨3, 1, 8, false, none, [], [], some [.int .i64], some .i64, false, none, none, true⟩,
  ⟨4, 1, 1, false, none, [], [], some [.bool], none, false, none, none, true⟩,
  ⟨5, 1, 1, false, none, [], [], some [.int .u8], some .u8, false, none, none, true⟩,
  ⟨9, 1, 16, false, none, [], [], some [.str], none, true, none, none, true⟩,
  ⟨22, 1, 24, false, some 42, [], [], some [.nil], none, false, none, none, false⟩,
  ⟨23, 1, 24, false, some 47, [], [], some [.nil], none, false, none, none, false⟩,
  ⟨25, 2, 48, true, none, [(0, 22), (1, 23)], [(0, 1), (1, 1)], some [.nil, .nil], none, false, none, none, false⟩,
  ⟨29, 1, 24, false, some 36, [], [], some [.nil], none, false, none, none, false⟩,
  ⟨31, 1, 24, false, some 3, [], [], some [.nil], none, false, none, none, false⟩,
  ⟨36, 3, 24, true, none, [(0, 3), (1, 3), (2, 3)], [(0, 1), (1, 1), (2, 1)], some [.int .i64, .int .i64, .int .i64], none, false, none, none, true⟩,
  ⟨38, 1, 24, false, some 40, [], [], some [.nil], none, false, none, none, false⟩,
  ⟨40, 4, 56, true, none, [(0, 3), (1, 3), (2, 9), (3, 38)], [(0, 1), (1, 1), (2, 1), (3, 1)], some [.int .i64, .int .i64, .str, .nil], none, false, none, none, false⟩,
  ⟨42, 7, 104, true, none, [(0, 9), (1, 31), (2, 3), (3, 40)], [(0, 1), (1, 1), (2, 1), (3, 4)], some [.str, .nil, .int .i64, .int .i64, .int .i64, .str, .nil], none, false, none, none, false⟩,
  ⟨43, 1, 24, false, some 52, [], [], some [.nil], none, false, none, none, false⟩,
  ⟨44, 1, 24, false, some 58, [], [], some [.nil], none, false, none, none, false⟩,
  ⟨45, 1, 24, false, some 50, [], [], some [.nil], none, false, none, none, false⟩,
  ⟨47, 16, 248, true, none, [(0, 3), (1, 31), (2, 9), (3, 3), (4, 38), (5, 3), (6, 3), (7, 3), (8, 31), (9, 31), (10, 3), (11, 3), (12, 3), (13, 43), (14, 44), (15, 45)], [(0, 1), (1, 1), (2, 1), (3, 1), (4, 1), (5, 1), (6, 1), (7, 1), (8, 1), (9, 1), (10, 1), (11, 1), (12, 1), (13, 1), (14, 1), (15, 1)], some [.int .i64, .nil, .str, .int .i64, .nil, .int .i64, .int .i64, .int .i64, .nil, .nil, .int .i64, .int .i64, .int .i64, .nil, .nil, .nil], none, false, none, none, false⟩,
  ⟨48, 1, 24, false, some 5, [], [], some [.nil], none, false, none, none, false⟩,
  ⟨50, 3, 40, true, none, [(0, 9), (1, 3), (2, 9)], [(0, 1), (1, 1), (2, 1)], some [.str, .int .i64, .str], none, false, none, none, true⟩,
  ⟨52, 3, 32, true, none, [(0, 3), (1, 3), (2, 9)], [(0, 1), (1, 1), (2, 1)], some [.int .i64, .int .i64, .str], none, false, none, none, true⟩,
  ⟨58, 5, 64, true, none, [(0, 40), (4, 3)], [(0, 4), (4, 1)], some [.int .i64, .int .i64, .str, .nil, .int .i64], none, false, none, none, false⟩,
  ⟨69, 1, 8, false, none, [], [], some [.junk], none, false, none, none, false⟩,
  ⟨71, 1, 24, false, some 4, [], [], some [.nil], none, false, none, none, false⟩,
  ⟨75, 2, 16, true, none, [], [(0, 1), (1, 1)], some [.int .i64, .int .i64], none, false, some (3, 2), none, true⟩,
  ⟨78, 1, 8, false, none, [], [], some [.junk], none, false, none, none, false⟩,
  ⟨88, 8, 64, true, none, [], [(0, 1), (1, 1), (2, 1), (3, 1), (4, 1), (5, 1), (6, 1), (7, 1)], some [.int .i64, .int .i64, .int .i64, .int .i64, .int .i64, .int .i64, .int .i64, .int .i64], none, false, some (3, 8), none, true⟩,
  ⟨100, 4, 32, true, none, [(0, 3), (1, 69), (2, 78), (3, 4)], [(0, 1), (1, 1), (2, 1), (3, 1)], some [.int .i64, .junk, .junk, .bool], none, false, none, none, false⟩,
  ⟨104, 1, 24, false, some 31, [], [], some [.nil], none, false, none, none, false⟩,
  ⟨118, 1, 24, false, some 120, [], [], some [.nil], none, false, none, none, false⟩,
  ⟨120, 5, 64, true, none, [(0, 40), (4, 4)], [(0, 4), (4, 1)], some [.int .i64, .int .i64, .str, .nil, .bool], none, false, none, none, false⟩,
  ⟨110, 36, 288, true, none, [], [(0, 4), (4, 4), (8, 4), (12, 4), (16, 4), (20, 4), (24, 4), (28, 4), (32, 4)], some [.int .i64, .junk, .junk, .bool, .int .i64, .junk, .junk, .bool, .int .i64, .junk, .junk, .bool, .int .i64, .junk, .junk, .bool, .int .i64, .junk, .junk, .bool, .int .i64, .junk, .junk, .bool, .int .i64, .junk, .junk, .bool, .int .i64, .junk, .junk, .bool, .int .i64, .junk, .junk, .bool], none, false, some (100, 9), none, false⟩,
  ⟨64, 5, 104, true, none, [(0, 25), (2, 25), (4, 62)], [(0, 2), (2, 2), (4, 1)], some [.nil, .nil, .nil, .nil, .junk], none, false, none, none, false⟩,
  ⟨62, 1, 8, false, none, [], [], some [.junk], none, false, none, some (75, 4), false⟩,
  ⟨61, 1, 8, false, none, [], [], some [.junk], none, false, none, none, false⟩]
def fns : List Nat := [3, 4, 5, 6, 7, 8, 9, 10, 11, 12, 13, 14, 15, 16, 17, 18, 19, 20, 21, 22, 23, 24, 25, 26, 27, 28, 29, 30, 31, 32, 33, 34, 35, 36, 37, 38, 39, 40, 41, 42, 43, 44, 45, 46, 47, 48, 49, 50, 51, 52, 53, 54, 55, 56, 57, 58, 59, 60, 61, 62, 63, 64, 65, 66, 67, 68, 69, 70, 71, 72, 73, 74, 75, 76, 77, 78, 79, 80, 81, 82, 83, 84, 85, 86, 87, 88, 89, 90, 91, 92, 93, 94, 95, 96, 97, 98]
noncomputable def dflt (e : Nat) : T e := Classical.choice (T_ne e)
def ksplit100 {R : Type} (x : Kind) (k : Kind → R) : R := match x with
  | .k0 => k .k0
  | .k1 => k .k1
  | .k2 => k .k2
  | .k3 => k .k3
  | .k4 => k .k4
  | .k5 => k .k5
  | .k6 => k .k6
  | .k7 => k .k7
def split : (t : Nat) → (R : Type) → T t → (T t → R) → R
  | 100, R, x, k => ksplit100 x k
  | _, R, x, k => k x
theorem split_ok (t : Nat) (R : Type) (x : T t) (k : T t → R) : split t R x k = k x := by
  unfold split
  split
  · rename_i x; cases x <;> rfl
  · rfl
def byteStr (l : List Int) : ByteArray := ⟨(l.map fun n => UInt8.ofNat n.toNat).toArray⟩
def rks : List (Nat × List Knd) := [(3, [.bool]), (4, [.bool]), (5, [.bool]), (6, [.bool]), (7, [.bool]), (8, [.lst 36]), (9, [.lst 3]), (10, [.int .i64]), (11, [.bool]), (12, [.agg 47]), (13, [.agg 47]), (14, [.bool]), (15, [.bool]), (16, [.bool]), (17, [.agg 40, .bool]), (23, [.bool]), (24, [.bool]), (25, [.bool]), (26, [.bool]), (27, [.bool]), (28, [.agg 40, .bool]), (29, [.int .i64]), (32, [.int .i64, .int .i64]), (33, [.bool]), (35, [.agg 25, .bool]), (36, [.bool]), (37, [.fresh 3]), (38, [.int .i64]), (39, [.bool]), (40, [.int .i64]), (41, [.int .i64]), (42, [.agg 40, .bool]), (43, [.agg 88]), (47, [.bool]), (51, [.bool]), (53, [.bool]), (54, [.agg 100, .bool]), (55, [.bool]), (56, [.int .i64]), (57, [.bool]), (58, [.lst 3, .bool]), (59, [.str]), (60, [.int .i64]), (61, [.agg 40]), (62, [.agg 40, .bool]), (63, [.bool]), (64, [.bool]), (65, [.int .i64, .int .i64]), (66, [.bool]), (67, [.int .i64, .int .i64]), (68, [.bool]), (69, [.bool]), (70, [.bool]), (71, [.bool]), (72, [.int .i64, .int .i64]), (73, [.bool]), (74, [.int .i64, .int .i64]), (75, [.bool]), (76, [.int .i64, .int .i64]), (77, [.bool]), (78, [.int .i64, .bool]), (79, [.bool]), (80, [.bool]), (81, [.bool]), (82, [.int .i64, .bool]), (83, [.bool]), (84, [.fresh 3]), (85, [.agg 120]), (86, [.int .i64]), (87, [.int .i64, .bool]), (88, [.bool]), (89, [.int .i64]), (90, [.str]), (91, [.agg 40, .bool]), (94, [.int .i64, .bool]), (95, [.int .i64]), (96, [.int .i64, .bool]), (97, [.int .i64, .bool]), (98, [.agg 40]), (50019, [.bool]), (50020, [.bool]), (50022, [.bool]), (50030, [.bool]), (50031, [.bool]), (50045, [.bool]), (50049, [.bool]), (50093, []), (2050018, [.int .i64]), (2050052, [.bool]), (2150018, [.int .i64]), (2350021, [.bool]), (2350034, [.int .i64]), (4650044, [.bool]), (4800046, [.bool]), (5050048, [.bool]), (5200050, [.bool]), (6400044, [.bool]), (9450092, [])]
def rk (n : Nat) : List Knd := findN [] rks n
def xk (n : Nat) : List XK := findN [] [(50019, [.cst, .mp 75 4]), (50020, [.cst, .mp 75 4]), (50022, [.cst]), (50030, [.cst, .mp 75 4]), (50031, [.cst, .mp 75 4]), (50045, [.cst, .mp 75 4]), (50049, [.cst, .cst, .mp 75 4]), (50093, [.box 3]), (2050018, [.cst, .mp 75 4]), (2050052, [.cst, .mp 75 4]), (2150018, [.cst, .mp 75 4]), (2350021, [.cst]), (2350034, [.cst]), (4650044, [.cst, .mp 75 4]), (5050048, [.cst, .cst, .mp 75 4]), (9450092, [.box 3])] n
def nt (n : Nat) : Nat := findN 0 [(3, 126), (4, 136), (5, 74), (6, 26), (7, 66), (8, 47), (9, 32), (10, 108), (11, 26), (12, 4), (13, 29), (14, 26), (15, 20), (16, 78), (17, 54), (23, 11), (24, 36), (25, 67), (26, 72), (27, 144), (28, 84), (29, 22), (32, 21), (33, 26), (35, 177), (36, 26), (37, 20), (38, 10), (39, 15), (40, 21), (41, 26), (42, 68), (43, 20), (47, 17), (51, 10), (53, 18), (54, 22), (55, 64), (56, 15), (57, 163), (58, 269), (59, 37), (60, 84), (61, 31), (62, 39), (63, 31), (64, 3), (65, 4), (66, 37), (67, 24), (68, 10), (69, 6), (70, 15), (71, 11), (72, 9), (73, 6), (74, 7), (75, 11), (76, 7), (77, 9), (78, 26), (79, 58), (80, 55), (81, 21), (82, 20), (83, 26), (84, 24), (85, 68), (86, 20), (87, 193), (88, 16), (89, 20), (90, 10), (91, 66), (94, 46), (95, 25), (96, 23), (97, 14), (98, 29), (50019, 59), (50020, 73), (50022, 13), (50030, 80), (50031, 14), (50045, 40), (50049, 19), (50093, 5), (2050018, 23), (2050052, 32), (2150018, 23), (2350021, 9), (2350034, 19), (4650044, 32), (4800046, 32), (5050048, 32), (5200050, 32), (6400044, 32), (9450092, 20)] n
noncomputable def tb : Tab T := mkTab rows cells unc dflt fns rk xk nt split split_ok
noncomputable def rd42 (xs : List Func) (n : Int) : Func := rdl tb 42 xs n
noncomputable def rd47 (xs : List Node) (n : Int) : Node := rdl tb 47 xs n
noncomputable def rd36 (xs : List Match) (n : Int) : Match := rdl tb 36 xs n
noncomputable def rd3 (xs : List Int) (n : Int) : Int := rdl tb 3 xs n
noncomputable def rd40 (xs : List Expr) (n : Int) : Expr := rdl tb 40 xs n
noncomputable def rd52 (xs : List Agg) (n : Int) : Agg := rdl tb 52 xs n
noncomputable def rd58 (xs : List Pat) (n : Int) : Pat := rdl tb 58 xs n
noncomputable def rd50 (xs : List Col) (n : Int) : Col := rdl tb 50 xs n
noncomputable def rd5 (xs : List Int) (n : Int) : Int := rdl tb 5 xs n
noncomputable def rd4 (xs : List Bool) (n : Int) : Bool := rdl tb 4 xs n
noncomputable def rd31 (xs : List (List Int)) (n : Int) : List Int := rdl tb 31 xs n
noncomputable def rd120 (xs : List Body) (n : Int) : Body := rdl tb 120 xs n
theorem tb_ok : TabOk Try.prog tb := by
  refine tabOk_of (by kernel_rfl) (by kernel_rfl) unc_ok (fun r hr => ?_) (fun r hr => ?_)
  · simp only [rows, List.mem_cons, List.mem_nil_iff, or_false] at hr
    rcases hr with rfl | rfl | rfl | rfl | rfl | rfl | rfl | rfl | rfl | rfl | rfl | rfl | rfl | rfl | rfl | rfl | rfl | rfl | rfl | rfl | rfl | rfl | rfl | rfl | rfl | rfl | rfl | rfl | rfl | rfl | rfl | rfl | rfl | rfl
    · intro e he; cases he
    · intro e he; cases he
    · intro e he; cases he
    · intro e he; cases he
    · intro e he re hre x; cases he; cases hre; exact ⟨rfl, rfl⟩
    · intro e he re hre x; cases he; cases hre; exact ⟨rfl, rfl⟩
    · intro e he; cases he
    · intro e he re hre x; cases he; cases hre; exact ⟨rfl, rfl⟩
    · intro e he re hre x; cases he; cases hre; exact ⟨rfl, rfl⟩
    · intro e he; cases he
    · intro e he re hre x; cases he; cases hre; exact ⟨rfl, rfl⟩
    · intro e he; cases he
    · intro e he; cases he
    · intro e he re hre x; cases he; cases hre; exact ⟨rfl, rfl⟩
    · intro e he re hre x; cases he; cases hre; exact ⟨rfl, rfl⟩
    · intro e he re hre x; cases he; cases hre; exact ⟨rfl, rfl⟩
    · intro e he; cases he
    · intro e he re hre x; cases he; cases hre; exact ⟨rfl, rfl⟩
    · intro e he; cases he
    · intro e he; cases he
    · intro e he; cases he
    · intro e he; cases he
    · intro e he re hre x; cases he; cases hre; exact ⟨rfl, rfl⟩
    · intro e he; cases he
    · intro e he; cases he
    · intro e he; cases he
    · intro e he; cases he
    · intro e he re hre x; cases he; cases hre; exact ⟨rfl, rfl⟩
    · intro e he re hre x; cases he; cases hre; exact ⟨rfl, rfl⟩
    · intro e he; cases he
    · intro e he; cases he
    · intro e he; cases he
    · intro e he; cases he
    · intro e he; cases he
  · simp only [rows, List.mem_cons, List.mem_nil_iff, or_false] at hr
    rcases hr with rfl | rfl | rfl | rfl | rfl | rfl | rfl | rfl | rfl | rfl | rfl | rfl | rfl | rfl | rfl | rfl | rfl | rfl | rfl | rfl | rfl | rfl | rfl | rfl | rfl | rfl | rfl | rfl | rfl | rfl | rfl | rfl | rfl | rfl
    · intro _ x; rfl
    · intro _ x; rfl
    · intro _ x; rfl
    · intro _ x; rfl
    · intro hf; cases hf
    · intro hf; cases hf
    · intro hf; cases hf
    · intro hf; cases hf
    · intro hf; cases hf
    · intro _ x; rfl
    · intro hf; cases hf
    · intro hf; cases hf
    · intro hf; cases hf
    · intro hf; cases hf
    · intro hf; cases hf
    · intro hf; cases hf
    · intro hf; cases hf
    · intro hf; cases hf
    · intro _ x; rfl
    · intro _ x; rfl
    · intro hf; cases hf
    · intro hf; cases hf
    · intro hf; cases hf
    · intro _ x; rfl
    · intro hf; cases hf
    · intro _ x; rfl
    · intro hf; cases hf
    · intro hf; cases hf
    · intro hf; cases hf
    · intro hf; cases hf
    · intro hf; cases hf
    · intro hf; cases hf
    · intro hf; cases hf
    · intro hf; cases hf
end Go.Fw.S1
