import Derived.Test.YtmogfjfdbbggcaaGreatDoorSc
set_option linter.all false
set_option linter.unusedVariables false
set_option maxHeartbeats 1000000
set_option maxRecDepth 100000
namespace Go.Fw.S1
open Go.Proofs
theorem wrapK_id {n : Int} (h1 : -9223372036854775808 ≤ n) (h2 : n ≤ 9223372036854775807) : wrapK .i64 n = n := by
 unfold wrapK
 simp only [IntKind.wrap, IntKind.signed, IntKind.bits] <;> simp <;> omega
theorem wrapK_succ {i n : Nat} (h : i < n) (hn : n ≤ 4611686018427387904) : wrapK .i64 ((i : Int) + (1 : Int)) = ((i + 1 : Nat) : Int) := by
 rw [wrapK_id (by omega) (by omega)]; omega
theorem rdl_get {e : Nat} {xs : List (T e)} {i : Nat} (h : i < xs.length) : rdl tb e xs (i : Int) = xs[i] := by
 unfold rdl
 rw [Int.toNat_natCast, List.getD_eq_getElem?_getD, List.getElem?_eq_getElem h]
 rfl
theorem rd49_get {xs : List Expr} {i : Nat} (h : i < xs.length) : rd49 xs (i : Int) = xs[i] := rdl_get (e := 49) h
theorem rd3_get {xs : List Int} {i : Nat} (h : i < xs.length) : rd3 xs (i : Int) = xs[i] := rdl_get (e := 3) h
theorem rd43_get {xs : List Node} {i : Nat} (h : i < xs.length) : rd43 xs (i : Int) = xs[i] := rdl_get (e := 43) h
theorem rd100_get {xs : List Go.Fw.S1.Func} {i : Nat} (h : i < xs.length) : rd100 xs (i : Int) = xs[i] := rdl_get (e := 100) h
theorem rd77_get {xs : List Col} {i : Nat} (h : i < xs.length) : rd77 xs (i : Int) = xs[i] := rdl_get (e := 77) h
theorem rd47_get {xs : List Agg} {i : Nat} (h : i < xs.length) : rd47 xs (i : Int) = xs[i] := rdl_get (e := 47) h
theorem rd103_get {xs : List Pat} {i : Nat} (h : i < xs.length) : rd103 xs (i : Int) = xs[i] := rdl_get (e := 103) h
theorem rd52_get {xs : List Match} {i : Nat} (h : i < xs.length) : rd52 xs (i : Int) = xs[i] := rdl_get (e := 52) h
theorem rd33_get {xs : List (List Int)} {i : Nat} (h : i < xs.length) : rd33 xs (i : Int) = xs[i] := rdl_get (e := 33) h
theorem rd152_get {xs : List Body} {i : Nat} (h : i < xs.length) : rd152 xs (i : Int) = xs[i] := rdl_get (e := 152) h
theorem rd4_get {xs : List Bool} {i : Nat} (h : i < xs.length) : rd4 xs (i : Int) = xs[i] := rdl_get (e := 4) h
theorem nnb (i : Nat) : decide ((0 : Int) ≤ (i : Int)) = true := by simp only [decide_eq_true_eq]; omega
theorem inb {i n : Nat} (h : i < n) : (decide ((0 : Int) ≤ (i : Int)) && decide ((i : Int) < (n : Int))) = true := by
 simp only [Bool.and_eq_true, decide_eq_true_eq]; omega
theorem ltb {i n : Nat} (h : i < n) : decide ((i : Int) < (n : Int)) = true := by
 simp only [decide_eq_true_eq]; omega
theorem geb {i n : Nat} (h : n ≤ i) : decide ((i : Int) < (n : Int)) = false := by
 simp only [decide_eq_false_iff_not]; omega
theorem Ok.eq {α : Type} {x : Option α} {a : α} (h : Ok x fun y => y = a) : x = some a := by
 obtain ⟨y, h1, rfl⟩ := h; exact h1
theorem Ok.range {V R : Type} {body : V → Option (Step V R)} {Q : Out V R → Prop} (n : Nat) (J : Nat → V → Prop)
  (hb : ∀ i v, i < n → J i v → Ok (body v) fun s => match s with
   | .again v' => J (i + 1) v'
   | .out v' => Q (.out v')
   | .ret r => Q (.ret r))
  (he : ∀ v, J n v → Ok (body v) fun s => match s with
   | .again _ => False
   | .out v' => Q (.out v')
   | .ret r => Q (.ret r)) (v : V) (hv : J 0 v) : Ok (loopW V R body v) Q := by
 have key : ∀ k i v, i + k = n → J i v → Ok (loopW V R body v) Q := by
  intro k
  induction k with
  | zero =>
   intro i v hi hJ
   have hi : i = n := by omega
   subst hi
   rw [loopW_eq]
   obtain ⟨s, h1, h2⟩ := he v hJ
   rw [h1]
   cases s with
   | again v' => exact h2.elim
   | out v' => exact ⟨_, rfl, h2⟩
   | ret r => exact ⟨_, rfl, h2⟩
  | succ k ih =>
   intro i v hi hJ
   rw [loopW_eq]
   obtain ⟨s, h1, h2⟩ := hb i v (by omega) hJ
   rw [h1]
   cases s with
   | again v' => exact ih (i + 1) v' (by omega) h2
   | out v' => exact ⟨_, rfl, h2⟩
   | ret r => exact ⟨_, rfl, h2⟩
 exact key n 0 v (by omega) hv
theorem Expr.ind {P : Expr → Prop} (h : ∀ e, (∀ a, a ∈ e.f3 → P a) → P e) : ∀ e, P e := by
 have key : ∀ n e, SizeOf.sizeOf e < n → P e := by
  intro n
  induction n with
  | zero => intro e he; omega
  | succ n ih =>
   intro e he
   refine h e fun a ha => ih a ?_
   have := List.sizeOf_lt_of_mem ha
   cases e with
   | mk f0 f1 f2 f3 => simp only [Expr.mk.sizeOf_spec] at he; simp only at this; omega
 exact fun e => key (SizeOf.sizeOf e + 1) e (by omega)
mutual
def sz : Expr → Nat
 | ⟨_, _, _, l⟩ => szL l + 1
def szL : List Expr → Nat
 | [] => 0
 | e :: r => sz e + szL r
end
mutual
def lev : Expr → Nat
 | ⟨_, _, _, l⟩ => levL l + 1
def levL : List Expr → Nat
 | [] => 0
 | e :: r => max (lev e) (levL r)
end
theorem sz_eq (e : Expr) : sz e = szL e.f3 + 1 := by cases e; rfl
theorem lev_eq (e : Expr) : lev e = levL e.f3 + 1 := by cases e; rfl
theorem sz_pos (e : Expr) : 1 ≤ sz e := by rw [sz_eq]; omega
theorem szL_append (a b : List Expr) : szL (a ++ b) = szL a + szL b := by
 induction a with
 | nil => simp [szL]
 | cons x a ih => simp only [List.cons_append, szL, ih]; omega
theorem levL_append (a b : List Expr) : levL (a ++ b) = max (levL a) (levL b) := by
 induction a with
 | nil => simp [levL]
 | cons x a ih => simp only [List.cons_append, levL, ih]; omega
theorem szL_mem {e : Expr} {l : List Expr} (h : e ∈ l) : sz e ≤ szL l := by
 induction l with
 | nil => cases h
 | cons x l ih =>
  simp only [szL]
  rcases List.mem_cons.1 h with rfl | h
  ·omega
  ·have := ih h; omega
theorem szL_len (l : List Expr) : l.length ≤ szL l := by
 induction l with
 | nil => simp
 | cons x l ih => have := sz_pos x; simp only [List.length_cons, szL]; omega
theorem lev_le : ∀ e : Expr, lev e ≤ sz e := by
 refine Expr.ind fun e ih => ?_
 rw [lev_eq, sz_eq]
 have : ∀ l : List Expr, (∀ a, a ∈ l → lev a ≤ sz a) → levL l ≤ szL l := by
  intro l
  induction l with
  | nil => intro _; simp [levL]
  | cons x l ihl =>
   intro h
   have h1 := h x (by simp)
   have h2 := ihl fun a ha => h a (by simp [ha])
   simp only [levL, szL]; omega
 have := this e.f3 ih
 omega
theorem take_succ {α : Type} {l : List α} {i : Nat} (h : i < l.length) : l.take (i + 1) = l.take i ++ [l[i]] := by
 rw [List.take_add_one, List.getElem?_eq_getElem h]; rfl
theorem w71_ok : ∀ e : Expr, sz e < 4611686018427387904 → W 71 [.agg (eV e)] = some ((lev e : Int), ()) := by
 refine Expr.ind fun e ih => fun hs => ?_
 rw [w71]
 unfold t71
 rw [E0_C, E0_lp]
 rw [sz_eq] at hs
 have hl := szL_len e.f3
 refine Ok.eq (Ok.after (Ok.range e.f3.length (fun i v => ∃ x : Int, v = ((x, (levL (e.f3.take i) : Int), (i : Int), ()), ((e.f0, e.f1, e.f2, e.f3, ()), ()))) ?_ ?_ _ ⟨0, by simp [levL]⟩))
 ·rintro i v hi ⟨x, rfl⟩
  dsimp only
  simp only [ltb hi, nnb, Bool.and_true, cond_true, rd49_get hi]
  have hm : e.f3[i] ∈ e.f3 := List.getElem_mem hi
  have := szL_mem hm
  have hv := ih _ hm (by omega)
  refine Ok.bind ⟨_, hv, rfl⟩ ?_
  rintro r rfl
  refine Ok.pure ?_
  refine ⟨x, ?_⟩
  rw [wrapK_succ hi (by omega), take_succ hi, levL_append]
  simp only [levL]
  have : (bif decide ((levL (e.f3.take i) : Int) < (lev e.f3[i] : Int)) then (lev e.f3[i] : Int) else (levL (e.f3.take i) : Int)) = ((max (levL (e.f3.take i)) (max (lev e.f3[i]) 0) : Nat) : Int) := by
   by_cases h : levL (e.f3.take i) < lev e.f3[i]
   ·rw [ltb h, cond_true]; omega
   ·rw [geb (by omega), cond_false]; omega
  rw [this]
 ·rintro v ⟨x, rfl⟩
  dsimp only
  rw [geb (Nat.le_refl _), cond_false]
  refine Ok.pure ?_
  dsimp only
  refine Ok.pure ?_
  have := lev_le e
  rw [sz_eq] at this
  rw [List.take_length]
  rw [lev_eq] at this ⊢
  rw [wrapK_id (by omega) (by omega)]
  rfl
end Go.Fw.S1
set_option linter.unusedVariables false
set_option maxHeartbeats 1000000
set_option maxRecDepth 100000
namespace Go.Fw.S1
open Go.Proofs
theorem room {n k : Nat} (h : n * k ≤ 140737488355328) : decide (n * k ≤ maxRoom) = true := by
 simp only [decide_eq_true_eq]; exact h
theorem Expr.eta (e : Expr) : Expr.mk e.f0 e.f1 e.f2 e.f3 = e := by cases e; rfl
def E.zero : Expr := ⟨0, 0, ByteArray.empty, []⟩
theorem w70_ok : ∀ e : Expr, sz e < 2147483648 → W 70 [.agg (eV e)] = some ((sz e : Int), ()) := by
 refine Expr.ind fun e ih => fun hs => ?_
 rw [w70]
 unfold t70
 rw [E0_C, E0_lp]
 rw [sz_eq] at hs
 have hl := szL_len e.f3
 refine Ok.eq (Ok.after (Ok.range e.f3.length (fun i v => ∃ x : Int, v = ((x, ((1 + szL (e.f3.take i) : Nat) : Int), (i : Int), ()), ((e.f0, e.f1, e.f2, e.f3, ()), ()))) ?_ ?_ _ ⟨0, by simp [szL]⟩))
 ·rintro i v hi ⟨x, rfl⟩
  dsimp only
  simp only [ltb hi, nnb, Bool.and_true, cond_true, rd49_get hi]
  have hm : e.f3[i] ∈ e.f3 := List.getElem_mem hi
  have h1 := szL_mem hm
  refine Ok.bind ⟨_, ih _ hm (by omega), rfl⟩ ?_
  rintro r rfl
  refine Ok.pure ⟨x, ?_⟩
  have h2 : szL (e.f3.take i) + sz e.f3[i] ≤ szL e.f3 := by
   have := szL_append (e.f3.take (i + 1)) (e.f3.drop (i + 1))
   rw [List.take_append_drop, take_succ hi, szL_append] at this
   simp only [szL] at this
   omega
  have h3 : wrapK .i64 (((1 + szL (e.f3.take i) : Nat) : Int) + (sz e.f3[i] : Int)) = ((1 + szL (e.f3.take (i + 1)) : Nat) : Int) := by
   rw [wrapK_id (by omega) (by omega), take_succ hi, szL_append]
   simp only [szL]
   omega
  rw [wrapK_succ hi (by omega), h3]
 ·rintro v ⟨x, rfl⟩
  dsimp only
  rw [geb (Nat.le_refl _), cond_false]
  refine Ok.pure ?_
  dsimp only
  refine Ok.pure ?_
  rw [List.take_length, sz_eq]
  congr 1
  omega
theorem w132_ok : ∀ e : Expr, sz e < 2147483648 → W 132 [.agg (eV e)] = some ((lev e : Int), ()) := by
 refine Expr.ind fun e ih => fun hs => ?_
 rw [w132]
 unfold t132
 rw [E0_C, E0_lp]
 rw [sz_eq] at hs
 have hl := szL_len e.f3
 refine Ok.eq (Ok.after (Ok.range e.f3.length (fun i v => ∃ x : Int, v = ((x, (levL (e.f3.take i) : Int), e.f3, (e.f3.length : Int), (i : Int), ()), ((e.f0, e.f1, e.f2, e.f3, ()), ()))) ?_ ?_ _ ⟨0, by simp [levL]⟩))
 ·rintro i v hi ⟨x, rfl⟩
  dsimp only
  simp only [ltb hi, nnb, Bool.and_true, cond_true, rd49_get hi]
  have hm : e.f3[i] ∈ e.f3 := List.getElem_mem hi
  have := szL_mem hm
  have hv := ih _ hm (by omega)
  refine Ok.bind ⟨_, hv, rfl⟩ ?_
  rintro r rfl
  refine Ok.pure ?_
  refine ⟨x, ?_⟩
  rw [wrapK_succ hi (by omega), take_succ hi, levL_append]
  simp only [levL]
  have : (bif decide ((levL (e.f3.take i) : Int) < (lev e.f3[i] : Int)) then (lev e.f3[i] : Int) else (levL (e.f3.take i) : Int)) = ((max (levL (e.f3.take i)) (max (lev e.f3[i]) 0) : Nat) : Int) := by
   by_cases h : levL (e.f3.take i) < lev e.f3[i]
   ·rw [ltb h, cond_true]; omega
   ·rw [geb (by omega), cond_false]; omega
  rw [this]
 ·rintro v ⟨x, rfl⟩
  dsimp only
  rw [geb (Nat.le_refl _), cond_false]
  refine Ok.pure ?_
  dsimp only
  refine Ok.pure ?_
  have := lev_le e
  rw [sz_eq] at this
  rw [List.take_length]
  rw [lev_eq] at this ⊢
  rw [wrapK_id (by omega) (by omega)]
  rfl
theorem w166_ok : ∀ e : Expr, sz e < 2147483648 → W 166 [.agg (eV e)] = some (e, ()) := by
 refine Expr.ind fun e ih => fun hs => ?_
 rw [w166]
 unfold t166
 rw [E0_C, E0_lp]
 rw [sz_eq] at hs
 have hl := szL_len e.f3
 refine Ok.eq (Ok.after (Ok.range e.f3.length (fun i v => ∃ z, v = (((i : Int), ()), ((e.f0, e.f1, e.f2, e.f3, ()), z, (e.f0, e.f1, e.f2, ()), e.f3.take i, ()))) ?_ ?_ _ ⟨_, rfl⟩))
 ·rintro i v hi ⟨z, rfl⟩
  dsimp only
  simp only [ltb hi, nnb, Bool.and_true, cond_true, rd49_get hi]
  have hm : e.f3[i] ∈ e.f3 := List.getElem_mem hi
  have h1 := szL_mem hm
  refine Ok.bind ⟨_, ih _ hm (by omega), rfl⟩ ?_
  rintro r rfl
  rw [room (by simp only [List.length_take, List.length_singleton]; omega), cond_true]
  simp only [wrapK_succ hi (by omega), Expr.eta, ← take_succ hi]
  exact Ok.pure ⟨_, rfl⟩
 ·rintro v ⟨z, rfl⟩
  dsimp only
  rw [geb (Nat.le_refl _), cond_false]
  refine Ok.pure ?_
  dsimp only
  refine Ok.pure ?_
  rw [List.take_length, Expr.eta]
theorem w165_ok : ∀ e : Expr, sz e < 2147483648 → W 165 [.agg (eV e)] = some (e, ()) := by
 refine Expr.ind fun e ih => fun hs => ?_
 rw [w165]
 unfold t165
 rw [E0_C, E0_lp]
 rw [sz_eq] at hs
 have hl := szL_len e.f3
 refine Ok.eq (Ok.after (Ok.range e.f3.length (fun i v => ∃ a b c z, v = ((a, b, c, e.f3, (e.f3.length : Int), (i : Int), ()), ((e.f0, e.f1, e.f2, e.f3, ()), z, (e.f0, e.f1, e.f2, ()), e.f3.take i, ()))) ?_ ?_ _ ⟨_, _, _, _, rfl⟩))
 ·rintro i v hi ⟨a, b, c, z, rfl⟩
  dsimp only
  simp only [ltb hi, nnb, Bool.and_true, cond_true, rd49_get hi]
  have hm : e.f3[i] ∈ e.f3 := List.getElem_mem hi
  have h1 := szL_mem hm
  refine Ok.bind ⟨_, ih _ hm (by omega), rfl⟩ ?_
  rintro r rfl
  rw [room (by simp only [List.length_take, List.length_singleton]; omega), cond_true]
  simp only [wrapK_succ hi (by omega), Expr.eta, ← take_succ hi]
  exact Ok.pure ⟨_, _, _, _, rfl⟩
 ·rintro v ⟨a, b, c, z, rfl⟩
  dsimp only
  rw [geb (Nat.le_refl _), cond_false]
  refine Ok.pure ?_
  dsimp only
  refine Ok.pure ?_
  rw [List.take_length, Expr.eta]
end Go.Fw.S1
set_option linter.unusedVariables false
set_option maxHeartbeats 1000000
set_option maxRecDepth 100000
namespace Go.Fw.S1
open Go.Proofs
mutual
def putE (op : Int) (l : List Expr) : Expr → Option Expr
 | ⟨f0, f1, f2, args⟩ => if f0 = op then (if 0 ≤ f1 then l[f1.toNat]? else none) else (putL op l args).map fun x => ⟨f0, f1, f2, x⟩
def putL (op : Int) (l : List Expr) : List Expr → Option (List Expr)
 | [] => some []
 | a :: r => match putE op l a, putL op l r with
  | some x, some y => some (x :: y)
  | _, _ => none
end
theorem putE_eq (op : Int) (l : List Expr) (e : Expr) : putE op l e = if e.f0 = op then (if 0 ≤ e.f1 then l[e.f1.toNat]? else none) else (putL op l e.f3).map fun x => ⟨e.f0, e.f1, e.f2, x⟩ := by
 cases e; rw [putE]
theorem putL_append (op : Int) (l : List Expr) (a b : List Expr) : putL op l (a ++ b) = match putL op l a, putL op l b with
  | some x, some y => some (x ++ y)
  | _, _ => none := by
 induction a with
 | nil => simp only [List.nil_append, putL]; cases putL op l b <;> rfl
 | cons x a ih =>
  simp only [List.cons_append, putL, ih]
  cases putE op l x <;> cases putL op l a <;> cases putL op l b <;> rfl
theorem putL_mem {op : Int} {l : List Expr} {a : Expr} {r : List Expr} (h : a ∈ r) (hn : putE op l a = none) : putL op l r = none := by
 induction r with
 | nil => cases h
 | cons x r ih =>
  rcases List.mem_cons.1 h with rfl | h
  ·simp only [putL, hn]
  ·simp only [putL, ih h]
   cases putE op l x <;> rfl
theorem putL_len {op : Int} {l : List Expr} : ∀ {r out : List Expr}, putL op l r = some out → out.length = r.length := by
 intro r
 induction r with
 | nil => intro out h; simp only [putL, Option.some.injEq] at h; subst h; rfl
 | cons x r ih =>
  intro out h
  simp only [putL] at h
  cases h1 : putE op l x with
  | none => rw [h1] at h; cases h
  | some y =>
   cases h2 : putL op l r with
   | none => rw [h1, h2] at h; cases h
   | some z => rw [h1, h2] at h; cases h; simp [ih h2]
theorem putL_step {op : Int} {l : List Expr} {r out : List Expr} {i : Nat} {x : Expr} (hi : i < r.length) (h1 : putL op l (r.take i) = some out) (h2 : putE op l r[i] = some x) : putL op l (r.take (i + 1)) = some (out ++ [x]) := by
 rw [take_succ hi, putL_append, h1]
 simp only [putL, h2]
theorem rd49_opt {xs : List Expr} {n : Int} {x : Expr} (h0 : 0 ≤ n) (h : xs[n.toNat]? = some x) : rd49 xs n = x := by
 have h1 := (List.getElem?_eq_some_iff.1 h)
 obtain ⟨h1, h2⟩ := h1
 have := rd49_get h1
 rw [← h2, ← this]
 congr 1
 omega
def encP (o : Option Expr) : (Expr × Bool) × Unit := ((o.getD E.zero, o.isSome), ())
theorem w152_ok (op : Int) (l : List Expr) (hl : ∀ x, x ∈ l → sz x < 2147483648) (hll : l.length < 2147483648) : ∀ e : Expr, sz e < 2147483648 → W 152 [.agg (eV e), .int .i64 op, .lst 49 l] = some (encP (putE op l e)) := by
 refine Expr.ind fun e ih => fun hs => ?_
 rw [w152]
 unfold t152
 rw [E0_C, E0_lp]
 rw [sz_eq] at hs
 have hle := szL_len e.f3
 rw [putE_eq]
 by_cases hop : e.f0 = op
 ·rw [show (e.f0 == op) = true from by simpa using hop, cond_true, if_pos hop]
  by_cases h0 : 0 ≤ e.f1
  ·rw [if_pos h0]
   have hneg : decide (e.f1 < 0) = false := by simp only [decide_eq_false_iff_not]; omega
   rw [hneg, cond_false]
   cases hx : l[e.f1.toNat]? with
   | none =>
    have := List.getElem?_eq_none_iff.1 hx
    rw [show decide ((l.length : Int) ≤ e.f1) = true from by simp only [decide_eq_true_eq]; omega, cond_true]
    rfl
   | some x =>
    have h1 := (List.getElem?_eq_some_iff.1 hx).1
    rw [show decide ((l.length : Int) ≤ e.f1) = false from by simp only [decide_eq_false_iff_not]; omega, cond_false]
    rw [show (decide ((0 : Int) ≤ e.f1) && decide (e.f1 < (l.length : Int))) = true from by simp only [Bool.and_eq_true, decide_eq_true_eq]; omega, cond_true]
    rw [rd49_opt h0 hx, w166_ok x (hl x (List.mem_of_getElem? hx))]
    simp only [Option.bind_some, Expr.eta]
    rfl
  ·rw [if_neg h0]
   rw [show decide (e.f1 < 0) = true from by simp only [decide_eq_true_eq]; omega]
   rfl
 ·rw [show (e.f0 == op) = false from by simpa using hop, cond_false, if_neg hop]
  refine Ok.eq (Ok.after (Ok.range e.f3.length (fun i v => ∃ b z out, putL op l (e.f3.take i) = some out ∧ v = ((op, l, b, (i : Int), ()), ((e.f0, e.f1, e.f2, e.f3, ()), z, (e.f0, e.f1, e.f2, ()), out, ()))) ?_ ?_ _ ⟨_, _, _, by simp [putL], rfl⟩))
  ·rintro i v hi ⟨b, z, out, hout, rfl⟩
   dsimp only
   simp only [ltb hi, nnb, Bool.and_true, cond_true, rd49_get hi]
   have hm : e.f3[i] ∈ e.f3 := List.getElem_mem hi
   have h1 := szL_mem hm
   have hlen := putL_len hout
   rw [List.length_take] at hlen
   refine Ok.bind ⟨_, ih _ hm (by omega), rfl⟩ ?_
   rintro r rfl
   cases hp : putE op l e.f3[i] with
   | none =>
    refine ⟨_, rfl, ?_⟩
    rw [putL_mem hm hp]
    rfl
   | some x =>
    simp only [encP, Option.isSome_some, Bool.not_true, cond_false, Option.getD_some]
    rw [room (by simp only [List.length_singleton]; omega), cond_true]
    simp only [wrapK_succ hi (by omega), Expr.eta]
    exact Ok.pure ⟨_, _, _, putL_step hi hout hp, rfl⟩
  ·rintro v ⟨b, z, out, hout, rfl⟩
   dsimp only
   rw [geb (Nat.le_refl _), cond_false]
   refine Ok.pure ?_
   dsimp only
   refine Ok.pure ?_
   rw [List.take_length] at hout
   rw [hout]
   rfl
theorem w149_ok (op : Int) (l : List Expr) (hl : ∀ x, x ∈ l → sz x < 2147483648) (hll : l.length < 2147483648) : ∀ e : Expr, sz e < 2147483648 → W 149 [.agg (eV e), .int .i64 op, .lst 49 l] = some (encP (putE op l e)) := by
 refine Expr.ind fun e ih => fun hs => ?_
 rw [w149]
 unfold t149
 rw [E0_C, E0_lp]
 rw [sz_eq] at hs
 have hle := szL_len e.f3
 rw [putE_eq]
 by_cases hop : e.f0 = op
 ·rw [show (e.f0 == op) = true from by simpa using hop, cond_true, if_pos hop]
  by_cases h0 : 0 ≤ e.f1
  ·rw [if_pos h0]
   have hneg : decide (e.f1 < 0) = false := by simp only [decide_eq_false_iff_not]; omega
   rw [hneg, cond_false]
   cases hx : l[e.f1.toNat]? with
   | none =>
    have := List.getElem?_eq_none_iff.1 hx
    rw [show decide ((l.length : Int) ≤ e.f1) = true from by simp only [decide_eq_true_eq]; omega, cond_true]
    rfl
   | some x =>
    have h1 := (List.getElem?_eq_some_iff.1 hx).1
    rw [show decide ((l.length : Int) ≤ e.f1) = false from by simp only [decide_eq_false_iff_not]; omega, cond_false]
    rw [show (decide ((0 : Int) ≤ e.f1) && decide (e.f1 < (l.length : Int))) = true from by simp only [Bool.and_eq_true, decide_eq_true_eq]; omega, cond_true]
    rw [rd49_opt h0 hx, w165_ok x (hl x (List.mem_of_getElem? hx))]
    simp only [Option.bind_some, Expr.eta]
    rfl
  ·rw [if_neg h0]
   rw [show decide (e.f1 < 0) = true from by simp only [decide_eq_true_eq]; omega]
   rfl
 ·rw [show (e.f0 == op) = false from by simpa using hop, cond_false, if_neg hop]
  refine Ok.eq (Ok.after (Ok.range e.f3.length (fun i v => ∃ b z1 z2 z3 z4 z5 z6 z out, putL op l (e.f3.take i) = some out ∧ v = ((op, l, b, z1, z2, z3, z4, z5, z6, e.f3, (e.f3.length : Int), (i : Int), ()), ((e.f0, e.f1, e.f2, e.f3, ()), z, (e.f0, e.f1, e.f2, ()), out, ()))) ?_ ?_ _ ⟨_, _, _, _, _, _, _, _, _, by simp [putL], rfl⟩))
  ·rintro i v hi ⟨b, z1, z2, z3, z4, z5, z6, z, out, hout, rfl⟩
   dsimp only
   simp only [ltb hi, nnb, Bool.and_true, cond_true, rd49_get hi]
   have hm : e.f3[i] ∈ e.f3 := List.getElem_mem hi
   have h1 := szL_mem hm
   have hlen := putL_len hout
   rw [List.length_take] at hlen
   refine Ok.bind ⟨_, ih _ hm (by omega), rfl⟩ ?_
   rintro r rfl
   cases hp : putE op l e.f3[i] with
   | none =>
    refine ⟨_, rfl, ?_⟩
    rw [putL_mem hm hp]
    rfl
   | some x =>
    simp only [encP, Option.isSome_some, Bool.not_true, cond_false, Option.getD_some]
    rw [room (by simp only [List.length_singleton]; omega), cond_true]
    simp only [wrapK_succ hi (by omega), Expr.eta]
    exact Ok.pure ⟨_, _, _, _, _, _, _, _, _, putL_step hi hout hp, rfl⟩
  ·rintro v ⟨b, z1, z2, z3, z4, z5, z6, z, out, hout, rfl⟩
   dsimp only
   rw [geb (Nat.le_refl _), cond_false]
   refine Ok.pure ?_
   dsimp only
   refine Ok.pure ?_
   rw [List.take_length] at hout
   rw [hout]
   rfl
theorem w151_ok (e : Expr) (x : Int) : W 50151 [.agg (eV e), .ptr 5 0 0, .tup [.int .i64 x]] = some ((), (wrapK .i64 (x + 1), ())) := by
 rw [w50151]; rfl
theorem w150_ok : ∀ e : Expr, ∀ n : Nat, n + sz e < 2147483648 → W 15250150 [.agg (eV e), .clo 151 [] [.ptr 20 0 0], .tup [.int .i64 (n : Int)]] = some ((), (((n + sz e : Nat) : Int), ())) := by
 refine Expr.ind fun e ih => fun n hs => ?_
 rw [w15250150]
 unfold t15250150
 rw [E0_C, E0_lp]
 rw [sz_eq] at hs ⊢
 have hle := szL_len e.f3
 refine Ok.eq (Ok.bind ⟨_, w151_ok e n, rfl⟩ ?_)
 rintro r rfl
 dsimp only
 rw [wrapK_id (by omega) (by omega)]
 refine (Ok.after (Ok.range e.f3.length (fun i v => v = (((), (), (), (), e.f3, (e.f3.length : Int), (i : Int), ()), ((e.f0, e.f1, e.f2, e.f3, ()), (((n + 1 + szL (e.f3.take i) : Nat) : Int), ()), ()))) ?_ ?_ _ (by simp [szL])))
 ·rintro i v hi rfl
  dsimp only
  simp only [ltb hi, nnb, Bool.and_true, cond_true, rd49_get hi]
  have hm : e.f3[i] ∈ e.f3 := List.getElem_mem hi
  have h2 : szL (e.f3.take i) + sz e.f3[i] ≤ szL e.f3 := by
   have := szL_append (e.f3.take (i + 1)) (e.f3.drop (i + 1))
   rw [List.take_append_drop, take_succ hi, szL_append] at this
   simp only [szL] at this
   omega
  refine Ok.bind ⟨_, ih _ hm _ (by omega), rfl⟩ ?_
  rintro r rfl
  refine Ok.pure ?_
  rw [wrapK_succ hi (by omega), take_succ hi, szL_append]
  simp only [szL]
  rw [show n + 1 + (szL (e.f3.take i) + (sz e.f3[i] + 0)) = n + 1 + szL (e.f3.take i) + sz e.f3[i] from by omega]
 ·rintro v rfl
  dsimp only
  rw [geb (Nat.le_refl _), cond_false]
  refine Ok.pure ?_
  dsimp only
  refine Ok.pure ?_
  rw [List.take_length, show n + 1 + szL e.f3 = n + (szL e.f3 + 1) from by omega]
end Go.Fw.S1
set_option linter.unusedVariables false
set_option maxHeartbeats 1000000
set_option maxRecDepth 100000
namespace Go.Fw.S1
open Go.Proofs
def inlT (bs : List (Option Expr)) (o : Expr) : Option Expr :=
 (if o.f0 = 22 ∧ 0 ≤ o.f1 ∧ o.f1 < bs.length then (match bs[o.f1.toNat]? with
  | some (some b) => some ((putE 4 o.f3 b).getD E.zero)
  | _ => none) else some o).bind fun x => if 1000 < sz x then none else some x
mutual
def inlE (bs : List (Option Expr)) : Expr → Option Expr
 | ⟨f0, f1, f2, args⟩ => (inlL bs args).bind fun xs => inlT bs ⟨f0, f1, f2, xs⟩
def inlL (bs : List (Option Expr)) : List Expr → Option (List Expr)
 | [] => some []
 | a :: r => match inlE bs a, inlL bs r with
  | some x, some y => some (x :: y)
  | _, _ => none
end
theorem inlE_eq (bs : List (Option Expr)) (e : Expr) : inlE bs e = (inlL bs e.f3).bind fun xs => inlT bs ⟨e.f0, e.f1, e.f2, xs⟩ := by
 cases e; rw [inlE]
theorem inlL_append (bs : List (Option Expr)) (a b : List Expr) : inlL bs (a ++ b) = match inlL bs a, inlL bs b with
  | some x, some y => some (x ++ y)
  | _, _ => none := by
 induction a with
 | nil => simp only [List.nil_append, inlL]; cases inlL bs b <;> rfl
 | cons x a ih =>
  simp only [List.cons_append, inlL, ih]
  cases inlE bs x <;> cases inlL bs a <;> cases inlL bs b <;> rfl
theorem inlL_mem {bs : List (Option Expr)} {a : Expr} {r : List Expr} (h : a ∈ r) (hn : inlE bs a = none) : inlL bs r = none := by
 induction r with
 | nil => cases h
 | cons x r ih =>
  rcases List.mem_cons.1 h with rfl | h
  ·simp only [inlL, hn]
  ·simp only [inlL, ih h]
   cases inlE bs x <;> rfl
theorem inlL_len {bs : List (Option Expr)} : ∀ {r out : List Expr}, inlL bs r = some out → out.length = r.length := by
 intro r
 induction r with
 | nil => intro out h; simp only [inlL, Option.some.injEq] at h; subst h; rfl
 | cons x r ih =>
  intro out h
  simp only [inlL] at h
  cases h1 : inlE bs x with
  | none => rw [h1] at h; cases h
  | some y =>
   cases h2 : inlL bs r with
   | none => rw [h1, h2] at h; cases h
   | some z => rw [h1, h2] at h; cases h; simp [ih h2]
theorem inlL_step {bs : List (Option Expr)} {r out : List Expr} {i : Nat} {x : Expr} (hi : i < r.length) (h1 : inlL bs (r.take i) = some out) (h2 : inlE bs r[i] = some x) : inlL bs (r.take (i + 1)) = some (out ++ [x]) := by
 rw [take_succ hi, inlL_append, h1]
 simp only [inlL, h2]
theorem inlT_sz {bs : List (Option Expr)} {o x : Expr} (h : inlT bs o = some x) : sz x ≤ 1000 := by
 obtain ⟨y, h1, h2⟩ := Option.bind_eq_some_iff.1 h
 split at h2
 ·cases h2
 ·cases h2; omega
theorem inlE_sz {bs : List (Option Expr)} {e x : Expr} (h : inlE bs e = some x) : sz x ≤ 1000 := by
 rw [inlE_eq] at h
 obtain ⟨xs, h1, h2⟩ := Option.bind_eq_some_iff.1 h
 exact inlT_sz h2
theorem inlL_sz {bs : List (Option Expr)} : ∀ {r out : List Expr}, inlL bs r = some out → (∀ x, x ∈ out → sz x ≤ 1000) ∧ szL out ≤ 1000 * r.length := by
 intro r
 induction r with
 | nil => intro out h; simp only [inlL, Option.some.injEq] at h; subst h; exact ⟨fun x hx => (by cases hx), (by simp [szL])⟩
 | cons x r ih =>
  intro out h
  simp only [inlL] at h
  cases h1 : inlE bs x with
  | none => rw [h1] at h; cases h
  | some y =>
   cases h2 : inlL bs r with
   | none => rw [h1, h2] at h; cases h
   | some z =>
    rw [h1, h2] at h
    cases h
    obtain ⟨i1, i2⟩ := ih h2
    have := inlE_sz h1
    refine ⟨fun x hx => ?_, by simp only [szL, List.length_cons]; omega⟩
    rcases List.mem_cons.1 hx with rfl | hx
    ·exact this
    ·exact i1 x hx
theorem putE_sz (op : Int) (l : List Expr) (K : Nat) (hK : 1 ≤ K) (hl : ∀ x, x ∈ l → sz x ≤ K) : ∀ e y : Expr, putE op l e = some y → sz y ≤ sz e * K := by
 refine Expr.ind fun e ih => fun y h => ?_
 rw [putE_eq] at h
 split at h
 ·split at h
  ·have := hl y (List.mem_of_getElem? h)
   have h1 := sz_pos e
   calc sz y ≤ K := this
    _ = 1 * K := by omega
    _ ≤ sz e * K := Nat.mul_le_mul_right K h1
  ·cases h
 ·have key : ∀ r : List Expr, (∀ a, a ∈ r → ∀ y, putE op l a = some y → sz y ≤ sz a * K) → ∀ out, putL op l r = some out → szL out ≤ szL r * K := by
   intro r
   induction r with
   | nil => intro _ out h; simp only [putL, Option.some.injEq] at h; subst h; simp [szL]
   | cons a r ihr =>
    intro hr out h
    simp only [putL] at h
    cases h1 : putE op l a with
    | none => rw [h1] at h; cases h
    | some x =>
     cases h2 : putL op l r with
     | none => rw [h1, h2] at h; cases h
     | some z =>
      rw [h1, h2] at h
      cases h
      have q1 := hr a (by simp) x h1
      have q2 := ihr (fun b hb => hr b (by simp [hb])) z h2
      simp only [szL]
      rw [Nat.add_mul]
      omega
  cases hp : putL op l e.f3 with
  | none => rw [hp] at h; cases h
  | some out =>
   rw [hp] at h
   cases h
   have := key e.f3 ih out hp
   rw [sz_eq, sz_eq e, Nat.add_mul]
   simp only
   omega
def goodB (bs : List (Option Expr)) : Prop := ∀ b, some b ∈ bs → sz b ≤ 1000
theorem rd4_opt {xs : List Bool} {n : Int} {x : Bool} (h0 : 0 ≤ n) (h : xs[n.toNat]? = some x) : rd4 xs n = x := by
 obtain ⟨h1, h2⟩ := List.getElem?_eq_some_iff.1 h
 have := rd4_get h1
 rw [← h2, ← this]
 congr 1
 omega
theorem expand_end (bs : List (Option Expr)) (hb : goodB bs) (o : Expr) (ho : sz o < 2147483648) (hx : ∀ x, x ∈ o.f3 → sz x ≤ 1000) :
  (bif (bif (bif (o.f0 == (22 : Int)) then (decide ((0 : Int) ≤ o.f1)) else false) then (decide (o.f1 < ((bs.map (·.getD E.zero)).length : Int))) else false) then
   (bif (decide (0 ≤ o.f1) && decide (o.f1 < ((bs.map (·.isSome)).length : Int))) then (bif (!(rd4 (bs.map (·.isSome)) o.f1)) then some (((Expr.mk (0 : Int) (0 : Int) ByteArray.empty ([] : List Expr)), false), ()) else
    (bif (decide (0 ≤ o.f1) && decide (o.f1 < ((bs.map (·.getD E.zero)).length : Int))) then (W 152 [.agg (eV (rd49 (bs.map (·.getD E.zero)) o.f1)), .int .i64 (4 : Int), .lst 49 o.f3]).bind fun (r4 : (Expr × Bool) × Unit) =>
     (W 70 [.agg (eV (r4.1.1))]).bind fun (r5 : Int × Unit) => (bif decide ((1000 : Int) < r5.1) then some (((Expr.mk (0 : Int) (0 : Int) ByteArray.empty ([] : List Expr)), false), ()) else some (((Expr.mk r4.1.1.f0 r4.1.1.f1 r4.1.1.f2 r4.1.1.f3), true), ())) else none)) else none)
   else (W 70 [.agg (eV o)]).bind fun (r6 : Int × Unit) => (bif decide ((1000 : Int) < r6.1) then some (((Expr.mk (0 : Int) (0 : Int) ByteArray.empty ([] : List Expr)), false), ()) else some (((Expr.mk o.f0 o.f1 o.f2 o.f3), true), ()))) = some (encP (inlT bs o)) := by
 have fin : ∀ x : Expr, (bif decide ((1000 : Int) < (sz x : Int)) then some (((Expr.mk (0 : Int) (0 : Int) ByteArray.empty ([] : List Expr)), false), ()) else some (((Expr.mk x.f0 x.f1 x.f2 x.f3), true), ())) = some (encP (if 1000 < sz x then none else some x)) := by
  intro x
  by_cases h : 1000 < sz x
  ·rw [if_pos h, show decide ((1000 : Int) < (sz x : Int)) = true from by simp only [decide_eq_true_eq]; omega]; rfl
  ·rw [if_neg h, show decide ((1000 : Int) < (sz x : Int)) = false from by simp only [decide_eq_false_iff_not]; omega, Expr.eta]; rfl
 unfold inlT
 by_cases hc : o.f0 = 22 ∧ 0 ≤ o.f1 ∧ o.f1 < bs.length
 ·rw [if_pos hc]
  obtain ⟨c1, c2, c3⟩ := hc
  rw [show (o.f0 == (22 : Int)) = true from by simpa using c1, show decide ((0 : Int) ≤ o.f1) = true from by simpa using c2, List.length_map, List.length_map, show decide (o.f1 < (bs.length : Int)) = true from by simpa using c3]
  simp only [cond_true, Bool.and_self]
  have hlt : o.f1.toNat < bs.length := by omega
  have hg : bs[o.f1.toNat]? = some bs[o.f1.toNat] := List.getElem?_eq_getElem hlt
  rw [rd4_opt (x := bs[o.f1.toNat].isSome) c2 (by rw [List.getElem?_map, hg]; rfl), rd49_opt (x := bs[o.f1.toNat].getD E.zero) c2 (by rw [List.getElem?_map, hg]; rfl), hg]
  cases hv : bs[o.f1.toNat] with
  | none => rfl
  | some b =>
   have hbm : some b ∈ bs := by rw [← hv]; exact List.getElem_mem hlt
   have hbs := hb b hbm
   simp only [Option.isSome_some, Bool.not_true, cond_false, Option.getD_some, Option.bind_some]
   have hlen := szL_len o.f3
   rw [sz_eq] at ho
   refine Ok.eq (Ok.bind ⟨_, w152_ok 4 o.f3 (fun x h => by have := hx x h; omega) (by omega) b (by omega), rfl⟩ ?_)
   rintro r rfl
   simp only [encP]
   have hsz : sz ((putE 4 o.f3 b).getD E.zero) ≤ 1000000 := by
    cases hp : putE 4 o.f3 b with
    | none => simp [E.zero, sz, szL]
    | some y =>
     have := putE_sz 4 o.f3 1000 (by omega) hx b y hp
     simp only [Option.getD_some]
     have h2 : sz b * 1000 ≤ 1000 * 1000 := Nat.mul_le_mul_right 1000 hbs
     omega
   refine Ok.bind ⟨_, w70_ok _ (by omega), rfl⟩ ?_
   rintro r rfl
   exact ⟨_, fin _, rfl⟩
 ·rw [if_neg hc]
  have hcb : (bif (bif (o.f0 == (22 : Int)) then (decide ((0 : Int) ≤ o.f1)) else false) then (decide (o.f1 < ((bs.map (·.getD E.zero)).length : Int))) else false) = false := by
   rw [List.length_map]
   by_cases c1 : o.f0 = 22
   ·by_cases c2 : 0 ≤ o.f1
    ·by_cases c3 : o.f1 < (bs.length : Int)
     ·exact absurd ⟨c1, c2, c3⟩ hc
     ·simp [c1, c2, c3]
    ·simp [c1, c2]
   ·have : (o.f0 == (22 : Int)) = false := by simpa using c1
    simp [this]
  rw [hcb, cond_false]
  simp only [Option.bind_some]
  refine Ok.eq (Ok.bind ⟨_, w70_ok _ ho, rfl⟩ ?_)
  rintro r rfl
  exact ⟨_, fin _, rfl⟩
theorem w133_ok (bs : List (Option Expr)) (hb : goodB bs) : ∀ e : Expr, sz e ≤ 2097152 → W 133 [.agg (eV e), .lst 49 (bs.map (·.getD E.zero)), .lst 4 (bs.map (·.isSome))] = some (encP (inlE bs e)) := by
 refine Expr.ind fun e ih => fun hs => ?_
 refine (w133 e (bs.map (·.getD E.zero)) (bs.map (·.isSome))).trans ?_
 unfold t133
 rw [E0_C, E0_lp]
 rw [sz_eq] at hs
 have hle := szL_len e.f3
 rw [inlE_eq]
 refine Ok.eq (Ok.after (Ok.range e.f3.length (fun i v => ∃ b z out, inlL bs (e.f3.take i) = some out ∧ v = ((bs.map (·.getD E.zero), bs.map (·.isSome), b, (i : Int), ()), ((e.f0, e.f1, e.f2, e.f3, ()), z, (e.f0, e.f1, e.f2, ()), out, ()))) ?_ ?_ _ ⟨_, _, _, by simp [inlL], rfl⟩))
 ·rintro i v hi ⟨b, z, out, hout, rfl⟩
  dsimp only
  simp only [ltb hi, nnb, Bool.and_true, cond_true, rd49_get hi]
  have hm : e.f3[i] ∈ e.f3 := List.getElem_mem hi
  have h1 := szL_mem hm
  have hlen := inlL_len hout
  rw [List.length_take] at hlen
  refine Ok.bind ⟨_, ih _ hm (by omega), rfl⟩ ?_
  rintro r rfl
  cases hp : inlE bs e.f3[i] with
  | none =>
   refine ⟨_, rfl, ?_⟩
   rw [inlL_mem hm hp]
   rfl
  | some x =>
   simp only [encP, Option.isSome_some, Bool.not_true, cond_false, Option.getD_some]
   rw [room (by simp only [List.length_singleton]; omega), cond_true]
   simp only [wrapK_succ hi (by omega), Expr.eta]
   exact Ok.pure ⟨_, _, _, inlL_step hi hout hp, rfl⟩
 ·rintro v ⟨b, z, out, hout, rfl⟩
  dsimp only
  rw [geb (Nat.le_refl _), cond_false]
  refine Ok.pure ?_
  dsimp only
  rw [List.take_length] at hout
  rw [hout]
  obtain ⟨s1, s2⟩ := inlL_sz hout
  exact ⟨_, expand_end bs hb ⟨e.f0, e.f1, e.f2, out⟩ (by rw [sz_eq]; simp only; omega) s1, rfl⟩
end Go.Fw.S1
set_option linter.unusedVariables false
set_option maxHeartbeats 1000000
set_option maxRecDepth 100000
namespace Go.Fw.S1
open Go.Proofs
mutual
def calls (n : Nat) : Expr → Prop
 | ⟨f0, f1, _, args⟩ => (f0 = 22 → 0 ≤ f1 ∧ f1 < n) ∧ callsL n args
def callsL (n : Nat) : List Expr → Prop
 | [] => True
 | a :: r => calls n a ∧ callsL n r
end
theorem calls_eq (n : Nat) (e : Expr) : calls n e ↔ ((e.f0 = 22 → 0 ≤ e.f1 ∧ e.f1 < n) ∧ callsL n e.f3) := by
 cases e; rw [calls]
theorem callsL_mem {n : Nat} {a : Expr} {r : List Expr} (h : a ∈ r) (hc : callsL n r) : calls n a := by
 induction r with
 | nil => cases h
 | cons x r ih =>
  simp only [callsL] at hc
  rcases List.mem_cons.1 h with rfl | h
  ·exact hc.1
  ·exact ih h hc.2
def encBo (o : Option Expr) : Body := ⟨o.getD E.zero, o.isSome⟩
theorem rd152_opt {xs : List Body} {n : Int} {x : Body} (h0 : 0 ≤ n) (h : xs[n.toNat]? = some x) : rd152 xs n = x := by
 obtain ⟨h1, h2⟩ := List.getElem?_eq_some_iff.1 h
 have := rd152_get h1
 rw [← h2, ← this]
 congr 1
 omega
theorem inline_end (bs : List (Option Expr)) (hb : goodB bs) (o : Expr) (ho : sz o < 2147483648) (hx : ∀ x, x ∈ o.f3 → sz x ≤ 1000) (hc : o.f0 = 22 → 0 ≤ o.f1 ∧ o.f1 < bs.length) :
  (bif ((o.f0 == (22 : Int))) then (bif (decide (0 ≤ o.f1) && decide (o.f1 < ((bs.map encBo).length : Int))) then (bif (!(rd152 (bs.map encBo) o.f1).f1) then some (((Body.mk (Expr.mk (rd152 (bs.map encBo) o.f1).f0.f0 (rd152 (bs.map encBo) o.f1).f0.f1 (rd152 (bs.map encBo) o.f1).f0.f2 (rd152 (bs.map encBo) o.f1).f0.f3) (rd152 (bs.map encBo) o.f1).f1)), ()) else
    (W 149 [.agg (eV ((rd152 (bs.map encBo) o.f1).f0)), .int .i64 (4 : Int), .lst 49 o.f3]).bind fun (r4 : (Expr × Bool) × Unit) =>
    (W 15250150 [.agg (eV (r4.1.1)), .clo 151 [] [.ptr 20 0 0], .tup [.int .i64 (0 : Int)]]).bind fun (r5 : Unit × (Int × Unit)) => (bif decide ((1000 : Int) < r5.2.1) then some (((Body.mk (Expr.mk (0 : Int) (0 : Int) ByteArray.empty ([] : List Expr)) false)), ()) else some (((Body.mk (Expr.mk r4.1.1.f0 r4.1.1.f1 r4.1.1.f2 r4.1.1.f3) true)), ()))) else none)
   else (W 15250150 [.agg (eV o), .clo 151 [] [.ptr 20 0 0], .tup [.int .i64 (0 : Int)]]).bind fun (r6 : Unit × (Int × Unit)) => (bif decide ((1000 : Int) < r6.2.1) then some (((Body.mk (Expr.mk (0 : Int) (0 : Int) ByteArray.empty ([] : List Expr)) false)), ()) else some (((Body.mk (Expr.mk o.f0 o.f1 o.f2 o.f3) true)), ()))) = some (encBo (inlT bs o), ()) := by
 have fin : ∀ x : Expr, ∀ k : Int, k = (sz x : Int) → (bif decide ((1000 : Int) < k) then some (((Body.mk (Expr.mk (0 : Int) (0 : Int) ByteArray.empty ([] : List Expr)) false)), ()) else some (((Body.mk (Expr.mk x.f0 x.f1 x.f2 x.f3) true)), ())) = some (encBo (if 1000 < sz x then none else some x), ()) := by
  rintro x k rfl
  by_cases h : 1000 < sz x
  ·rw [if_pos h, show decide ((1000 : Int) < (sz x : Int)) = true from by simp only [decide_eq_true_eq]; omega]; rfl
  ·rw [if_neg h, show decide ((1000 : Int) < (sz x : Int)) = false from by simp only [decide_eq_false_iff_not]; omega, Expr.eta]; rfl
 have w150 : ∀ x : Expr, sz x < 2147483648 → W 15250150 [.agg (eV x), .clo 151 [] [.ptr 20 0 0], .tup [.int .i64 (0 : Int)]] = some ((), ((((0 + sz x : Nat) : Int)), ())) := fun x hx => w150_ok x 0 (by omega)
 unfold inlT
 by_cases h22 : o.f0 = 22
 ·obtain ⟨c2, c3⟩ := hc h22
  rw [if_pos ⟨h22, c2, c3⟩]
  rw [show (o.f0 == (22 : Int)) = true from by simpa using h22, List.length_map, show decide ((0 : Int) ≤ o.f1) = true from by simpa using c2, show decide (o.f1 < (bs.length : Int)) = true from by simpa using c3]
  simp only [cond_true, Bool.and_self]
  have hlt : o.f1.toNat < bs.length := by omega
  have hg : bs[o.f1.toNat]? = some bs[o.f1.toNat] := List.getElem?_eq_getElem hlt
  rw [rd152_opt (x := encBo bs[o.f1.toNat]) c2 (by rw [List.getElem?_map, hg]; rfl), hg]
  cases hv : bs[o.f1.toNat] with
  | none => rfl
  | some b =>
   have hbm : some b ∈ bs := by rw [← hv]; exact List.getElem_mem hlt
   have hbs := hb b hbm
   simp only [encBo, Option.isSome_some, Bool.not_true, cond_false, Option.getD_some, Option.bind_some]
   have hlen := szL_len o.f3
   rw [sz_eq] at ho
   refine Ok.eq (Ok.bind ⟨_, w149_ok 4 o.f3 (fun x h => by have := hx x h; omega) (by omega) b (by omega), rfl⟩ ?_)
   rintro r rfl
   simp only [encP]
   have hsz : sz ((putE 4 o.f3 b).getD E.zero) ≤ 1000000 := by
    cases hp : putE 4 o.f3 b with
    | none => simp [E.zero, sz, szL]
    | some y =>
     have := putE_sz 4 o.f3 1000 (by omega) hx b y hp
     simp only [Option.getD_some]
     have h2 : sz b * 1000 ≤ 1000 * 1000 := Nat.mul_le_mul_right 1000 hbs
     omega
   refine Ok.bind ⟨_, w150 _ (by omega), rfl⟩ ?_
   rintro r rfl
   exact ⟨_, fin _ _ (by simp), rfl⟩
 ·rw [if_neg (fun hh => h22 hh.1)]
  rw [show (o.f0 == (22 : Int)) = false from by simpa using h22, cond_false]
  simp only [Option.bind_some]
  refine Ok.eq (Ok.bind ⟨_, w150 _ ho, rfl⟩ ?_)
  rintro r rfl
  exact ⟨_, fin _ _ (by simp), rfl⟩
theorem w131_ok (bs : List (Option Expr)) (hb : goodB bs) : ∀ e : Expr, sz e ≤ 2097152 → calls bs.length e → W 131 [.agg (eV e), .lst 152 (bs.map encBo)] = some (encBo (inlE bs e), ()) := by
 refine Expr.ind fun e ih => fun hs hc => ?_
 refine (w131 e (bs.map encBo)).trans ?_
 unfold t131
 rw [E0_C, E0_lp]
 rw [sz_eq] at hs
 rw [calls_eq] at hc
 have hle := szL_len e.f3
 rw [inlE_eq]
 refine Ok.eq (Ok.after (Ok.range e.f3.length (fun i v => ∃ z1 z2 z3 z out, inlL bs (e.f3.take i) = some out ∧ v = ((bs.map encBo, z1, z2, z3, e.f3, (e.f3.length : Int), (i : Int), ()), ((e.f0, e.f1, e.f2, e.f3, ()), z, (e.f0, e.f1, e.f2, ()), out, ()))) ?_ ?_ _ ⟨_, _, _, _, _, by simp [inlL], rfl⟩))
 ·rintro i v hi ⟨z1, z2, z3, z, out, hout, rfl⟩
  dsimp only
  simp only [ltb hi, nnb, Bool.and_true, cond_true, rd49_get hi]
  have hm : e.f3[i] ∈ e.f3 := List.getElem_mem hi
  have h1 := szL_mem hm
  have hlen := inlL_len hout
  rw [List.length_take] at hlen
  refine Ok.bind ⟨_, ih _ hm (by omega) (callsL_mem hm hc.2), rfl⟩ ?_
  rintro r rfl
  cases hp : inlE bs e.f3[i] with
  | none =>
   refine ⟨_, rfl, ?_⟩
   rw [inlL_mem hm hp]
   rfl
  | some x =>
   simp only [encBo, Option.isSome_some, Bool.not_true, cond_false, Option.getD_some]
   rw [room (by simp only [List.length_singleton]; omega), cond_true]
   simp only [wrapK_succ hi (by omega), Expr.eta]
   exact Ok.pure ⟨_, _, _, _, _, inlL_step hi hout hp, rfl⟩
 ·rintro v ⟨z1, z2, z3, z, out, hout, rfl⟩
  dsimp only
  rw [geb (Nat.le_refl _), cond_false]
  refine Ok.pure ?_
  dsimp only
  rw [List.take_length] at hout
  rw [hout]
  obtain ⟨s1, s2⟩ := inlL_sz hout
  exact ⟨_, inline_end bs hb ⟨e.f0, e.f1, e.f2, out⟩ (by rw [sz_eq]; simp only; omega) s1 hc.1, rfl⟩
def bodies (fs : List Go.Fw.S1.Func) : List (Option Expr) := fs.foldl (fun bs f => bs ++ [inlE bs f.f3]) []
theorem bodies_snoc (fs : List Go.Fw.S1.Func) (f : Go.Fw.S1.Func) : bodies (fs ++ [f]) = bodies fs ++ [inlE (bodies fs) f.f3] := by
 unfold bodies
 rw [List.foldl_append]
 rfl
theorem bodies_len (fs : List Go.Fw.S1.Func) : (bodies fs).length = fs.length := by
 have : ∀ (fs : List Go.Fw.S1.Func) (bs : List (Option Expr)), (fs.foldl (fun bs f => bs ++ [inlE bs f.f3]) bs).length = bs.length + fs.length := by
  intro fs
  induction fs with
  | nil => intro bs; rfl
  | cons f fs ih => intro bs; simp only [List.foldl_cons]; rw [ih]; simp; omega
 have := this fs []
 simpa [bodies] using this
theorem bodies_good (fs : List Go.Fw.S1.Func) : goodB (bodies fs) := by
 have : ∀ (fs : List Go.Fw.S1.Func) (bs : List (Option Expr)), goodB bs → goodB (fs.foldl (fun bs f => bs ++ [inlE bs f.f3]) bs) := by
  intro fs
  induction fs with
  | nil => intro bs h; exact h
  | cons f fs ih =>
   intro bs h
   simp only [List.foldl_cons]
   refine ih _ fun b hb => ?_
   rcases List.mem_append.1 hb with hb | hb
   ·exact h b hb
   ·simp only [List.mem_singleton] at hb
    exact inlE_sz hb.symm
 exact this fs [] (fun b hb => by cases hb)
def inlineE (fs : List Go.Fw.S1.Func) (e : Expr) : Option Expr := (inlE (bodies fs) e).bind fun x => if 12 < lev x then none else some x
theorem inline_fin (o : Option Expr) (hs : ∀ x, o = some x → sz x ≤ 1000) (L : Option (Int × Unit)) (d : Int × Unit) (hL : ∀ x, o = some x → L = some ((lev x : Int), ())) :
  ((bif (!(!o.isSome)) then L else some d).bind fun (r5 : Int × Unit) => (bif (bif (!o.isSome) then true else (decide ((12 : Int) < r5.1))) then some (((Expr.mk (0 : Int) (0 : Int) ByteArray.empty ([] : List Expr)), false), ()) else some (((o.getD E.zero), true), ()))) = some (encP (o.bind fun x => if 12 < lev x then none else some x)) := by
 cases o with
 | none => rfl
 | some x =>
  simp only [Option.isSome_some, Bool.not_true, Bool.not_false, cond_true, cond_false, Option.getD_some, Option.bind_some]
  rw [hL x rfl]
  simp only [Option.bind_some]
  by_cases h : 12 < lev x
  ·rw [if_pos h, show decide ((12 : Int) < (lev x : Int)) = true from by simp only [decide_eq_true_eq]; omega]; rfl
  ·rw [if_neg h, show decide ((12 : Int) < (lev x : Int)) = false from by simp only [decide_eq_false_iff_not]; omega]; rfl
theorem w115_ok (fs : List Go.Fw.S1.Func) (hf : fs.length ≤ 2097152) (hfs : ∀ f, f ∈ fs → sz f.f3 ≤ 2097152) (e : Expr) (he : sz e ≤ 2097152) :
  W 115 [.lst 100 fs, .agg (eV e)] = some (encP (inlineE fs e)) := by
 refine (w115 fs e).trans ?_
 unfold t115
 rw [E0_C, E0_lp]
 refine Ok.eq (Ok.after (Ok.range fs.length (fun i v => ∃ b z, v = ((fs, b, (i : Int), ()), ((e.f0, e.f1, e.f2, e.f3, ()), z, (bodies (fs.take i)).map (·.getD E.zero), (bodies (fs.take i)).map (·.isSome), ()))) ?_ ?_ _ ⟨_, _, rfl⟩))
 ·rintro i v hi ⟨b, z, rfl⟩
  dsimp only
  simp only [ltb hi, nnb, Bool.and_true, cond_true, rd100_get hi]
  have hm : fs[i] ∈ fs := List.getElem_mem hi
  have hbl : (bodies (fs.take i)).length = i := by rw [bodies_len, List.length_take]; omega
  refine Ok.bind ⟨_, w133_ok (bodies (fs.take i)) (bodies_good _) _ (hfs _ hm), rfl⟩ ?_
  rintro r rfl
  simp only [encP, Expr.eta, List.length_map]
  rw [room (by simp only [List.length_singleton]; omega), cond_true, room (by simp only [List.length_singleton]; omega), cond_true]
  simp only [wrapK_succ hi (by omega)]
  have q1 : (bodies (fs.take i)).map (·.getD E.zero) ++ [(inlE (bodies (fs.take i)) fs[i].f3).getD E.zero] = (bodies (fs.take (i + 1))).map (·.getD E.zero) := by rw [take_succ hi, bodies_snoc, List.map_append]; rfl
  have q2 : (bodies (fs.take i)).map (·.isSome) ++ [(inlE (bodies (fs.take i)) fs[i].f3).isSome] = (bodies (fs.take (i + 1))).map (·.isSome) := by rw [take_succ hi, bodies_snoc, List.map_append]; rfl
  rw [q1, q2]
  exact Ok.pure ⟨_, _, rfl⟩
 ·rintro v ⟨b, z, rfl⟩
  dsimp only
  rw [geb (Nat.le_refl _), cond_false]
  refine Ok.pure ?_
  dsimp only
  rw [List.take_length]
  refine Ok.bind ⟨_, w133_ok (bodies fs) (bodies_good _) e he, rfl⟩ ?_
  rintro r rfl
  simp only [encP, Expr.eta]
  exact ⟨_, inline_fin (inlE (bodies fs) e) (fun x hx => inlE_sz hx) _ _ (fun x hx => by rw [hx]; exact w71_ok x (by have := inlE_sz hx; omega)), rfl⟩
def callsF (fs : List Go.Fw.S1.Func) : Prop := ∀ (i : Nat) (h : i < fs.length), calls i fs[i].f3
theorem w100_ok (fs : List Go.Fw.S1.Func) (hf : fs.length ≤ 2097152) (hfs : ∀ f, f ∈ fs → sz f.f3 ≤ 2097152) (hcf : callsF fs) (e : Expr) (he : sz e ≤ 2097152) (hce : calls fs.length e) :
  W 100 [.lst 100 fs, .agg (eV e)] = some (encP (inlineE fs e)) := by
 refine (w100 fs e).trans ?_
 unfold t100
 rw [E0_C, E0_lp]
 refine Ok.eq (Ok.after (Ok.range fs.length (fun i v => ∃ b z, v = ((fs, b, fs, (fs.length : Int), (i : Int), ()), ((e.f0, e.f1, e.f2, e.f3, ()), z, (bodies (fs.take i)).map encBo, ()))) ?_ ?_ _ ⟨_, _, rfl⟩))
 ·rintro i v hi ⟨b, z, rfl⟩
  dsimp only
  simp only [ltb hi, nnb, Bool.and_true, cond_true, rd100_get hi]
  have hm : fs[i] ∈ fs := List.getElem_mem hi
  have hbl : (bodies (fs.take i)).length = i := by rw [bodies_len, List.length_take]; omega
  refine Ok.bind ⟨_, w131_ok (bodies (fs.take i)) (bodies_good _) _ (hfs _ hm) (by rw [hbl]; exact hcf i hi), rfl⟩ ?_
  rintro r rfl
  simp only [encBo, Expr.eta, List.length_map]
  rw [room (by simp only [List.length_singleton]; omega), cond_true]
  simp only [wrapK_succ hi (by omega)]
  have q1 : (bodies (fs.take i)).map encBo ++ [(⟨(inlE (bodies (fs.take i)) fs[i].f3).getD E.zero, (inlE (bodies (fs.take i)) fs[i].f3).isSome⟩ : Body)] = (bodies (fs.take (i + 1))).map encBo := by rw [take_succ hi, bodies_snoc, List.map_append]; rfl
  rw [q1]
  exact Ok.pure ⟨_, _, rfl⟩
 ·rintro v ⟨b, z, rfl⟩
  dsimp only
  rw [geb (Nat.le_refl _), cond_false]
  refine Ok.pure ?_
  dsimp only
  rw [List.take_length]
  refine Ok.bind ⟨_, w131_ok (bodies fs) (bodies_good _) e he (by rw [bodies_len]; exact hce), rfl⟩ ?_
  rintro r rfl
  simp only [encBo, Expr.eta]
  exact ⟨_, inline_fin (inlE (bodies fs) e) (fun x hx => inlE_sz hx) _ _ (fun x hx => by rw [hx]; exact w132_ok x (by have := inlE_sz hx; omega)), rfl⟩
theorem w101_ok : ∀ a : Expr, sz a < 2147483648 → ∀ b : Expr, Ok (W 101 [.agg (eV a), .agg (eV b)]) (fun r => a = b → r = (true, ())) := by
 refine Expr.ind fun a ih => fun hs b => ?_
 rw [w101]
 unfold t101
 rw [E0_C]
 rw [sz_eq] at hs
 have hle := szL_len a.f3
 have hlist : ∀ l : List Expr, Ok (W 10200074 [.lst 49 a.f3, .lst 49 l, .clo 101 [] []]) (fun r => a.f3 = l → r = (true, ())) := by
  intro l
  refine (show W 10200074 [.lst 49 a.f3, .lst 49 l, .clo 101 [] []] = t10200074 E0 a.f3 l from w10200074 a.f3 l) ▸ ?_
  unfold t10200074
  rw [E0_C, E0_lp]
  refine Ok.bif (fun h => ?_) (fun h => ?_)
  ·refine Ok.pure fun hh => ?_
   subst hh
   simp at h
  ·have hlen : a.f3.length = l.length := by
    have h : (a.f3.length : Int) = (l.length : Int) := by simpa using h
    omega
   refine Ok.after (Ok.range a.f3.length (fun i v => ∃ z1 z2 z3 z4 z5 z6, v = ((a.f3, l, (), (), z1, z2, z3, z4, z5, z6, a.f3, (a.f3.length : Int), (i : Int), ()), ())) ?_ ?_ _ ⟨_, _, _, _, _, _, rfl⟩)
   ·rintro i v hi ⟨z1, z2, z3, z4, z5, z6, rfl⟩
    dsimp only
    have hi2 : i < l.length := by omega
    simp only [ltb hi, ltb hi2, nnb, Bool.and_true, cond_true, rd49_get hi, rd49_get hi2]
    have hm : a.f3[i] ∈ a.f3 := List.getElem_mem hi
    have h1 := szL_mem hm
    refine Ok.bind (ih _ hm (by omega) l[i]) ?_
    intro r hr
    refine Ok.bif (fun h => ?_) (fun h => ?_)
    ·refine ⟨_, rfl, ?_⟩
     intro hh
     have := hr (by simp only [hh])
     rw [this] at h
     cases h
    ·simp only [wrapK_succ hi (by omega)]
     exact Ok.pure ⟨_, _, _, _, _, _, rfl⟩
   ·rintro v ⟨z1, z2, z3, z4, z5, z6, rfl⟩
    dsimp only
    rw [geb (Nat.le_refl _), cond_false]
    refine Ok.pure ?_
    dsimp only
    exact Ok.pure fun _ => rfl
 cases hc : (bif (bif (bif ((a.f0 == b.f0)) then ((a.f1 == b.f1)) else false) then (a.f2.toList == b.f2.toList) else false) then true else false) with
 | false =>
  have hc' : (bif (bif ((a.f0 == b.f0)) then ((a.f1 == b.f1)) else false) then (a.f2.toList == b.f2.toList) else false) = false := by
   revert hc
   cases (bif (bif ((a.f0 == b.f0)) then ((a.f1 == b.f1)) else false) then (a.f2.toList == b.f2.toList) else false) <;> simp
  rw [hc']
  refine Ok.pure ?_
  intro hh
  subst hh
  simp at hc'
 | true =>
  have hc' : (bif (bif ((a.f0 == b.f0)) then ((a.f1 == b.f1)) else false) then (a.f2.toList == b.f2.toList) else false) = true := by
   revert hc
   cases (bif (bif ((a.f0 == b.f0)) then ((a.f1 == b.f1)) else false) then (a.f2.toList == b.f2.toList) else false) <;> simp
  rw [hc']
  simp only [cond_true]
  refine Ok.bind (hlist b.f3) ?_
  intro r hr
  refine Ok.pure ?_
  intro hh
  have := hr (by rw [hh])
  rw [this]
end Go.Fw.S1
set_option linter.unusedVariables false
set_option maxHeartbeats 1000000
set_option maxRecDepth 100000
namespace Go.Fw.S1
open Go.Proofs
abbrev vE (e : Expr) : Val T := .agg (eV e)
abbrev vN (a : Node) : Val T := .agg (nV a)
abbrev vPl (F : List Go.Fw.S1.Func) (N : List Node) (G : List Go.Fw.S1.Func) (M : List Node) (k : Nat) : Val T := .agg [.lst 100 F, .lst 43 N, .lst 100 G, .lst 43 M, .mref k 0]
abbrev Memo := List (Ty80 × Bool)
def eqf {α : Type} (f : α → α → Bool) : List α → List α → Bool
 | [], [] => true
 | a :: r, b :: q => f a b && eqf f r q
 | _, _ => false
theorem eqf_len {α : Type} {f : α → α → Bool} : ∀ {l k : List α}, eqf f l k = true → l.length = k.length := by
 intro l
 induction l with
 | nil => intro k h; cases k with | nil => rfl | cons => cases h
 | cons a l ih => intro k h; cases k with
  | nil => cases h
  | cons b k => simp only [eqf, Bool.and_eq_true] at h; simp [ih h.2]
theorem eqf_iff {α : Type} {f : α → α → Bool} : ∀ {l k : List α}, l.length = k.length → (eqf f l k = true ↔ ∀ i (h : i < l.length) (h' : i < k.length), f l[i] k[i] = true) := by
 intro l
 induction l with
 | nil => intro k h; cases k with | nil => simp [eqf] | cons => cases h
 | cons a l ih =>
  intro k h
  cases k with
  | nil => cases h
  | cons b k =>
   simp only [eqf, Bool.and_eq_true]
   rw [ih (by simpa using h)]
   constructor
   ·rintro ⟨h1, h2⟩ i hi hi'
    cases i with
    | zero => exact h1
    | succ i => exact h2 i (by simpa using hi) (by simpa using hi')
   ·intro hh
    exact ⟨hh 0 (by simp) (by simp), fun i hi hi' => hh (i + 1) (by simpa using hi) (by simpa using hi')⟩
theorem eqf_loop {α V R : Type} (f : α → α → Bool) (l k : List α) (hlen : l.length = k.length) {body : V → Option (Step V R)} (st : Nat → V → Prop) (Qo : V → Prop) (Qr : R → Prop)
  (hb : ∀ i v (h : i < l.length) (h' : i < k.length), st i v → Ok (body v) fun s => match s with
   | .again v' => f l[i] k[i] = true ∧ st (i + 1) v'
   | .out _ => False
   | .ret r => f l[i] k[i] = false ∧ Qr r)
  (he : ∀ v, st l.length v → Ok (body v) fun s => match s with
   | .again _ => False
   | .out v' => Qo v'
   | .ret _ => False) (v : V) (hv : st 0 v) : Ok (loopW V R body v) fun o => match o with
   | .out v => eqf f l k = true ∧ Qo v
   | .ret r => eqf f l k = false ∧ Qr r := by
 refine Ok.range l.length (fun i v => st i v ∧ ∀ j, j < i → ∀ (h : j < l.length) (h' : j < k.length), f l[j] k[j] = true) ?_ ?_ v ⟨hv, fun j hj => by omega⟩
 ·rintro i v hi ⟨h1, h2⟩
  refine (hb i v hi (by omega) h1).mono fun s hs => ?_
  cases s with
  | again v' =>
   refine ⟨hs.2, fun j hj h h' => ?_⟩
   rcases Nat.lt_or_ge j i with hji | hji
   ·exact h2 j hji h h'
   ·have : j = i := by omega
    subst this
    exact hs.1
  | out v' => exact hs.elim
  | ret r =>
   refine ⟨?_, hs.2⟩
   cases hh : eqf f l k with
   | false => rfl
   | true =>
    have := (eqf_iff hlen).1 hh i hi (by omega)
    rw [this] at hs
    exact absurd hs.1 (by simp)
 ·rintro v ⟨h1, h2⟩
  refine (he v h1).mono fun s hs => ?_
  cases s with
  | again v' => exact hs
  | out v' => exact ⟨(eqf_iff hlen).2 fun i h h' => h2 i h h h', hs⟩
  | ret r => exact hs.elim
theorem eqf_ne {α : Type} {f : α → α → Bool} {l k : List α} (h : ((l.length : Int) != (k.length : Int)) = true) : eqf f l k = false := by
 cases hh : eqf f l k with
 | false => rfl
 | true =>
  have := eqf_len hh
  rw [this] at h
  simp at h
theorem len_eq {α β : Type} {l : List α} {k : List β} (h : ((l.length : Int) != (k.length : Int)) = false) : l.length = k.length := by
 have h : (l.length : Int) = (k.length : Int) := by simpa using h
 omega
theorem w48_ok (l k : List Int) (hl : l.length ≤ 2097152) : W 48 [.lst 3 l, .lst 3 k] = some (eqf (fun a b => a == b) l k, ()) := by
 refine (w48 l k).trans ?_
 unfold t48
 rw [E0_lp]
 refine Ok.eq (Ok.bif (fun h => ?_) (fun h => ?_))
 ·rw [eqf_ne h]; exact Ok.pure rfl
 ·have hlen := len_eq h
  refine Ok.after ((eqf_loop (fun a b : Int => a == b) l k hlen (fun i v => ∃ z1 z2 z3 z4 z5 z6, v = ((l, k, z1, z2, z3, z4, z5, z6, l, (l.length : Int), (i : Int), ()), ())) (fun _ => True) (fun r => r = (false, ())) ?_ ?_ _ ⟨_, _, _, _, _, _, rfl⟩).mono ?_)
  ·rintro i v hi hi2 ⟨z1, z2, z3, z4, z5, z6, rfl⟩
   dsimp only
   simp only [ltb hi, ltb hi2, nnb, Bool.and_true, cond_true, rd3_get hi, rd3_get hi2]
   refine Ok.bif (fun h => ?_) (fun h => ?_)
   ·refine ⟨_, rfl, ?_, rfl⟩
    simpa using h
   ·simp only [wrapK_succ hi (by omega)]
    refine Ok.pure ⟨by simpa using h, _, _, _, _, _, _, rfl⟩
  ·rintro v ⟨z1, z2, z3, z4, z5, z6, rfl⟩
   dsimp only
   rw [geb (Nat.le_refl _), cond_false]
   exact Ok.pure trivial
  ·intro o ho
   cases o with
   | out v => exact Ok.pure (by rw [ho.1])
   | ret r => rw [ho.1]; exact ho.2
noncomputable def sameW (x y : Expr) : Bool := match (W 101 [vE x, vE y] : Option (Bool × Unit)) with
 | some r => r.1
 | none => false
theorem sameW_ok {x : Expr} (hx : sz x < 2147483648) (y : Expr) : W 101 [vE x, vE y] = some (sameW x y, ()) := by
 obtain ⟨r, h1, h2⟩ := w101_ok x hx y
 have h1' : (W 101 [vE x, vE y] : Option (Bool × Unit)) = some r := h1
 unfold sameW
 rw [h1']
 rcases r with ⟨b, u⟩
 rfl
theorem sameW_refl {x : Expr} (hx : sz x < 2147483648) : sameW x x = true := by
 obtain ⟨r, h1, h2⟩ := w101_ok x hx x
 have h1' : (W 101 [vE x, vE x] : Option (Bool × Unit)) = some r := h1
 unfold sameW
 rw [h1']
 have := h2 rfl
 rw [this]
noncomputable def alikeB (F : List Go.Fw.S1.Func) (a : Expr) (G : List Go.Fw.S1.Func) (b : Expr) : Bool := match inlineE F a, inlineE G b with
 | some x, some y => sameW x y
 | _, _ => false
structure OkF (F : List Go.Fw.S1.Func) : Prop where
 len : F.length ≤ 2097152
 sz : ∀ f, f ∈ F → sz f.f3 ≤ 2097152
 calls : callsF F
structure OkX (F : List Go.Fw.S1.Func) (e : Expr) : Prop where
 sz : sz e ≤ 2097152
 calls : calls F.length e
theorem inlineE_sz {F : List Go.Fw.S1.Func} {e x : Expr} (h : inlineE F e = some x) : sz x ≤ 1000 := by
 obtain ⟨y, h1, h2⟩ := Option.bind_eq_some_iff.1 h
 split at h2
 ·cases h2
 ·cases h2; exact inlE_sz h1
theorem w50075_ok {F G : List Go.Fw.S1.Func} {N M : List Node} (hF : OkF F) (hG : OkF G) {a b : Expr} (ha : OkX F a) (hb : OkX G b) (m : Memo) :
  W 50075 [.ptr 40 0 0, vE a, vE b, vPl F N G M 41, .mpv 80 4 m] = some (alikeB F a G b, (m, ())) := by
 refine (w50075 a b F N G M m).trans ?_
 unfold t50075
 rw [E0_C]
 refine Ok.eq (Ok.bind ⟨_, w100_ok F hF.len hF.sz hF.calls a ha.sz ha.calls, rfl⟩ ?_)
 rintro r rfl
 refine Ok.bind ⟨_, w100_ok G hG.len hG.sz hG.calls b hb.sz hb.calls, rfl⟩ ?_
 rintro r rfl
 unfold alikeB
 simp only [encP]
 cases hx : inlineE F a with
 | none => exact Ok.pure rfl
 | some x =>
  cases hy : inlineE G b with
  | none => exact Ok.pure rfl
  | some y =>
   simp only [Option.isSome_some, cond_true, Option.getD_some]
   refine Ok.bind ⟨_, sameW_ok (by have := inlineE_sz hx; omega) y, rfl⟩ ?_
   rintro r rfl
   exact Ok.pure rfl
theorem alikeB_refl {F : List Go.Fw.S1.Func} {a : Expr} (h : (inlineE F a).isSome = true) : alikeB F a F a = true := by
 unfold alikeB
 cases hx : inlineE F a with
 | none => rw [hx] at h; cases h
 | some x => exact sameW_refl (by have := inlineE_sz hx; omega)
theorem w7650074_ok {F G : List Go.Fw.S1.Func} {N M : List Node} (hF : OkF F) (hG : OkF G) (l k : List Expr) (hl : l.length ≤ 2097152) (hla : ∀ e, e ∈ l → OkX F e) (hka : ∀ e, e ∈ k → OkX G e) (m : Memo) :
  W 7650074 [.lst 49 l, .lst 49 k, .clo 75 [.ptr 32 0 0] [], vPl F N G M 33, .mpv 80 4 m] = some (eqf (fun a b => alikeB F a G b) l k, (m, ())) := by
 refine (w7650074 l k F N G M m).trans ?_
 unfold t7650074
 rw [E0_C, E0_lp]
 refine Ok.eq (Ok.bif (fun h => ?_) (fun h => ?_))
 ·rw [eqf_ne h]; exact Ok.pure rfl
 ·have hlen := len_eq h
  refine Ok.after ((eqf_loop (fun a b => alikeB F a G b) l k hlen (fun i v => ∃ z1 z2 z3 z4 z5 z6, v = ((l, k, (), (), z1, z2, z3, z4, z5, z6, l, (l.length : Int), (i : Int), ()), ((F, N, G, M, ()), m, ()))) (fun v => v.2.2.1 = m) (fun r => r = (false, (m, ()))) ?_ ?_ _ ⟨_, _, _, _, _, _, rfl⟩).mono ?_)
  ·rintro i v hi hi2 ⟨z1, z2, z3, z4, z5, z6, rfl⟩
   dsimp only
   simp only [ltb hi, ltb hi2, nnb, Bool.and_true, cond_true, rd49_get hi, rd49_get hi2]
   refine Ok.bind ⟨_, w50075_ok hF hG (hla _ (List.getElem_mem hi)) (hka _ (List.getElem_mem hi2)) m, rfl⟩ ?_
   rintro r rfl
   refine Ok.bif (fun h => ?_) (fun h => ?_)
   ·refine ⟨_, rfl, ?_, rfl⟩
    simpa using h
   ·simp only [wrapK_succ hi (by omega)]
    refine Ok.pure ⟨by simpa using h, _, _, _, _, _, _, rfl⟩
  ·rintro v ⟨z1, z2, z3, z4, z5, z6, rfl⟩
   dsimp only
   rw [geb (Nat.le_refl _), cond_false]
   exact Ok.pure rfl
  ·intro o ho
   cases o with
   | out v => exact Ok.pure (by rw [ho.1, ← ho.2])
   | ret r => rw [ho.1]; exact ho.2
def aggB (a b : Agg) : Bool := (bif ((a.f0 == b.f0)) then ((a.f1 == b.f1)) else false)
theorem w7800076_ok (l k : List Agg) (hl : l.length ≤ 2097152) : W 7800076 [.lst 47 l, .lst 47 k, .clo 77 [] []] = some (eqf aggB l k, ()) := by
 refine (w7800076 l k).trans ?_
 unfold t7800076
 rw [E0_C, E0_lp]
 refine Ok.eq (Ok.bif (fun h => ?_) (fun h => ?_))
 ·rw [eqf_ne h]; exact Ok.pure rfl
 ·have hlen := len_eq h
  refine Ok.after ((eqf_loop aggB l k hlen (fun i v => ∃ z1 z2 z3 z4 z5 z6, v = ((l, k, (), (), z1, z2, z3, z4, z5, z6, l, (l.length : Int), (i : Int), ()), ())) (fun v => True) (fun r => r = (false, ())) ?_ ?_ _ ⟨_, _, _, _, _, _, rfl⟩).mono ?_)
  ·rintro i v hi hi2 ⟨z1, z2, z3, z4, z5, z6, rfl⟩
   dsimp only
   simp only [ltb hi, ltb hi2, nnb, Bool.and_true, cond_true, rd47_get hi, rd47_get hi2]
   refine Ok.bind ⟨_, (w77 l[i] k[i]).trans (show t77 E0 l[i] k[i] = some (aggB l[i] k[i], ()) from rfl), rfl⟩ ?_
   rintro r rfl
   refine Ok.bif (fun h => ?_) (fun h => ?_)
   ·refine ⟨_, rfl, ?_, rfl⟩
    simpa using h
   ·simp only [wrapK_succ hi (by omega)]
    refine Ok.pure ⟨by simpa using h, _, _, _, _, _, _, rfl⟩
  ·rintro v ⟨z1, z2, z3, z4, z5, z6, rfl⟩
   dsimp only
   rw [geb (Nat.le_refl _), cond_false]
   exact Ok.pure trivial
  ·intro o ho
   cases o with
   | out v => exact Ok.pure (by rw [ho.1])
   | ret r => rw [ho.1]; exact ho.2
def colB (a b : Col) : Bool := (a.f1 == b.f1)
theorem w8200080_ok (l k : List Col) (hl : l.length ≤ 2097152) : W 8200080 [.lst 77 l, .lst 77 k, .clo 81 [] []] = some (eqf colB l k, ()) := by
 refine (w8200080 l k).trans ?_
 unfold t8200080
 rw [E0_C, E0_lp]
 refine Ok.eq (Ok.bif (fun h => ?_) (fun h => ?_))
 ·rw [eqf_ne h]; exact Ok.pure rfl
 ·have hlen := len_eq h
  refine Ok.after ((eqf_loop colB l k hlen (fun i v => ∃ z1 z2 z3 z4 z5 z6, v = ((l, k, (), (), z1, z2, z3, z4, z5, z6, l, (l.length : Int), (i : Int), ()), ())) (fun v => True) (fun r => r = (false, ())) ?_ ?_ _ ⟨_, _, _, _, _, _, rfl⟩).mono ?_)
  ·rintro i v hi hi2 ⟨z1, z2, z3, z4, z5, z6, rfl⟩
   dsimp only
   simp only [ltb hi, ltb hi2, nnb, Bool.and_true, cond_true, rd77_get hi, rd77_get hi2]
   refine Ok.bind ⟨_, (w81 l[i] k[i]).trans (show t81 E0 l[i] k[i] = some (colB l[i] k[i], ()) from rfl), rfl⟩ ?_
   rintro r rfl
   refine Ok.bif (fun h => ?_) (fun h => ?_)
   ·refine ⟨_, rfl, ?_, rfl⟩
    simpa using h
   ·simp only [wrapK_succ hi (by omega)]
    refine Ok.pure ⟨by simpa using h, _, _, _, _, _, _, rfl⟩
  ·rintro v ⟨z1, z2, z3, z4, z5, z6, rfl⟩
   dsimp only
   rw [geb (Nat.le_refl _), cond_false]
   exact Ok.pure trivial
  ·intro o ho
   cases o with
   | out v => exact Ok.pure (by rw [ho.1])
   | ret r => rw [ho.1]; exact ho.2
noncomputable def patB (F G : List Go.Fw.S1.Func) (a b : Pat) : Bool := (bif ((a.f1 == b.f1)) then alikeB F a.f0 G b.f0 else false)
theorem w50079_ok {F G : List Go.Fw.S1.Func} {N M : List Node} (hF : OkF F) (hG : OkF G) {a b : Pat} (ha : OkX F a.f0) (hb : OkX G b.f0) (m : Memo) :
  W 50079 [.agg [.int .i64 a.f0.f0, .int .i64 a.f0.f1, .str a.f0.f2, .lst 49 a.f0.f3, .int .i64 a.f1], .agg [.int .i64 b.f0.f0, .int .i64 b.f0.f1, .str b.f0.f2, .lst 49 b.f0.f3, .int .i64 b.f1], .ptr 19 0 0, .agg [.ptr 20 0 0], vPl F N G M 21, .mpv 80 4 m] = some (patB F G a b, (m, ())) := by
 refine (w50079 a b F N G M m).trans ?_
 unfold t50079 patB
 rw [E0_C]
 cases h : (a.f1 == b.f1) with
 | false => exact Ok.eq (Ok.bind (Q := fun _ => True) ⟨_, rfl, trivial⟩ fun r _ => Ok.pure rfl)
 | true =>
  simp only [cond_true]
  refine Ok.eq (Ok.bind ⟨_, w50075_ok hF hG ha hb m, rfl⟩ ?_)
  rintro r rfl
  exact Ok.pure rfl
theorem w8050078_ok {F G : List Go.Fw.S1.Func} {N M : List Node} (hF : OkF F) (hG : OkF G) (l k : List Pat) (hl : l.length ≤ 2097152) (hla : ∀ e, e ∈ l → OkX F e.f0) (hka : ∀ e, e ∈ k → OkX G e.f0) (m : Memo) :
  W 8050078 [.lst 103 l, .lst 103 k, .clo 79 [] [.ptr 32 0 0], .agg [.ptr 33 0 0], vPl F N G M 34, .mpv 80 4 m] = some (eqf (patB F G) l k, (m, ())) := by
 refine (w8050078 l k F N G M m).trans ?_
 unfold t8050078
 rw [E0_C, E0_lp]
 refine Ok.eq (Ok.bif (fun h => ?_) (fun h => ?_))
 ·rw [eqf_ne h]; exact Ok.pure rfl
 ·have hlen := len_eq h
  refine Ok.after ((eqf_loop (patB F G) l k hlen (fun i v => ∃ z1 z2 z3 z4 z5 z6, v = ((l, k, (), (), z1, z2, z3, z4, z5, z6, l, (l.length : Int), (i : Int), ()), ((), (F, N, G, M, ()), m, ()))) (fun v => v.2.2.2.1 = m) (fun r => r = (false, (m, ()))) ?_ ?_ _ ⟨_, _, _, _, _, _, rfl⟩).mono ?_)
  ·rintro i v hi hi2 ⟨z1, z2, z3, z4, z5, z6, rfl⟩
   dsimp only
   simp only [ltb hi, ltb hi2, nnb, Bool.and_true, cond_true, rd103_get hi, rd103_get hi2]
   refine Ok.bind ⟨_, w50079_ok hF hG (hla _ (List.getElem_mem hi)) (hka _ (List.getElem_mem hi2)) m, rfl⟩ ?_
   rintro r rfl
   refine Ok.bif (fun h => ?_) (fun h => ?_)
   ·refine ⟨_, rfl, ?_, rfl⟩
    simpa using h
   ·simp only [wrapK_succ hi (by omega)]
    refine Ok.pure ⟨by simpa using h, _, _, _, _, _, _, rfl⟩
  ·rintro v ⟨z1, z2, z3, z4, z5, z6, rfl⟩
   dsimp only
   rw [geb (Nat.le_refl _), cond_false]
   exact Ok.pure rfl
  ·intro o ho
   cases o with
   | out v => exact Ok.pure (by rw [ho.1, ← ho.2])
   | ret r => rw [ho.1]; exact ho.2
structure OkN (F : List Go.Fw.S1.Func) (a : Node) : Prop where
 exprs : ∀ e, e ∈ a.f4 → OkX F e
 pats : ∀ p, p ∈ a.f14 → OkX F p.f0
 l1 : a.f1.length ≤ 2097152
 l4 : a.f4.length ≤ 2097152
 l8 : a.f8.length ≤ 2097152
 l9 : a.f9.length ≤ 2097152
 l13 : a.f13.length ≤ 2097152
 l14 : a.f14.length ≤ 2097152
 l15 : a.f15.length ≤ 2097152
def intsB (l k : List Int) : Bool := eqf (fun a b => a == b) l k
noncomputable def fieldsB (F G : List Go.Fw.S1.Func) (a b : Node) : Bool :=
 (bif (bif (bif (bif (bif ((a.f0 == b.f0) && ((a.f3 == b.f3) && ((a.f5 == b.f5) && ((a.f6 == b.f6) && ((a.f7 == b.f7) && ((a.f10 == b.f10) && ((a.f11 == b.f11) && ((a.f12 == b.f12) && true)))))))) then (a.f2.toList == b.f2.toList) else false) then (bif (bif intsB a.f8 b.f8 then intsB a.f9 b.f9 else false) then eqf (fun a b => alikeB F a G b) a.f4 b.f4 else false) else false) then eqf aggB a.f13 b.f13 else false) then eqf (patB F G) a.f14 b.f14 else false) then (bif ((a.f0 != (0 : Int))) then true else eqf colB a.f15 b.f15) else false)
theorem w50045_ok {F G : List Go.Fw.S1.Func} {N M : List Node} (hF : OkF F) (hG : OkF G) {a b : Node} (ha : OkN F a) (hb : OkN G b) (m : Memo) :
  W 50045 [.ptr 80 0 0, vN a, vN b, vPl F N G M 81, .mpv 80 4 m] = some (fieldsB F G a b, (m, ())) := by
 refine (w50045 a b F N G M m).trans ?_
 unfold t50045
 rw [E0_C]
 refine Ok.eq (Ok.bind ⟨_, w48_ok a.f8 b.f8 ha.l8, rfl⟩ ?_)
 rintro r rfl
 dsimp only
 refine Ok.bind (Q := fun r => (bif eqf (fun a b => a == b) a.f8 b.f8 then r.1 else false) = (bif intsB a.f8 b.f8 then intsB a.f9 b.f9 else false)) ?_ ?_
 ·cases h : eqf (fun a b => a == b) a.f8 b.f8 with
  | false => exact ⟨_, rfl, by unfold intsB; rw [h]; rfl⟩
  | true => exact ⟨_, w48_ok a.f9 b.f9 ha.l9, by unfold intsB; rw [h]⟩
 intro r2 h2
 rw [h2]
 generalize hlists : (bif intsB a.f8 b.f8 then intsB a.f9 b.f9 else false) = lists
 refine Ok.bind (Q := fun r => (bif lists then r.1 else false) = (bif lists then eqf (fun a b => alikeB F a G b) a.f4 b.f4 else false) ∧ (bif lists then r.2.1 else m) = m) ?_ ?_
 ·cases lists with
  | false => exact ⟨_, rfl, rfl, rfl⟩
  | true => exact ⟨_, w7650074_ok hF hG a.f4 b.f4 ha.l4 ha.exprs hb.exprs m, rfl, rfl⟩
 rintro ⟨b3, m3, u3⟩ ⟨h3, h3'⟩
 dsimp only at h3 h3' ⊢
 rw [h3]
 refine Ok.bind ⟨_, w7800076_ok a.f13 b.f13 ha.l13, rfl⟩ ?_
 rintro r rfl
 refine Ok.bind ⟨_, w8050078_ok hF hG a.f14 b.f14 ha.l14 ha.pats hb.pats (bif lists then m3 else m), rfl⟩ ?_
 rintro r rfl
 refine Ok.bind (Q := fun r => (bif (a.f0 != (0 : Int)) then true else r.1) = (bif (a.f0 != (0 : Int)) then true else eqf colB a.f15 b.f15)) ?_ ?_
 ·cases h : (a.f0 != (0 : Int)) with
  | true => exact ⟨_, rfl, rfl⟩
  | false => exact ⟨_, w8200080_ok a.f15 b.f15 ha.l15, rfl⟩
 intro r6 h6
 refine Ok.bind ⟨_, w73 a, rfl⟩ ?_
 rintro r rfl
 refine Ok.bind ⟨_, w73 b, rfl⟩ ?_
 rintro r rfl
 refine Ok.pure ?_
 unfold fieldsB
 rw [hlists]
 dsimp only
 rw [h6, h3']
end Go.Fw.S1
set_option linter.unusedVariables false
set_option maxHeartbeats 1000000
set_option maxRecDepth 100000
namespace Go.Fw.S1
open Go.Proofs
theorem eqTb80 (x y : Ty80) : eqTb tb 80 x y = ((x.f0 == y.f0) && ((x.f1 == y.f1) && true)) := rfl
theorem eqTb80_iff (x y : Ty80) : eqTb tb 80 x y = true ↔ x = y := by
 rw [eqTb80]
 cases x; cases y
 simp
noncomputable def find80 (m : Memo) (x : Ty80) : Option Bool := findT tb 80 4 m x
noncomputable def put80 (m : Memo) (x : Ty80) (b : Bool) : Memo := putT tb 80 4 m x b
instance (x y : Ty80) : Decidable (x = y) := if h : x.f0 = y.f0 ∧ x.f1 = y.f1 then isTrue (by cases x; cases y; simp_all) else isFalse (by rintro rfl; exact h ⟨rfl, rfl⟩)
theorem find_put (m : Memo) (x z : Ty80) (b : Bool) : find80 (put80 m x b) z = if z = x then some b else find80 m z := by
 induction m with
 | nil =>
  show (bif eqTb tb 80 z x then some b else none) = _
  by_cases h : z = x
  ·rw [if_pos h, (eqTb80_iff z x).2 h]; rfl
  ·rw [if_neg h, show eqTb tb 80 z x = false from by rw [← Bool.not_eq_true]; exact fun hh => h ((eqTb80_iff z x).1 hh)]; rfl
 | cons p m ih =>
  show find80 (bif eqTb tb 80 x p.1 then (x, b) :: m else p :: put80 m x b) z = _
  by_cases hp : x = p.1
  ·rw [(eqTb80_iff x p.1).2 hp]
   show (bif eqTb tb 80 z x then some b else find80 m z) = if z = x then some b else (bif eqTb tb 80 z p.1 then some p.2 else find80 m z)
   by_cases h : z = x
   ·rw [if_pos h, (eqTb80_iff z x).2 h]; rfl
   ·rw [if_neg h, show eqTb tb 80 z x = false from by rw [← Bool.not_eq_true]; exact fun hh => h ((eqTb80_iff z x).1 hh), show eqTb tb 80 z p.1 = false from by rw [← Bool.not_eq_true]; exact fun hh => h (((eqTb80_iff z p.1).1 hh).trans hp.symm)]
    rfl
  ·rw [show eqTb tb 80 x p.1 = false from by rw [← Bool.not_eq_true]; exact fun hh => hp ((eqTb80_iff x p.1).1 hh)]
   show (bif eqTb tb 80 z p.1 then some p.2 else find80 (put80 m x b) z) = if z = x then some b else (bif eqTb tb 80 z p.1 then some p.2 else find80 m z)
   rw [ih]
   by_cases h : z = x
   ·subst h
    rw [if_pos rfl, if_pos rfl, show eqTb tb 80 z p.1 = false from by rw [← Bool.not_eq_true]; exact fun hh => hp ((eqTb80_iff z p.1).1 hh)]
    rfl
   ·rw [if_neg h, if_neg h]
structure OkPl (F : List Go.Fw.S1.Func) (N : List Node) : Prop where
 funcs : OkF F
 len : N.length ≤ 2097152
 nodes : ∀ (i : Nat) (h : i < N.length), OkN F N[i] ∧ ∀ j, j ∈ N[i].f1 → 0 ≤ j ∧ j < (i : Int)
noncomputable def SB (F : List Go.Fw.S1.Func) (N : List Node) (G : List Go.Fw.S1.Func) (M : List Node) : Nat → Int → Int → Bool
 | 0, _, _ => false
 | n + 1, i, k => bif fieldsB F G (rd43 N i) (rd43 M k) then eqf (SB F N G M n) (rd43 N i).f1 (rd43 M k).f1 else false
noncomputable def sameB (F : List Go.Fw.S1.Func) (N : List Node) (G : List Go.Fw.S1.Func) (M : List Node) (i k : Int) : Bool := SB F N G M (i.toNat + 1) i k
theorem eqf_congr {α : Type} {f g : α → α → Bool} : ∀ {l k : List α}, (∀ a, a ∈ l → ∀ b, f a b = g a b) → eqf f l k = eqf g l k := by
 intro l
 induction l with
 | nil => intro k _; cases k <;> rfl
 | cons a l ih =>
  intro k h
  cases k with
  | nil => rfl
  | cons b k => simp only [eqf]; rw [h a (by simp), ih fun a ha => h a (by simp [ha])]
theorem SB_fuel {F : List Go.Fw.S1.Func} {N : List Node} {G : List Go.Fw.S1.Func} {M : List Node} (hN : OkPl F N) : ∀ (n i : Nat), i < N.length → i < n → ∀ k, SB F N G M n (i : Int) k = sameB F N G M (i : Int) k := by
 intro n i
 induction i using Nat.strongRecOn generalizing n with
 | _ i ih =>
  intro hi hn k
  cases n with
  | zero => omega
  | succ n =>
   unfold sameB
   rw [Int.toNat_natCast]
   simp only [SB]
   congr 1
   refine eqf_congr fun a ha b => ?_
   rw [rd43_get hi] at ha
   obtain ⟨h0, h1⟩ := (hN.nodes i hi).2 a ha
   have ha' : a = ((a.toNat : Nat) : Int) := by omega
   have hlt : a.toNat < i := by omega
   rw [ha', ih a.toNat hlt n (by omega) (by omega) b, ← ih a.toNat hlt i (by omega) hlt b]
theorem sameB_eq {F : List Go.Fw.S1.Func} {N : List Node} {G : List Go.Fw.S1.Func} {M : List Node} (hN : OkPl F N) {i : Nat} (hi : i < N.length) (k : Int) : sameB F N G M (i : Int) k = bif fieldsB F G (rd43 N (i : Int)) (rd43 M k) then eqf (sameB F N G M) (rd43 N (i : Int)).f1 (rd43 M k).f1 else false := by
 rw [← SB_fuel hN (i + 1) i hi (by omega) k]
 simp only [SB]
 congr 1
 refine eqf_congr fun a ha b => ?_
 rw [rd43_get hi] at ha
 obtain ⟨h0, h1⟩ := (hN.nodes i hi).2 a ha
 have ha' : a = ((a.toNat : Nat) : Int) := by omega
 rw [ha', SB_fuel hN i a.toNat (by omega) (by omega) b]
def Right (F : List Go.Fw.S1.Func) (N : List Node) (G : List Go.Fw.S1.Func) (M : List Node) (m : Memo) : Prop := ∀ i k b, find80 m ⟨i, k⟩ = some b → b = sameB F N G M i k
theorem Right.put {F : List Go.Fw.S1.Func} {N : List Node} {G : List Go.Fw.S1.Func} {M : List Node} {m : Memo} (h : Right F N G M m) (i k : Int) : Right F N G M (put80 m ⟨i, k⟩ (sameB F N G M i k)) := by
 intro i' k' b hb
 rw [find_put] at hb
 split at hb
 ·rename_i he; cases he; cases hb; rfl
 ·exact h i' k' b hb
def SameOk (F : List Go.Fw.S1.Func) (N : List Node) (G : List Go.Fw.S1.Func) (M : List Node) (i : Nat) : Prop :=
 ∀ (k : Nat) (m : Memo), k < M.length → Right F N G M m → Ok (W 50021 [.ptr 59 0 0, .int .i64 (i : Int), .int .i64 (k : Int), vPl F N G M 60, .mpv 80 4 m]) fun r => r.1 = sameB F N G M (i : Int) (k : Int) ∧ Right F N G M r.2.1
theorem w2250082_ok {F : List Go.Fw.S1.Func} {N : List Node} {G : List Go.Fw.S1.Func} {M : List Node} (l k : List Int) (hl : l.length ≤ 2097152) (hls : ∀ a, a ∈ l → ∃ i : Nat, a = (i : Int) ∧ SameOk F N G M i) (hks : ∀ a, a ∈ k → ∃ i : Nat, a = (i : Int) ∧ i < M.length) (m : Memo) (hm : Right F N G M m) :
  Ok (W 2250082 [.lst 3 l, .lst 3 k, .clo 21 [.ptr 32 0 0] [], vPl F N G M 33, .mpv 80 4 m]) fun r => r.1 = eqf (sameB F N G M) l k ∧ Right F N G M r.2.1 := by
 have hw := w2250082 l k F N G M m
 rw [hw]
 unfold t2250082
 rw [E0_C, E0_lp]
 refine (Ok.bif (fun h => ?_) (fun h => ?_))
 ·rw [eqf_ne h]; exact Ok.pure ⟨rfl, hm⟩
 ·have hlen := len_eq h
  refine Ok.after ((eqf_loop (sameB F N G M) l k hlen (fun i v => ∃ z1 z2 z3 z4 z5 z6, ∃ m : Memo, Right F N G M m ∧ v = ((l, k, (), (), z1, z2, z3, z4, z5, z6, l, (l.length : Int), (i : Int), ()), ((F, N, G, M, ()), m, ()))) (fun v => Right F N G M v.2.2.1) (fun r => r.1 = false ∧ Right F N G M r.2.1) ?_ ?_ _ ⟨_, _, _, _, _, _, m, hm, rfl⟩).mono ?_)
  ·rintro i v hi hi2 ⟨z1, z2, z3, z4, z5, z6, m, hm, rfl⟩
   dsimp only
   simp only [ltb hi, ltb hi2, nnb, Bool.and_true, cond_true, rd3_get hi, rd3_get hi2]
   obtain ⟨i1, e1, s1⟩ := hls _ (List.getElem_mem hi)
   obtain ⟨k1, e2, s2⟩ := hks _ (List.getElem_mem hi2)
   have hcall := s1 k1 m s2 hm
   rw [← e1, ← e2] at hcall
   refine Ok.bind hcall ?_
   rintro ⟨(b : Bool), (m' : Memo), u⟩ ⟨hb, hm'⟩
   dsimp only at hb hm' ⊢
   refine Ok.bif (fun h => ?_) (fun h => ?_)
   ·refine ⟨_, rfl, ?_, rfl, hm'⟩
    rw [← hb]
    cases b with
    | false => rfl
    | true => cases h
   ·simp only [wrapK_succ hi (by omega)]
    have hb1 : sameB F N G M l[i] k[i] = true := by
     rw [← hb]
     cases b with
     | true => rfl
     | false => cases h
    refine Ok.pure ⟨hb1, _, _, _, _, _, _, m', hm', rfl⟩
  ·rintro v ⟨z1, z2, z3, z4, z5, z6, m, hm, rfl⟩
   dsimp only
   rw [geb (Nat.le_refl _), cond_false]
   exact Ok.pure hm
  ·intro o ho
   cases o with
   | out v => exact Ok.pure ⟨ho.1.symm, ho.2⟩
   | ret r => exact ⟨by rw [ho.1]; exact ho.2.1, ho.2.2⟩
theorem w50021_ok {F : List Go.Fw.S1.Func} {N : List Node} {G : List Go.Fw.S1.Func} {M : List Node} (hN : OkPl F N) (hM : OkPl G M) : ∀ i : Nat, i < N.length → SameOk F N G M i := by
 intro i
 induction i using Nat.strongRecOn with
 | _ i ih =>
  intro hi k m hk hm
  have hw := w50021 (i : Int) (k : Int) F N G M m
  rw [hw]
  unfold t50021
  rw [E0_C]
  obtain ⟨hNi, hNin⟩ := hN.nodes i hi
  obtain ⟨hMk, hMin⟩ := hM.nodes k hk
  have hS := sameB_eq (G := G) (M := M) hN hi (k : Int)
  rw [rd43_get hi, rd43_get hk] at hS
  cases hf : find80 m ⟨(i : Int), (k : Int)⟩ with
  | some b =>
   have hf' : findT tb 80 4 m (Ty80.mk (i : Int) (k : Int)) = some b := hf
   rw [hf']
   exact Ok.pure ⟨hm _ _ _ hf, hm⟩
  | none =>
   have hf' : findT tb 80 4 m (Ty80.mk (i : Int) (k : Int)) = none := hf
   rw [hf']
   simp only [Option.isSome_none, Bool.not_false, cond_true, ltb hi, ltb hk, nnb, Bool.and_true, rd43_get hi, rd43_get hk]
   refine Ok.bind ⟨_, w50045_ok hN.funcs hM.funcs hNi hMk m, rfl⟩ ?_
   rintro r rfl
   dsimp only
   have fin : ∀ (m' : Memo) (b : Bool), Right F N G M m' → b = sameB F N G M (i : Int) (k : Int) → Right F N G M (putT tb 80 4 m' (Ty80.mk (i : Int) (k : Int)) b) := fun m' b h hb => by
    rw [hb]
    exact h.put _ _
   cases hfl : fieldsB F G N[i] M[k] with
   | false =>
    rw [hfl] at hS
    refine Ok.bind (Q := fun _ => True) ⟨_, rfl, trivial⟩ fun r _ => Ok.pure ⟨hS.symm, fin _ _ hm hS.symm⟩
   | true =>
    rw [hfl] at hS
    simp only [cond_true]
    have h31 : Ok (W 50046 [.ptr 14 0 0, vN N[i], vN M[k], vPl F N G M 15, .mpv 80 4 m]) fun r => r.1 = eqf (sameB F N G M) N[i].f1 M[k].f1 ∧ Right F N G M r.2.1 := by
     have hw := w50046 N[i] M[k] F N G M m
     rw [hw]
     unfold t50046
     rw [E0_C]
     refine Ok.bind (w2250082_ok N[i].f1 M[k].f1 hNi.l1 (fun a ha => ?_) (fun a ha => ?_) m hm) ?_
     ·obtain ⟨h0, h1⟩ := hNin a ha
      exact ⟨a.toNat, by omega, ih a.toNat (by omega) (by omega)⟩
     ·obtain ⟨h0, h1⟩ := hMin a ha
      exact ⟨a.toNat, by omega, by omega⟩
     ·intro r hr
      exact Ok.pure hr
    refine Ok.bind h31 ?_
    rintro ⟨(b : Bool), (m' : Memo), u⟩ ⟨hb, hm'⟩
    dsimp only at hb hm' ⊢
    have hb' : b = sameB F N G M (i : Int) (k : Int) := hb.trans hS.symm
    exact Ok.pure ⟨hb', fin m' b hm' hb'⟩
end Go.Fw.S1
set_option linter.unusedVariables false
set_option maxHeartbeats 1000000
set_option maxRecDepth 100000
namespace Go.Fw.S1
open Go.Proofs
def withinB (n f t : Int) : Bool := bif decide (f ≤ n) then (decide (n ≤ t)) else false
theorem w108_ok (n f t : Int) : W 108 [.int .i64 n, .int .i64 f, .int .i64 t] = some (withinB n f t, ()) := w108 n f t
def sizedB (a : Node) : Bool := withinB a.f6 1 10000
theorem w107_ok (a : Node) : W 107 [vN a] = some (sizedB a, ()) := by
 refine (w107 a).trans ?_
 unfold t107
 rw [E0_C]
 refine Ok.eq (Ok.bind ⟨_, w108_ok _ _ _, rfl⟩ ?_)
 rintro r rfl
 exact Ok.pure rfl
def windowB (a : Node) : Bool :=
 bif (a.f5 == (0 : Int)) then sizedB a else
 bif (a.f5 == (1 : Int)) then (bif (bif sizedB a then (decide ((0 : Int) < a.f7)) else false) then ((a.f6.tmod a.f7) == (0 : Int)) else false) else
 bif (a.f5 == (2 : Int)) then (bif sizedB a then withinB a.f7 1 a.f6 else false) else false
theorem and_call {f : Nat} {args : List (Val T)} {x y : Bool} {d : Bool × Unit} (h : ∀ (L : Option (Bool × Unit)), L = some (y, ()) → True) : True := trivial
theorem w104_ok (a : Node) : W 104 [vN a] = some (windowB a, ()) := by
 refine (w104 a).trans ?_
 unfold t104 windowB
 rw [E0_C]
 cases h0 : (a.f5 == (0 : Int)) with
 | true =>
  refine Ok.eq (Ok.bind ⟨_, w107_ok a, rfl⟩ ?_)
  rintro r rfl
  exact Ok.pure rfl
 | false =>
  simp only [cond_false]
  cases h1 : (a.f5 == (1 : Int)) with
  | true =>
   refine Ok.eq (Ok.bind ⟨_, w107_ok a, rfl⟩ ?_)
   rintro r rfl
   dsimp only
   have : impB (a.f7 != 0) (bif sizedB a then (decide ((0 : Int) < a.f7)) else false) = true := by
    cases hs : sizedB a with
    | false => cases (a.f7 != 0) <;> rfl
    | true =>
     by_cases hp : 0 < a.f7
     ·have : (a.f7 != 0) = true := by simp; omega
      rw [this]; rfl
     ·simp only [cond_true]
      rw [show decide ((0 : Int) < a.f7) = false from by simpa using hp]
      cases (a.f7 != 0) <;> rfl
   rw [this]
   exact Ok.pure rfl
  | false =>
   simp only [cond_false]
   cases h2 : (a.f5 == (2 : Int)) with
   | true =>
    simp only [cond_true]
    refine Ok.eq (Ok.bind ⟨_, w107_ok a, rfl⟩ ?_)
    rintro r rfl
    dsimp only
    cases hs : sizedB a with
    | false => exact Ok.bind (Q := fun _ => True) ⟨_, rfl, trivial⟩ fun r _ => Ok.pure rfl
    | true =>
     refine Ok.bind ⟨_, w108_ok _ _ _, rfl⟩ ?_
     rintro r rfl
     exact Ok.pure rfl
   | false => rfl
def topB (a : Node) : Bool := bif sizedB a then withinB a.f12 1 100 else false
theorem w106_ok (a : Node) : W 106 [vN a] = some (topB a, ()) := by
 refine (w106 a).trans ?_
 unfold t106 topB
 rw [E0_C]
 refine Ok.eq (Ok.bind ⟨_, w107_ok a, rfl⟩ ?_)
 rintro r rfl
 dsimp only
 cases hs : sizedB a with
 | false => exact Ok.bind (Q := fun _ => True) ⟨_, rfl, trivial⟩ fun r _ => Ok.pure rfl
 | true =>
  refine Ok.bind ⟨_, w108_ok _ _ _, rfl⟩ ?_
  rintro r rfl
  exact Ok.pure rfl
def joinB (a : Node) : Bool := bif withinB a.f10 0 10000 then withinB a.f11 0 10000 else false
theorem w109_ok (a : Node) : W 109 [vN a] = some (joinB a, ()) := by
 refine (w109 a).trans ?_
 unfold t109 joinB
 rw [E0_C]
 refine Ok.eq (Ok.bind ⟨_, w108_ok _ _ _, rfl⟩ ?_)
 rintro r rfl
 dsimp only
 cases hs : withinB a.f10 0 10000 with
 | false => exact Ok.bind (Q := fun _ => True) ⟨_, rfl, trivial⟩ fun r _ => Ok.pure rfl
 | true =>
  refine Ok.bind ⟨_, w108_ok _ _ _, rfl⟩ ?_
  rintro r rfl
  exact Ok.pure rfl
theorem w111_ok (a : Node) : W 111 [vN a] = some (withinB a.f12 1 10000, ()) := by
 refine (w111 a).trans ?_
 unfold t111
 rw [E0_C]
 refine Ok.eq (Ok.bind ⟨_, w108_ok _ _ _, rfl⟩ ?_)
 rintro r rfl
 exact Ok.pure rfl
def matchOpB (a : Node) : Bool := bif sizedB a then withinB (a.f14.length : Int) 1 8 else false
theorem w113_ok (a : Node) : W 113 [vN a] = some (matchOpB a, ()) := by
 refine (w113 a).trans ?_
 unfold t113 matchOpB
 rw [E0_C]
 refine Ok.eq (Ok.bind ⟨_, w107_ok a, rfl⟩ ?_)
 rintro r rfl
 dsimp only
 cases hs : sizedB a with
 | false => exact Ok.bind (Q := fun _ => True) ⟨_, rfl, trivial⟩ fun r _ => Ok.pure rfl
 | true =>
  refine Ok.bind ⟨_, w108_ok _ _ _, rfl⟩ ?_
  rintro r rfl
  exact Ok.pure rfl
def OpIn (a : Node) : Prop := 0 ≤ a.f0 ∧ a.f0 ≤ 8
def boundedB (a : Node) : Bool :=
 if a.f0 = 4 then windowB a else if a.f0 = 5 then topB a else if a.f0 = 6 then joinB a else if a.f0 = 7 then withinB a.f12 1 10000 else if a.f0 = 8 then matchOpB a else true
theorem w83_ok (a : Node) (h : OpIn a) : W 83 [vN a] = some (boundedB a, ()) := by
 refine (w83 a).trans ?_
 unfold t83
 rw [E0_C, w84]
 obtain ⟨h0, h8⟩ := h
 have hc : a.f0 = 0 ∨ a.f0 = 1 ∨ a.f0 = 2 ∨ a.f0 = 3 ∨ a.f0 = 4 ∨ a.f0 = 5 ∨ a.f0 = 6 ∨ a.f0 = 7 ∨ a.f0 = 8 := by omega
 rcases hc with h | h | h | h | h | h | h | h | h
 ·refine Ok.eq (Ok.bind ⟨_, show ofK a.f0 = some ((Kind.k0, true), ()) from (by rw [h]; rfl), rfl⟩ ?_)
  rintro r rfl
  refine Ok.bind ⟨_, w102 a, rfl⟩ ?_
  rintro r rfl
  rw [show boundedB a = true from (by unfold boundedB; rw [h]; rfl)]
  exact Ok.pure rfl
 ·refine Ok.eq (Ok.bind ⟨_, show ofK a.f0 = some ((Kind.k1, true), ()) from (by rw [h]; rfl), rfl⟩ ?_)
  rintro r rfl
  refine Ok.bind ⟨_, w102 a, rfl⟩ ?_
  rintro r rfl
  rw [show boundedB a = true from (by unfold boundedB; rw [h]; rfl)]
  exact Ok.pure rfl
 ·refine Ok.eq (Ok.bind ⟨_, show ofK a.f0 = some ((Kind.k1, true), ()) from (by rw [h]; rfl), rfl⟩ ?_)
  rintro r rfl
  refine Ok.bind ⟨_, w102 a, rfl⟩ ?_
  rintro r rfl
  rw [show boundedB a = true from (by unfold boundedB; rw [h]; rfl)]
  exact Ok.pure rfl
 ·refine Ok.eq (Ok.bind ⟨_, show ofK a.f0 = some ((Kind.k2, true), ()) from (by rw [h]; rfl), rfl⟩ ?_)
  rintro r rfl
  refine Ok.bind ⟨_, w102 a, rfl⟩ ?_
  rintro r rfl
  rw [show boundedB a = true from (by unfold boundedB; rw [h]; rfl)]
  exact Ok.pure rfl
 ·refine Ok.eq (Ok.bind ⟨_, show ofK a.f0 = some ((Kind.k3, true), ()) from (by rw [h]; rfl), rfl⟩ ?_)
  rintro r rfl
  refine Ok.bind ⟨_, w104_ok a, rfl⟩ ?_
  rintro r rfl
  rw [show boundedB a = windowB a from (by unfold boundedB; rw [h]; rfl)]
  exact Ok.pure rfl
 ·refine Ok.eq (Ok.bind ⟨_, show ofK a.f0 = some ((Kind.k4, true), ()) from (by rw [h]; rfl), rfl⟩ ?_)
  rintro r rfl
  refine Ok.bind ⟨_, w106_ok a, rfl⟩ ?_
  rintro r rfl
  rw [show boundedB a = topB a from (by unfold boundedB; rw [h]; rfl)]
  exact Ok.pure rfl
 ·refine Ok.eq (Ok.bind ⟨_, show ofK a.f0 = some ((Kind.k5, true), ()) from (by rw [h]; rfl), rfl⟩ ?_)
  rintro r rfl
  refine Ok.bind ⟨_, w109_ok a, rfl⟩ ?_
  rintro r rfl
  rw [show boundedB a = joinB a from (by unfold boundedB; rw [h]; rfl)]
  exact Ok.pure rfl
 ·refine Ok.eq (Ok.bind ⟨_, show ofK a.f0 = some ((Kind.k6, true), ()) from (by rw [h]; rfl), rfl⟩ ?_)
  rintro r rfl
  refine Ok.bind ⟨_, w111_ok a, rfl⟩ ?_
  rintro r rfl
  rw [show boundedB a = withinB a.f12 1 10000 from (by unfold boundedB; rw [h]; rfl)]
  exact Ok.pure rfl
 ·refine Ok.eq (Ok.bind ⟨_, show ofK a.f0 = some ((Kind.k7, true), ()) from (by rw [h]; rfl), rfl⟩ ?_)
  rintro r rfl
  refine Ok.bind ⟨_, w113_ok a, rfl⟩ ?_
  rintro r rfl
  rw [show boundedB a = matchOpB a from (by unfold boundedB; rw [h]; rfl)]
  exact Ok.pure rfl
def blockB (a : Node) : Int × Int := bif (bif ((a.f0 == (4 : Int))) then ((a.f5 == (2 : Int))) else false) then ((wrapK .i64 (a.f6 - (1 : Int))), (wrapK .i64 (a.f7 - (1 : Int)))) else ((wrapK .i64 (a.f6 - (1 : Int))), (wrapK .i64 (a.f6 - (1 : Int))))
theorem w105_ok (a : Node) : W 105 [vN a] = some (blockB a, ()) := by
 refine (w105 a).trans ?_
 unfold t105 blockB
 cases (bif ((a.f0 == (4 : Int))) then ((a.f5 == (2 : Int))) else false) <;> rfl
def ownB (a : Node) : Int × Int := bif !boundedB a then (0, 0) else
 if a.f0 = 4 then blockB a else if a.f0 = 5 then blockB a else if a.f0 = 6 then ((bif decide (a.f10 < a.f11) then a.f11 else a.f10), 0) else if a.f0 = 7 then (wrapK .i64 (a.f12 - 1), 0) else if a.f0 = 8 then (wrapK .i64 (a.f6 - 1), 0) else (0, 0)
theorem w47_ok (a : Node) (h : OpIn a) : W 47 [vN a] = some (ownB a, ()) := by
 refine (w47 a).trans ?_
 unfold t47
 rw [E0_C, w84]
 refine Ok.eq (Ok.bind ⟨_, w83_ok a h, rfl⟩ ?_)
 rintro r rfl
 obtain ⟨h0, h8⟩ := h
 have hc : a.f0 = 0 ∨ a.f0 = 1 ∨ a.f0 = 2 ∨ a.f0 = 3 ∨ a.f0 = 4 ∨ a.f0 = 5 ∨ a.f0 = 6 ∨ a.f0 = 7 ∨ a.f0 = 8 := by omega
 cases hb : boundedB a with
 | false =>
  rw [show ownB a = (0, 0) from (by unfold ownB; rw [hb]; rfl)]
  exact Ok.pure rfl
 | true =>
  simp only [Bool.not_true, cond_false]
  rcases hc with h | h | h | h | h | h | h | h | h
  ·refine (Ok.bind ⟨_, show ofK a.f0 = some ((Kind.k0, true), ()) from (by rw [h]; rfl), rfl⟩ ?_)
   rintro r rfl
   refine Ok.bind ⟨_, w103 a, rfl⟩ ?_
   rintro r rfl
   rw [show ownB a = (0, 0) from (by unfold ownB; rw [hb, h]; rfl)]
   exact Ok.pure rfl
  ·refine (Ok.bind ⟨_, show ofK a.f0 = some ((Kind.k1, true), ()) from (by rw [h]; rfl), rfl⟩ ?_)
   rintro r rfl
   refine Ok.bind ⟨_, w103 a, rfl⟩ ?_
   rintro r rfl
   rw [show ownB a = (0, 0) from (by unfold ownB; rw [hb, h]; rfl)]
   exact Ok.pure rfl
  ·refine (Ok.bind ⟨_, show ofK a.f0 = some ((Kind.k1, true), ()) from (by rw [h]; rfl), rfl⟩ ?_)
   rintro r rfl
   refine Ok.bind ⟨_, w103 a, rfl⟩ ?_
   rintro r rfl
   rw [show ownB a = (0, 0) from (by unfold ownB; rw [hb, h]; rfl)]
   exact Ok.pure rfl
  ·refine (Ok.bind ⟨_, show ofK a.f0 = some ((Kind.k2, true), ()) from (by rw [h]; rfl), rfl⟩ ?_)
   rintro r rfl
   refine Ok.bind ⟨_, w103 a, rfl⟩ ?_
   rintro r rfl
   rw [show ownB a = (0, 0) from (by unfold ownB; rw [hb, h]; rfl)]
   exact Ok.pure rfl
  ·refine (Ok.bind ⟨_, show ofK a.f0 = some ((Kind.k3, true), ()) from (by rw [h]; rfl), rfl⟩ ?_)
   rintro r rfl
   refine Ok.bind ⟨_, w105_ok a, rfl⟩ ?_
   rintro r rfl
   rw [show ownB a = blockB a from (by unfold ownB; rw [hb, h]; rfl)]
   exact Ok.pure rfl
  ·refine (Ok.bind ⟨_, show ofK a.f0 = some ((Kind.k4, true), ()) from (by rw [h]; rfl), rfl⟩ ?_)
   rintro r rfl
   refine Ok.bind ⟨_, w105_ok a, rfl⟩ ?_
   rintro r rfl
   rw [show ownB a = blockB a from (by unfold ownB; rw [hb, h]; rfl)]
   exact Ok.pure rfl
  ·refine (Ok.bind ⟨_, show ofK a.f0 = some ((Kind.k5, true), ()) from (by rw [h]; rfl), rfl⟩ ?_)
   rintro r rfl
   refine Ok.bind ⟨_, w110 a, rfl⟩ ?_
   rintro r rfl
   rw [show ownB a = ((bif decide (a.f10 < a.f11) then a.f11 else a.f10), 0) from (by unfold ownB; rw [hb, h]; rfl)]
   exact Ok.pure rfl
  ·refine (Ok.bind ⟨_, show ofK a.f0 = some ((Kind.k6, true), ()) from (by rw [h]; rfl), rfl⟩ ?_)
   rintro r rfl
   refine Ok.bind ⟨_, w112 a, rfl⟩ ?_
   rintro r rfl
   rw [show ownB a = (wrapK .i64 (a.f12 - 1), 0) from (by unfold ownB; rw [hb, h]; rfl)]
   exact Ok.pure rfl
  ·refine (Ok.bind ⟨_, show ofK a.f0 = some ((Kind.k7, true), ()) from (by rw [h]; rfl), rfl⟩ ?_)
   rintro r rfl
   refine Ok.bind ⟨_, w114 a, rfl⟩ ?_
   rintro r rfl
   rw [show ownB a = (wrapK .i64 (a.f6 - 1), 0) from (by unfold ownB; rw [hb, h]; rfl)]
   exact Ok.pure rfl
def operB (a : Node) : Bool := bif decide ((4 : Int) ≤ a.f0) then (decide (a.f0 ≤ (8 : Int))) else false
noncomputable def stateN (f : Int → Int → Bool) (a b : Node) : Bool :=
 bif (bif (bif (bif (bif operB a then (a.f0 == b.f0) else false) then intsB a.f8 b.f8 else false) then intsB a.f9 b.f9 else false) then ((ownB a).1 == (ownB b).1) else false) then eqf f a.f1 b.f1 else false
noncomputable def stateB (F : List Go.Fw.S1.Func) (N : List Node) (G : List Go.Fw.S1.Func) (M : List Node) (i k : Int) : Bool := stateN (sameB F N G M) (rd43 N i) (rd43 M k)
theorem w50046_ok {F : List Go.Fw.S1.Func} {N : List Node} {G : List Go.Fw.S1.Func} {M : List Node} (hN : OkPl F N) (hM : OkPl G M) {i k : Nat} (hi : i < N.length) (hk : k < M.length) (m : Memo) (hm : Right F N G M m) :
  Ok (W 50046 [.ptr 14 0 0, vN N[i], vN M[k], vPl F N G M 15, .mpv 80 4 m]) fun r => r.1 = eqf (sameB F N G M) N[i].f1 M[k].f1 ∧ Right F N G M r.2.1 := by
 obtain ⟨hNi, hNin⟩ := hN.nodes i hi
 obtain ⟨hMk, hMin⟩ := hM.nodes k hk
 have hw := w50046 N[i] M[k] F N G M m
 rw [hw]
 unfold t50046
 rw [E0_C]
 refine Ok.bind (w2250082_ok N[i].f1 M[k].f1 hNi.l1 (fun a ha => ?_) (fun a ha => ?_) m hm) ?_
 ·obtain ⟨h0, h1⟩ := hNin a ha
  exact ⟨a.toNat, by omega, w50021_ok hN hM a.toNat (by omega)⟩
 ·obtain ⟨h0, h1⟩ := hMin a ha
  exact ⟨a.toNat, by omega, by omega⟩
 ·intro r hr
  exact Ok.pure hr
theorem w50022_ok {F : List Go.Fw.S1.Func} {N : List Node} {G : List Go.Fw.S1.Func} {M : List Node} (hN : OkPl F N) (hM : OkPl G M) {i k : Nat} (hi : i < N.length) (hk : k < M.length) (oi : OpIn N[i]) (ok : OpIn M[k]) (m : Memo) (hm : Right F N G M m) :
  Ok (W 50022 [.ptr 73 0 0, .int .i64 (i : Int), .int .i64 (k : Int), vPl F N G M 74, .mpv 80 4 m]) fun r => r.1 = stateB F N G M (i : Int) (k : Int) ∧ Right F N G M r.2.1 := by
 have hw := w50022 (i : Int) (k : Int) F N G M m
 rw [hw]
 unfold t50022 stateB stateN
 rw [E0_C]
 obtain ⟨hNi, hNin⟩ := hN.nodes i hi
 obtain ⟨hMk, hMin⟩ := hM.nodes k hk
 simp only [ltb hi, ltb hk, nnb, Bool.and_true, cond_true, rd43_get hi, rd43_get hk]
 refine Ok.bind ⟨_, w47_ok _ oi, rfl⟩ ?_
 rintro r rfl
 refine Ok.bind ⟨_, w47_ok _ ok, rfl⟩ ?_
 rintro r rfl
 refine Ok.bind ⟨_, (w27 N[i]).trans (show t27 E0 N[i] = some (operB N[i], ()) from rfl), rfl⟩ ?_
 rintro r rfl
 dsimp only
 generalize h1 : (bif operB N[i] then (N[i].f0 == M[k].f0) else false) = c1
 refine Ok.bind (Q := fun r => (bif c1 then r.1 else false) = (bif c1 then intsB N[i].f8 M[k].f8 else false)) ?_ ?_
 ·cases c1 with
  | false => exact ⟨_, rfl, rfl⟩
  | true => exact ⟨_, w48_ok _ _ hNi.l8, rfl⟩
 rintro ⟨(b : Bool), u⟩ hb
 dsimp only at hb ⊢
 rw [hb]
 generalize h2 : (bif c1 then intsB N[i].f8 M[k].f8 else false) = c2
 refine Ok.bind (Q := fun r => (bif c2 then r.1 else false) = (bif c2 then intsB N[i].f9 M[k].f9 else false)) ?_ ?_
 ·cases c2 with
  | false => exact ⟨_, rfl, rfl⟩
  | true => exact ⟨_, w48_ok _ _ hNi.l9, rfl⟩
 rintro ⟨(b' : Bool), u'⟩ hb'
 dsimp only at hb' ⊢
 rw [hb']
 generalize h3 : (bif (bif c2 then intsB N[i].f9 M[k].f9 else false) then ((ownB N[i]).1 == (ownB M[k]).1) else false) = c3
 cases c3 with
 | false =>
  exact Ok.bind (Q := fun _ => True) ⟨_, rfl, trivial⟩ fun r _ => Ok.pure ⟨rfl, hm⟩
 | true =>
  refine Ok.bind (w50046_ok hN hM hi hk m hm) ?_
  rintro ⟨(b3 : Bool), (m' : Memo), u3⟩ ⟨q1, q2⟩
  exact Ok.pure ⟨q1, q2⟩
def leastN (f : Int → Bool) (n : Nat) : Int := match (List.range n).find? (fun i : Nat => f (i : Int)) with
 | some i => (i : Int)
 | none => -1
theorem leastN_some {f : Int → Bool} {n i : Nat} (hi : i < n) (hf : f (i : Int) = true) (hb : ∀ j, j < i → f (j : Int) = false) : leastN f n = (i : Int) := by
 unfold leastN
 have : (List.range n).find? (fun i : Nat => f (i : Int)) = some i := by
  rw [List.find?_range_eq_some]
  exact ⟨hf, by simpa using hi, fun j hj => by rw [hb j hj]; rfl⟩
 rw [this]
theorem leastN_none {f : Int → Bool} {n : Nat} (hb : ∀ j, j < n → f (j : Int) = false) : leastN f n = -1 := by
 unfold leastN
 have : (List.range n).find? (fun i : Nat => f (i : Int)) = none := by
  rw [List.find?_eq_none]
  intro j hj
  rw [hb j (by simpa using hj)]
  simp
 rw [this]
theorem w2250020_ok {F : List Go.Fw.S1.Func} {N : List Node} {G : List Go.Fw.S1.Func} {M : List Node} (hN : OkPl F N) (hM : OkPl G M) {k : Nat} (hk : k < M.length) (m : Memo) (hm : Right F N G M m) :
  Ok (W 2250020 [.ptr 23 0 0, .clo 21 [.ptr 23 0 0] [], .int .i64 (k : Int), vPl F N G M 24, .mpv 80 4 m]) fun r => r.1 = leastN (fun i => sameB F N G M i (k : Int)) N.length ∧ Right F N G M r.2.1 := by
 have hw := w2250020 (k : Int) F N G M m
 rw [hw]
 unfold t2250020
 rw [E0_C, E0_lp]
 have hl := hN.len
 refine Ok.after (Ok.range N.length (fun i v => ∃ z1, ∃ m : Memo, Right F N G M m ∧ (∀ j, j < i → sameB F N G M (j : Int) (k : Int) = false) ∧ v = (((), (), (k : Int), z1, N, (N.length : Int), (i : Int), ()), ((F, N, G, M, ()), m, ()))) ?_ ?_ _ ⟨_, m, hm, fun j hj => by omega, rfl⟩)
 ·rintro i v hi ⟨z1, m, hm, hj, rfl⟩
  dsimp only
  simp only [ltb hi, cond_true]
  refine Ok.bind (w50021_ok hN hM i hi k m hk hm) ?_
  rintro ⟨(b : Bool), (m' : Memo), u⟩ ⟨hb, hm'⟩
  dsimp only at hb hm' ⊢
  cases b with
  | true =>
   refine ⟨_, rfl, ?_, hm'⟩
   exact (leastN_some (f := fun i => sameB F N G M i (k : Int)) hi hb.symm hj).symm
  | false =>
   simp only [cond_false, wrapK_succ hi (by omega)]
   refine Ok.pure ⟨_, m', hm', fun j hjj => ?_, rfl⟩
   rcases Nat.lt_or_ge j i with h | h
   ·exact hj j h
   ·have : j = i := by omega
    subst this
    exact hb.symm
 ·rintro v ⟨z1, m, hm, hj, rfl⟩
  dsimp only
  rw [geb (Nat.le_refl _), cond_false]
  refine Ok.pure ?_
  exact Ok.pure ⟨(leastN_none (f := fun i => sameB F N G M i (k : Int)) hj).symm, hm⟩
theorem w2350020_ok {F : List Go.Fw.S1.Func} {N : List Node} {G : List Go.Fw.S1.Func} {M : List Node} (hN : OkPl F N) (hM : OkPl G M) (oN : ∀ (i : Nat) (h : i < N.length), OpIn N[i]) {k : Nat} (hk : k < M.length) (ok : OpIn M[k]) (m : Memo) (hm : Right F N G M m) :
  Ok (W 2350020 [.ptr 23 0 0, .clo 22 [.ptr 23 0 0] [], .int .i64 (k : Int), vPl F N G M 24, .mpv 80 4 m]) fun r => r.1 = leastN (fun i => stateB F N G M i (k : Int)) N.length ∧ Right F N G M r.2.1 := by
 have hw := w2350020 (k : Int) F N G M m
 rw [hw]
 unfold t2350020
 rw [E0_C, E0_lp]
 have hl := hN.len
 refine Ok.after (Ok.range N.length (fun i v => ∃ z1, ∃ m : Memo, Right F N G M m ∧ (∀ j, j < i → stateB F N G M (j : Int) (k : Int) = false) ∧ v = (((), (), (k : Int), z1, N, (N.length : Int), (i : Int), ()), ((F, N, G, M, ()), m, ()))) ?_ ?_ _ ⟨_, m, hm, fun j hj => by omega, rfl⟩)
 ·rintro i v hi ⟨z1, m, hm, hj, rfl⟩
  dsimp only
  simp only [ltb hi, cond_true]
  refine Ok.bind (w50022_ok hN hM hi hk (oN i hi) ok m hm) ?_
  rintro ⟨(b : Bool), (m' : Memo), u⟩ ⟨hb, hm'⟩
  dsimp only at hb hm' ⊢
  cases b with
  | true =>
   refine ⟨_, rfl, ?_, hm'⟩
   exact (leastN_some (f := fun i => stateB F N G M i (k : Int)) hi hb.symm hj).symm
  | false =>
   simp only [cond_false, wrapK_succ hi (by omega)]
   refine Ok.pure ⟨_, m', hm', fun j hjj => ?_, rfl⟩
   rcases Nat.lt_or_ge j i with h | h
   ·exact hj j h
   ·have : j = i := by omega
    subst this
    exact hb.symm
 ·rintro v ⟨z1, m, hm, hj, rfl⟩
  dsimp only
  rw [geb (Nat.le_refl _), cond_false]
  refine Ok.pure ?_
  exact Ok.pure ⟨(leastN_none (f := fun i => stateB F N G M i (k : Int)) hj).symm, hm⟩
noncomputable def matchB (F : List Go.Fw.S1.Func) (N : List Node) (G : List Go.Fw.S1.Func) (M : List Node) (k : Nat) : Match :=
 if leastN (fun i => sameB F N G M i (k : Int)) N.length < 0 then
  (if leastN (fun i => stateB F N G M i (k : Int)) N.length < 0 then ⟨leastN (fun i => stateB F N G M i (k : Int)) N.length, (k : Int), 2⟩ else ⟨leastN (fun i => stateB F N G M i (k : Int)) N.length, (k : Int), 1⟩)
 else ⟨leastN (fun i => sameB F N G M i (k : Int)) N.length, (k : Int), 0⟩
theorem range_succ_map {α : Type} (f : Nat → α) (i : Nat) : (List.range (i + 1)).map f = (List.range i).map f ++ [f i] := by
 rw [List.range_succ, List.map_append]; rfl
theorem w6_ok {F : List Go.Fw.S1.Func} {N : List Node} {G : List Go.Fw.S1.Func} {M : List Node} (hN : OkPl F N) (hM : OkPl G M) (oN : ∀ (i : Nat) (h : i < N.length), OpIn N[i]) (oM : ∀ (i : Nat) (h : i < M.length), OpIn M[i]) :
  W 6 [.agg [.lst 100 F, .lst 43 N], .agg [.lst 100 G, .lst 43 M]] = some ((List.range M.length).map (matchB F N G M), ()) := by
 refine (w6 ⟨F, N⟩ ⟨G, M⟩).trans ?_
 unfold t6
 rw [E0_C, E0_lp]
 have hl := hM.len
 refine Ok.eq (Ok.after (Ok.range M.length (fun i v => ∃ z, ∃ m : Memo, Right F N G M m ∧ v = ((M, (M.length : Int), (i : Int), ()), ((F, N, ()), (G, M, ()), z, (List.range i).map (matchB F N G M), m, (F, N, G, M, ()), ()))) ?_ ?_ _ ⟨_, _, ?_, rfl⟩))
 ·rintro i v hi ⟨z, m, hm, rfl⟩
  dsimp only
  simp only [ltb hi, cond_true]
  refine Ok.bind (w2250020_ok hN hM hi m hm) ?_
  rintro ⟨(b : Int), (m' : Memo), u⟩ ⟨hb, hm'⟩
  dsimp only at hb hm' ⊢
  have hroom : ∀ x : Match, decide ((((List.range i).map (matchB F N G M)).length + ([x] : List Match).length) * 24 ≤ maxRoom) = true := fun x => room (by simp only [List.length_map, List.length_range, List.length_singleton]; omega)
  cases hneg : decide (b < 0) with
  | true =>
   simp only [cond_true]
   have hneg' : b < 0 := by simpa using hneg
   refine Ok.bind (w2350020_ok hN hM oN hi (oM i hi) m' hm') ?_
   rintro ⟨(b2 : Int), (m2 : Memo), u2⟩ ⟨hb2, hm2⟩
   dsimp only at hb2 hm2 ⊢
   cases hneg2 : decide (b2 < 0) with
   | true =>
    have hneg2' : b2 < 0 := by simpa using hneg2
    have hx : matchB F N G M i = ⟨b2, (i : Int), 2⟩ := by unfold matchB; rw [← hb, ← hb2, if_pos hneg', if_pos hneg2']
    simp only [cond_true]
    rw [hroom, cond_true]
    simp only [wrapK_succ hi (by omega)]
    rw [← hx, ← range_succ_map]
    exact Ok.pure ⟨_, m2, hm2, rfl⟩
   | false =>
    have hneg2' : ¬ b2 < 0 := by simpa using hneg2
    have hx : matchB F N G M i = ⟨b2, (i : Int), 1⟩ := by unfold matchB; rw [← hb, ← hb2, if_pos hneg', if_neg hneg2']
    simp only [cond_false]
    rw [hroom, cond_true]
    simp only [wrapK_succ hi (by omega)]
    rw [← hx, ← range_succ_map]
    exact Ok.pure ⟨_, m2, hm2, rfl⟩
  | false =>
   have hneg' : ¬ b < 0 := by simpa using hneg
   have hx : matchB F N G M i = ⟨b, (i : Int), 0⟩ := by unfold matchB; rw [← hb, if_neg hneg']
   simp only [cond_false]
   rw [hroom, cond_true]
   simp only [wrapK_succ hi (by omega)]
   rw [← hx, ← range_succ_map]
   exact Ok.pure ⟨_, m', hm', rfl⟩
 ·rintro v ⟨z, m, hm, rfl⟩
  dsimp only
  rw [geb (Nat.le_refl _), cond_false]
  refine Ok.pure ?_
  exact Ok.pure rfl
 ·intro i k b h
  cases h
end Go.Fw.S1
set_option linter.unusedVariables false
set_option maxHeartbeats 1000000
set_option maxRecDepth 100000
namespace Go.Fw.S1
open Go.Proofs
def matchEq (a b : Match) : Bool := ((a.f0 == b.f0) && ((a.f1 == b.f1) && ((a.f2 == b.f2) && true)))
theorem matchEq_refl (a : Match) : matchEq a a = true := by simp [matchEq]
theorem w7_ok (l k : List Match) (hl : l.length ≤ 2097152) : W 7 [.lst 52 l, .lst 52 k] = some (eqf matchEq l k, ()) := by
 refine (w7 l k).trans ?_
 unfold t7
 rw [E0_lp]
 refine Ok.eq (Ok.bif (fun h => ?_) (fun h => ?_))
 ·rw [eqf_ne h]; exact Ok.pure rfl
 ·have hlen := len_eq h
  refine Ok.after ((eqf_loop matchEq l k hlen (fun i v => ∃ z1, v = ((l, k, z1, (i : Int), ()), ())) (fun _ => True) (fun r => r = (false, ())) ?_ ?_ _ ⟨_, rfl⟩).mono ?_)
  ·rintro i v hi hi2 ⟨z1, rfl⟩
   dsimp only
   simp only [ltb hi, ltb hi2, nnb, Bool.and_true, cond_true, rd52_get hi, rd52_get hi2]
   cases hm : matchEq l[i] k[i] with
   | true =>
    have hm' := hm
    unfold matchEq at hm'
    simp only [Bool.and_true] at hm'
    rw [hm']
    simp only [Bool.not_true, cond_false, wrapK_succ hi (by omega)]
    exact Ok.pure ⟨trivial, _, rfl⟩
   | false =>
    have hm' := hm
    unfold matchEq at hm'
    simp only [Bool.and_true] at hm'
    rw [hm']
    exact ⟨_, rfl, rfl, rfl⟩
  ·rintro v ⟨z1, rfl⟩
   dsimp only
   rw [geb (Nat.le_refl _), cond_false]
   exact Ok.pure trivial
  ·intro o ho
   cases o with
   | out v => exact Ok.pure (by rw [ho.1])
   | ret r => rw [ho.1]; exact ho.2
theorem eqf_refl {α : Type} {f : α → α → Bool} (h : ∀ a, f a a = true) : ∀ l : List α, eqf f l l = true := by
 intro l
 induction l with
 | nil => rfl
 | cons a l ih => simp only [eqf, h a, ih, Bool.and_self]
def keepB (k : Int) (x : Match) : Bool := bif (x.f1 == k) then (x.f2 != (2 : Int)) else false
theorem w2750053_ok (l : List Match) (hl : l.length ≤ 2097152) (k : Int) : Ok (W 2750053 [.lst 52 l, .clo 26 [] [.ptr 19 0 0], .agg [.int .i64 k]]) (fun (r : Int × Unit) => decide ((0 : Int) ≤ r.1) = l.any (keepB k)) := by
 rw [w2750053 l k]
 unfold t2750053
 rw [E0_C, E0_lp]
 refine Ok.after (Ok.range l.length (fun i v => ∃ z1, (∀ j (h : j < l.length), j < i → keepB k l[j] = false) ∧ v = ((l, (), (), z1, l, (l.length : Int), (i : Int), ()), ((k, ()), ()))) ?_ ?_ _ ⟨_, fun j _ hj => by omega, rfl⟩)
 ·rintro i v hi ⟨z1, hj, rfl⟩
  dsimp only
  simp only [ltb hi, nnb, Bool.and_true, cond_true, rd52_get hi]
  refine Ok.bind ⟨_, (w50026 l[i] k).trans (show t50026 E0 l[i] k = some (keepB k l[i], ()) from rfl), rfl⟩ ?_
  rintro r rfl
  dsimp only
  cases hk : keepB k l[i] with
  | true =>
   refine ⟨_, rfl, ?_⟩
   show decide ((0 : Int) ≤ (i : Int)) = l.any (keepB k)
   rw [nnb i]
   symm
   rw [List.any_eq_true]
   exact ⟨l[i], List.getElem_mem hi, hk⟩
  | false =>
   simp only [cond_false, wrapK_succ hi (by omega)]
   refine Ok.pure ⟨_, fun j h hji => ?_, rfl⟩
   rcases Nat.lt_or_ge j i with h' | h'
   ·exact hj j h h'
   ·have : j = i := by omega
    subst this
    exact hk
 ·rintro v ⟨z1, hj, rfl⟩
  dsimp only
  rw [geb (Nat.le_refl _), cond_false]
  refine Ok.pure ?_
  refine Ok.pure ?_
  show decide ((0 : Int) ≤ (-1 : Int)) = l.any (keepB k)
  rw [show decide ((0 : Int) ≤ (-1 : Int)) = false from by simp]
  symm
  rw [List.any_eq_false]
  intro x hx
  obtain ⟨j, hj', rfl⟩ := List.getElem_of_mem hx
  rw [hj j hj' hj']
  simp
theorem w11_ok (F : List Go.Fw.S1.Func) (N : List Node) (hN : N.length ≤ 2097152) (l : List Match) (hl : l.length ≤ 2097152) :
  Ok (W 11 [.agg [.lst 100 F, .lst 43 N], .lst 52 l]) fun r => (∀ k : Nat, k < N.length → l.any (keepB (k : Int)) = true) → r = ([], ()) := by
 have hw := w11 ⟨F, N⟩ l
 rw [hw]
 unfold t11
 rw [E0_C, E0_lp]
 refine Ok.after (Ok.range N.length (fun i v => ∃ z1, ∃ out : List Int, out.length ≤ i ∧ ((∀ k : Nat, k < N.length → l.any (keepB (k : Int)) = true) → out = []) ∧ v = ((l, N, (N.length : Int), (i : Int), ()), ((F, N, ()), z1, out, ()))) ?_ ?_ _ ⟨_, [], Nat.le_refl _, fun _ => rfl, rfl⟩)
 ·rintro i v hi ⟨z1, out, ho, hout, rfl⟩
  dsimp only
  simp only [ltb hi, nnb, Bool.and_true, cond_true, rd43_get hi]
  have h21 : Ok (W 2750025 [.lst 52 l, .clo 26 [] [.ptr 9 0 0], .agg [.int .i64 (i : Int)]]) fun r => r.1 = l.any (keepB (i : Int)) := by
   rw [w2750025 l (i : Int)]
   unfold t2750025
   rw [E0_C]
   refine Ok.bind (w2750053_ok l hl (i : Int)) ?_
   intro r hr
   exact Ok.pure hr
  refine Ok.bind h21 ?_
  rintro ⟨(b : Bool), u⟩ hb
  dsimp only at hb ⊢
  refine Ok.bind ⟨_, (w27 N[i]).trans (show t27 E0 N[i] = some (operB N[i], ()) from rfl), rfl⟩ ?_
  rintro r rfl
  dsimp only
  refine Ok.bif (fun h => ?_) (fun h => ?_)
  ·rw [room (by simp only [List.length_singleton]; omega), cond_true]
   simp only [wrapK_succ hi (by omega)]
   refine Ok.pure ⟨_, _, by simp; omega, fun hk => ?_, rfl⟩
   rw [hk i hi] at hb
   rw [hb] at h
   cases ho : operB N[i] <;> rw [ho] at h <;> cases h
  ·simp only [wrapK_succ hi (by omega)]
   exact Ok.pure ⟨_, out, by omega, hout, rfl⟩
 ·rintro v ⟨z1, out, ho, hout, rfl⟩
  dsimp only
  rw [geb (Nat.le_refl _), cond_false]
  refine Ok.pure ?_
  refine Ok.pure fun hk => ?_
  rw [hout hk]
  rfl
theorem leastN_spec (f : Int → Bool) (n : Nat) : leastN f n = -1 ∨ ∃ i : Nat, i < n ∧ leastN f n = (i : Int) ∧ f (i : Int) = true := by
 unfold leastN
 cases h : (List.range n).find? (fun i : Nat => f (i : Int)) with
 | none => exact .inl rfl
 | some i =>
  right
  rw [List.find?_range_eq_some] at h
  exact ⟨i, by simpa using h.2.1, rfl, h.1⟩
theorem matchB_spec (F : List Go.Fw.S1.Func) (N : List Node) (G : List Go.Fw.S1.Func) (M : List Node) (k : Nat) : (∃ i : Nat, i < N.length ∧ matchB F N G M k = ⟨(i : Int), (k : Int), 0⟩ ∧ sameB F N G M (i : Int) (k : Int) = true) ∨
  (∃ i : Nat, i < N.length ∧ matchB F N G M k = ⟨(i : Int), (k : Int), 1⟩ ∧ stateB F N G M (i : Int) (k : Int) = true) ∨ matchB F N G M k = ⟨-1, (k : Int), 2⟩ := by
 unfold matchB
 rcases leastN_spec (fun i => sameB F N G M i (k : Int)) N.length with h | ⟨i, hi, h, hf⟩
 ·rw [h, if_pos (by omega)]
  rcases leastN_spec (fun i => stateB F N G M i (k : Int)) N.length with h | ⟨i, hi, h, hf⟩
  ·rw [h, if_pos (by omega)]
   exact .inr (.inr rfl)
  ·rw [h, if_neg (by omega)]
   exact .inr (.inl ⟨i, hi, rfl, hf⟩)
 ·rw [h, if_neg (by omega)]
  exact .inl ⟨i, hi, rfl, hf⟩
theorem w9_ok {F : List Go.Fw.S1.Func} {N : List Node} {G : List Go.Fw.S1.Func} {M : List Node} (hN : OkPl F N) (hM : OkPl G M) (oN : ∀ (i : Nat) (h : i < N.length), OpIn N[i]) (oM : ∀ (i : Nat) (h : i < M.length), OpIn M[i]) (l : List Match) (hl : (List.range M.length).map (matchB F N G M) = l) :
  W 9 [.agg [.lst 100 F, .lst 43 N], .agg [.lst 100 G, .lst 43 M], .lst 52 l] = (some ((0 : Int), ()) : Option (Int × Unit)) := by
 have hlen : l.length = M.length := by rw [← hl]; simp
 have hget : ∀ i (h : i < l.length), l[i] = matchB F N G M i := fun i h => by subst hl; simp
 have hM2 := hM.len
 refine (w9 ⟨F, N⟩ ⟨G, M⟩ l).trans ?_
 unfold t9
 rw [E0_C, E0_lp]
 refine Ok.eq (Ok.bif (fun h => ?_) (fun h => ?_))
 ·simp [hlen] at h
 refine Ok.after (Ok.range l.length (fun i v => ∃ z1 z2 z3 z4 z5 z6, v = ((l, z1, z2, z3, z4, z5, z6, l, (l.length : Int), (i : Int), ()), ((F, N, ()), (G, M, ()), ()))) ?_ ?_ _ ⟨_, _, _, _, _, _, rfl⟩)
 ·rintro i v hi ⟨z1, z2, z3, z4, z5, z6, rfl⟩
  dsimp only
  simp only [ltb hi, nnb, Bool.and_true, cond_true, rd52_get hi, hget i hi]
  have key : (bif (bif (bif (bif ((matchB F N G M i).f1 != (i : Int)) then true else (decide ((matchB F N G M i).f2 < (0 : Int)))) then true else (decide ((3 : Int) ≤ (matchB F N G M i).f2))) then true else (bif ((matchB F N G M i).f2 == (2 : Int)) then ((matchB F N G M i).f0 != (-1 : Int)) else false)) then true else (bif ((matchB F N G M i).f2 != (2 : Int)) then (!(bif decide ((0 : Int) ≤ (matchB F N G M i).f0) then (decide ((matchB F N G M i).f0 < (N.length : Int))) else false)) else false)) = false := by
   rcases matchB_spec F N G M i with ⟨j, hj, h, _⟩ | ⟨j, hj, h, _⟩ | h <;> rw [h] <;> simp
   ·omega
   ·omega
  rw [key, cond_false]
  simp only [wrapK_succ hi (by omega)]
  exact Ok.pure ⟨_, _, _, _, _, _, rfl⟩
 ·rintro v ⟨z1, z2, z3, z4, z5, z6, rfl⟩
  dsimp only
  rw [geb (Nat.le_refl _), cond_false]
  refine Ok.pure ?_
  dsimp only
  refine Ok.after (Ok.range l.length (fun i v => ∃ z1 z2 z3 z4 z5 z6 z7 z8 z9, ∃ m : Memo, Right F N G M m ∧ v = ((z1, z2, z3, z4, z5, z6, z7, z8, z9, (l.length : Int), l, (l.length : Int), (i : Int), ()), ((F, N, ()), (G, M, ()), m, (F, N, G, M, ()), ()))) ?_ ?_ _ ⟨_, _, _, _, _, _, _, _, _, [], (fun i k b h => by cases h), rfl⟩)
  ·rintro i v hi ⟨z1, z2, z3, z4, z5, z6, z7, z8, z9, m, hm, rfl⟩
   dsimp only
   simp only [ltb hi, nnb, Bool.and_true, cond_true, rd52_get hi, hget i hi]
   rcases matchB_spec F N G M i with ⟨j, hj, h, hs⟩ | ⟨j, hj, h, hs⟩ | h
   ·rw [h]
    refine Ok.bind (w50021_ok hN hM j hj i m (by omega) hm) ?_
    rintro ⟨(b : Bool), (m' : Memo), u⟩ ⟨hb, hm'⟩
    dsimp only at hb hm' ⊢
    rw [hs] at hb
    subst hb
    refine Ok.bind (Q := fun _ => True) ⟨_, rfl, trivial⟩ fun r _ => ?_
    simp only [wrapK_succ hi (by omega)]
    exact Ok.pure ⟨_, _, _, _, _, _, _, _, _, m', hm', rfl⟩
   ·rw [h]
    refine Ok.bind (Q := fun _ => True) ⟨_, rfl, trivial⟩ fun r _ => ?_
    refine Ok.bind (w50022_ok hN hM hj (by omega) (oN j hj) (oM i (by omega)) m hm) ?_
    rintro ⟨(b : Bool), (m' : Memo), u⟩ ⟨hb, hm'⟩
    dsimp only at hb hm' ⊢
    rw [hs] at hb
    subst hb
    simp only [wrapK_succ hi (by omega)]
    exact Ok.pure ⟨_, _, _, _, _, _, _, _, _, m', hm', rfl⟩
   ·rw [h]
    refine Ok.bind (Q := fun _ => True) ⟨_, rfl, trivial⟩ fun r _ => ?_
    refine Ok.bind (Q := fun _ => True) ⟨_, rfl, trivial⟩ fun r _ => ?_
    simp only [wrapK_succ hi (by omega)]
    exact Ok.pure ⟨_, _, _, _, _, _, _, _, _, m, hm, rfl⟩
  ·rintro v ⟨z1, z2, z3, z4, z5, z6, z7, z8, z9, m, hm, rfl⟩
   dsimp only
   rw [geb (Nat.le_refl _), cond_false]
   refine Ok.pure ?_
   exact Ok.pure rfl
end Go.Fw.S1
