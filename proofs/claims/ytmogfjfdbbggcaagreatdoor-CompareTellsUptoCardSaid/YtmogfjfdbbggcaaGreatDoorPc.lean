import Derived.Test.YtmogfjfdbbggcaaGreatDoorPb
set_option linter.all false
set_option linter.unusedVariables false
set_option maxHeartbeats 1000000
set_option maxRecDepth 100000
namespace Go.Fw.S1
open Go.Proofs
mutual
def eqE : Expr → Expr → Bool
 | ⟨a0, a1, a2, a3⟩, ⟨b0, b1, b2, b3⟩ => bif (bif (bif a0 == b0 then a1 == b1 else false) then a2.toList == b2.toList else false) then eqL a3 b3 else false
def eqL : List Expr → List Expr → Bool
 | [], [] => true
 | a :: r, b :: q => eqE a b && eqL r q
 | _, _ => false
end
theorem eqL_eq : ∀ l k : List Expr, eqL l k = eqf eqE l k := by
 intro l
 induction l with
 | nil => intro k; cases k <;> simp [eqL, eqf]
 | cons a l ih => intro k; cases k <;> simp [eqL, eqf, ih]
theorem eqE_eq (a b : Expr) : eqE a b = bif (bif (bif a.f0 == b.f0 then a.f1 == b.f1 else false) then a.f2.toList == b.f2.toList else false) then eqf eqE a.f3 b.f3 else false := by
 cases a; cases b; rw [eqE, eqL_eq]
theorem w101_eq : ∀ a : Expr, sz a < 2147483648 → ∀ b : Expr, W 101 [vE a, vE b] = some (eqE a b, ()) := by
 refine Expr.ind fun a ih => fun hs b => ?_
 refine (w101 a b).trans ?_
 unfold t101
 rw [E0_C, eqE_eq]
 rw [sz_eq] at hs
 have hle := szL_len a.f3
 have hlist : ∀ l : List Expr, W 10200074 [.lst 49 a.f3, .lst 49 l, .clo 101 [] []] = some (eqf eqE a.f3 l, ()) := by
  intro l
  refine (w10200074 a.f3 l).trans ?_
  unfold t10200074
  rw [E0_C, E0_lp]
  refine Ok.eq (Ok.bif (fun h => ?_) (fun h => ?_))
  ·rw [eqf_ne h]; exact Ok.pure rfl
  ·have hlen := len_eq h
   refine Ok.after ((eqf_loop eqE a.f3 l hlen (fun i v => ∃ z1 z2 z3 z4 z5 z6, v = ((a.f3, l, (), (), z1, z2, z3, z4, z5, z6, a.f3, (a.f3.length : Int), (i : Int), ()), ())) (fun _ => True) (fun r => r = (false, ())) ?_ ?_ _ ⟨_, _, _, _, _, _, rfl⟩).mono ?_)
   ·rintro i v hi hi2 ⟨z1, z2, z3, z4, z5, z6, rfl⟩
    dsimp only
    simp only [ltb hi, ltb hi2, nnb, Bool.and_true, cond_true, rd49_get hi, rd49_get hi2]
    have hm : a.f3[i] ∈ a.f3 := List.getElem_mem hi
    have h1 := szL_mem hm
    refine Ok.bind ⟨_, ih _ hm (by omega) l[i], rfl⟩ ?_
    rintro r rfl
    refine Ok.bif (fun h => ?_) (fun h => ?_)
    ·exact ⟨_, rfl, by simpa using h, rfl⟩
    ·simp only [wrapK_succ hi (by omega)]
     exact Ok.pure ⟨by simpa using h, _, _, _, _, _, _, rfl⟩
   ·rintro v ⟨z1, z2, z3, z4, z5, z6, rfl⟩
    dsimp only
    rw [geb (Nat.le_refl _), cond_false]
    exact Ok.pure trivial
   ·intro o ho
    cases o with
    | out v => exact Ok.pure (by rw [ho.1])
    | ret r => rw [ho.1]; exact ho.2
 generalize (bif (bif a.f0 == b.f0 then a.f1 == b.f1 else false) then a.f2.toList == b.f2.toList else false) = c
 cases c with
 | false => rfl
 | true =>
  simp only [cond_true]
  rw [hlist b.f3]
  rfl
theorem sameW_eq {x : Expr} (hx : sz x < 2147483648) (y : Expr) : sameW x y = eqE x y := by
 unfold sameW
 rw [w101_eq x hx y]
theorem w116_ok : ∀ a : Expr, sz a < 2147483648 → ∀ b : Expr, W 116 [vE a, vE b] = some (eqE a b, ()) := by
 refine Expr.ind fun a ih => fun hs b => ?_
 refine (w116 a b).trans ?_
 unfold t116
 rw [E0_C, E0_lp, eqE_eq]
 rw [sz_eq] at hs
 have hle := szL_len a.f3
 refine Ok.eq (Ok.bif (fun h => ?_) (fun h => ?_))
 ·refine Ok.pure ?_
  have : (bif (bif (bif a.f0 == b.f0 then a.f1 == b.f1 else false) then a.f2.toList == b.f2.toList else false) then eqf eqE a.f3 b.f3 else false) = false := by
   cases h0 : (a.f0 == b.f0) with
   | false => rfl
   | true =>
    cases h1 : (a.f1 == b.f1) with
    | false => rfl
    | true =>
     cases h2 : (a.f2.toList == b.f2.toList) with
     | false => rfl
     | true =>
      have h3 : ((a.f3.length : Int) != (b.f3.length : Int)) = true := by
       simp only [bne, h0, h1, h2, Bool.not_true, cond_false] at h ⊢
       exact h
      rw [eqf_ne h3]
      rfl
  rw [this]
 ·have key : (a.f0 == b.f0) = true ∧ (a.f1 == b.f1) = true ∧ (a.f2.toList == b.f2.toList) = true ∧ ((a.f3.length : Int) != (b.f3.length : Int)) = false := by
   simp only [bne] at h ⊢
   revert h
   cases (a.f0 == b.f0) <;> cases (a.f1 == b.f1) <;> cases (a.f2.toList == b.f2.toList) <;> simp
  obtain ⟨k0, k1, k2, k3⟩ := key
  rw [k0, k1, k2]
  simp only [cond_true]
  have hlen := len_eq k3
  refine Ok.after ((eqf_loop eqE a.f3 b.f3 hlen (fun i v => ∃ z1, v = ((z1, (i : Int), ()), ((a.f0, a.f1, a.f2, a.f3, ()), (b.f0, b.f1, b.f2, b.f3, ()), ()))) (fun _ => True) (fun r => r = (false, ())) ?_ ?_ _ ⟨_, rfl⟩).mono ?_)
  ·rintro i v hi hi2 ⟨z1, rfl⟩
   dsimp only
   simp only [ltb hi, ltb hi2, nnb, Bool.and_true, cond_true, rd49_get hi, rd49_get hi2]
   have hm : a.f3[i] ∈ a.f3 := List.getElem_mem hi
   have h1 := szL_mem hm
   refine Ok.bind ⟨_, ih _ hm (by omega) b.f3[i], rfl⟩ ?_
   rintro r rfl
   refine Ok.bif (fun h => ?_) (fun h => ?_)
   ·exact ⟨_, rfl, by simpa using h, rfl⟩
   ·simp only [wrapK_succ hi (by omega)]
    exact Ok.pure ⟨by simpa using h, _, rfl⟩
  ·rintro v ⟨z1, rfl⟩
   dsimp only
   rw [geb (Nat.le_refl _), cond_false]
   exact Ok.pure trivial
  ·intro o ho
   cases o with
   | out v => exact Ok.pure (by rw [ho.1])
   | ret r => rw [ho.1]; exact ho.2
abbrev vP (F : List Go.Fw.S1.Func) (N : List Node) : Val T := .agg [.lst 100 F, .lst 43 N]
theorem w85_ok {F G : List Go.Fw.S1.Func} {N M : List Node} (hF : OkF F) (hG : OkF G) {a b : Expr} (ha : OkX F a) (hb : OkX G b) :
  W 85 [vP F N, vE a, vP G M, vE b] = some (alikeB F a G b, ()) := by
 refine (w85 ⟨F, N⟩ a ⟨G, M⟩ b).trans ?_
 unfold t85 alikeB
 rw [E0_C]
 refine Ok.eq (Ok.bind ⟨_, w115_ok F hF.len hF.sz a ha.sz, rfl⟩ ?_)
 rintro r rfl
 refine Ok.bind ⟨_, w115_ok G hG.len hG.sz b hb.sz, rfl⟩ ?_
 rintro r rfl
 simp only [encP]
 cases hx : inlineE F a with
 | none => exact Ok.bind (Q := fun _ => True) ⟨_, rfl, trivial⟩ fun r _ => Ok.pure rfl
 | some x =>
  cases hy : inlineE G b with
  | none => exact Ok.bind (Q := fun _ => True) ⟨_, rfl, trivial⟩ fun r _ => Ok.pure rfl
  | some y =>
   simp only [Option.isSome_some, cond_true, Option.getD_some]
   have hs : sz x < 2147483648 := by have := inlineE_sz hx; omega
   refine Ok.bind ⟨_, w116_ok x hs y, rfl⟩ ?_
   rintro r rfl
   rw [sameW_eq hs y]
   exact Ok.pure rfl
theorem w52_ok (l k : List Int) (hl : l.length ≤ 2097152) : W 52 [.lst 3 l, .lst 3 k] = some (intsB l k, ()) := by
 refine (w52 l k).trans ?_
 unfold t52 intsB
 rw [E0_lp]
 refine Ok.eq (Ok.bif (fun h => ?_) (fun h => ?_))
 ·rw [eqf_ne h]; exact Ok.pure rfl
 ·have hlen := len_eq h
  refine Ok.after ((eqf_loop (fun a b => a == b) l k hlen (fun i v => ∃ z1, v = ((l, k, z1, (i : Int), ()), ())) (fun _ => True) (fun r => r = (false, ())) ?_ ?_ _ ⟨_, rfl⟩).mono ?_)
  ·rintro i v hi hi2 ⟨z1, rfl⟩
   dsimp only
   simp only [ltb hi, ltb hi2, nnb, Bool.and_true, cond_true, rd3_get hi, rd3_get hi2]
   refine Ok.bif (fun h => ?_) (fun h => ?_)
   ·exact ⟨_, rfl, by simpa using h, rfl⟩
   ·simp only [wrapK_succ hi (by omega)]
    exact Ok.pure ⟨by simpa using h, _, rfl⟩
  ·rintro v ⟨z1, rfl⟩
   dsimp only
   rw [geb (Nat.le_refl _), cond_false]
   exact Ok.pure trivial
  ·intro o ho
   cases o with
   | out v => exact Ok.pure (by rw [ho.1])
   | ret r => rw [ho.1]; exact ho.2
end Go.Fw.S1
set_option linter.unusedVariables false
set_option maxHeartbeats 1000000
set_option maxRecDepth 100000
namespace Go.Fw.S1
open Go.Proofs
theorem impT (x : Bool) : impB true x = true := by cases x <;> rfl
theorem cnd_and (a b : Bool) : (bif a then b else false) = (a && b) := by cases a <;> rfl
def oneB (a b : Node) : Bool := (bif (bif (bif (bif (bif ((a.f0 == b.f0)) then (a.f2.toList == b.f2.toList) else false) then ((a.f3 == b.f3)) else false) then ((a.f5 == b.f5)) else false) then ((a.f6 == b.f6)) else false) then ((a.f7 == b.f7)) else false)
def twoB (a b : Node) : Bool := (bif (bif ((a.f10 == b.f10)) then ((a.f11 == b.f11)) else false) then ((a.f12 == b.f12)) else false)
theorem fieldsB_ref (F G : List Go.Fw.S1.Func) (a b : Node) : fieldsB F G a b = (oneB a b && (twoB a b && (intsB a.f8 b.f8 && (intsB a.f9 b.f9 && (eqf (fun a b => alikeB F a G b) a.f4 b.f4 && (eqf aggB a.f13 b.f13 && (eqf (patB F G) a.f14 b.f14 && (bif (a.f0 != (0 : Int)) then true else eqf colB a.f15 b.f15)))))))) := by
 unfold fieldsB oneB twoB
 simp only [cnd_and, Bool.and_true]
 generalize (bif (a.f0 != (0 : Int)) then true else eqf colB a.f15 b.f15) = t
 ac_rfl
theorem w49_ok {F G : List Go.Fw.S1.Func} {N M : List Node} (hF : OkF F) (hG : OkF G) {a b : Node} (ha : OkN F a) (hb : OkN G b) :
  W 49 [vP F N, vN a, vP G M, vN b] = some (fieldsB F G a b, ()) := by
 refine (w49 ⟨F, N⟩ a ⟨G, M⟩ b).trans ?_
 rw [fieldsB_ref]
 unfold t49
 rw [E0_C, E0_lp]
 have e1 := ha.l4
 have e13 := ha.l13
 have e14 := ha.l14
 have e15 := ha.l15
 rw [show (bif (bif ((a.f10 == b.f10)) then ((a.f11 == b.f11)) else false) then ((a.f12 == b.f12)) else false) = twoB a b from rfl]
 rw [show (bif (bif (bif (bif (bif ((a.f0 == b.f0)) then (a.f2.toList == b.f2.toList) else false) then ((a.f3 == b.f3)) else false) then ((a.f5 == b.f5)) else false) then ((a.f6 == b.f6)) else false) then ((a.f7 == b.f7)) else false) = oneB a b from rfl]
 generalize oneB a b = one
 generalize twoB a b = two
 refine Ok.eq (Ok.bind (Q := fun r => (bif two then r.1 else false) = (two && intsB a.f8 b.f8)) ?_ ?_)
 ·cases two with
  | false => exact ⟨_, rfl, rfl⟩
  | true => exact ⟨_, w52_ok _ _ ha.l8, rfl⟩
 rintro ⟨(r1 : Bool), u1⟩ hr1
 dsimp only at hr1 ⊢
 rw [hr1]
 refine Ok.bind (Q := fun r => (bif (two && intsB a.f8 b.f8) then r.1 else false) = ((two && intsB a.f8 b.f8) && intsB a.f9 b.f9)) ?_ ?_
 ·cases (two && intsB a.f8 b.f8) with
  | false => exact ⟨_, rfl, rfl⟩
  | true => exact ⟨_, w52_ok _ _ ha.l9, rfl⟩
 rintro ⟨(r2 : Bool), u2⟩ hr2
 dsimp only at hr2 ⊢
 rw [hr2]
 rw [show ∀ x : Bool, (one && (two && (intsB a.f8 b.f8 && (intsB a.f9 b.f9 && x)))) = (one && (((two && intsB a.f8 b.f8) && intsB a.f9 b.f9) && x)) from fun x => by simp only [Bool.and_assoc]]
 generalize ((two && intsB a.f8 b.f8) && intsB a.f9 b.f9) = both
 refine Ok.bif (fun h => ?_) (fun h => ?_)
 ·refine Ok.pure ?_
  cases one with
  | false => rfl
  | true =>
   cases both with
   | false => rfl
   | true =>
    simp only [Bool.not_true, cond_false, Bool.true_and] at h ⊢
    cases h4 : ((a.f4.length : Int) != (b.f4.length : Int)) with
    | true => rw [eqf_ne h4]; rfl
    | false =>
     cases h13 : ((a.f13.length : Int) != (b.f13.length : Int)) with
     | true => rw [eqf_ne h13]; simp
     | false =>
      cases h14 : ((a.f14.length : Int) != (b.f14.length : Int)) with
      | true => rw [eqf_ne h14]; simp
      | false => rw [h4, h13, h14] at h; cases h
 ·have hk : one = true ∧ both = true ∧ ((a.f4.length : Int) != (b.f4.length : Int)) = false ∧ ((a.f13.length : Int) != (b.f13.length : Int)) = false ∧ ((a.f14.length : Int) != (b.f14.length : Int)) = false := by
   revert h
   cases one <;> cases both <;> cases ((a.f4.length : Int) != (b.f4.length : Int)) <;> cases ((a.f13.length : Int) != (b.f13.length : Int)) <;> cases ((a.f14.length : Int) != (b.f14.length : Int)) <;> simp
  obtain ⟨rfl, rfl, k4, k13, k14⟩ := hk
  have l4 := len_eq k4
  have l13 := len_eq k13
  have l14 := len_eq k14
  simp only [Bool.true_and]
  refine Ok.after ((eqf_loop (fun a b => alikeB F a G b) a.f4 b.f4 l4 (fun i v => ∃ z1 z2 z3, v = ((z1, z2, z3, (i : Int), ()), ((F, N, ()), (a.f0, a.f1, a.f2, a.f3, a.f4, a.f5, a.f6, a.f7, a.f8, a.f9, a.f10, a.f11, a.f12, a.f13, a.f14, a.f15, ()), (G, M, ()), (b.f0, b.f1, b.f2, b.f3, b.f4, b.f5, b.f6, b.f7, b.f8, b.f9, b.f10, b.f11, b.f12, b.f13, b.f14, b.f15, ()), ()))) (fun v => ∃ z1 z2 z3, v = ((z1, z2, z3, (a.f4.length : Int), ()), ((F, N, ()), (a.f0, a.f1, a.f2, a.f3, a.f4, a.f5, a.f6, a.f7, a.f8, a.f9, a.f10, a.f11, a.f12, a.f13, a.f14, a.f15, ()), (G, M, ()), (b.f0, b.f1, b.f2, b.f3, b.f4, b.f5, b.f6, b.f7, b.f8, b.f9, b.f10, b.f11, b.f12, b.f13, b.f14, b.f15, ()), ()))) (fun r => r = (false, ())) ?_ ?_ _ ⟨_, _, _, rfl⟩).mono ?_)
  ·rintro i v hi hi2 ⟨z1, z2, z3, rfl⟩
   dsimp only
   simp only [ltb hi, ltb hi2, nnb, Bool.and_true, cond_true, rd49_get hi, rd49_get hi2]
   refine Ok.bind ⟨_, w85_ok hF hG (ha.exprs _ (List.getElem_mem hi)) (hb.exprs _ (List.getElem_mem hi2)), rfl⟩ ?_
   rintro r rfl
   refine Ok.bif (fun h => ?_) (fun h => ?_)
   ·exact ⟨_, rfl, by simpa using h, rfl⟩
   ·simp only [wrapK_succ hi (by omega)]
    exact Ok.pure ⟨by simpa using h, _, _, _, rfl⟩
  ·rintro v ⟨z1, z2, z3, rfl⟩
   dsimp only
   rw [geb (Nat.le_refl _), cond_false]
   exact Ok.pure ⟨_, _, _, rfl⟩
  ·intro o ho
   cases o with
   | ret r => rw [ho.1]; simp only [Bool.false_and, Bool.and_false]; exact ho.2
   | out v =>
    obtain ⟨he, z1, z2, z3, rfl⟩ := ho
    rw [he]
    dsimp only
    refine Ok.after ((eqf_loop (aggB) a.f13 b.f13 l13 (fun i v => ∃ z1 z2 z3 z4, v = ((z1, z2, z3, z4, (i : Int), ()), ((F, N, ()), (a.f0, a.f1, a.f2, a.f3, a.f4, a.f5, a.f6, a.f7, a.f8, a.f9, a.f10, a.f11, a.f12, a.f13, a.f14, a.f15, ()), (G, M, ()), (b.f0, b.f1, b.f2, b.f3, b.f4, b.f5, b.f6, b.f7, b.f8, b.f9, b.f10, b.f11, b.f12, b.f13, b.f14, b.f15, ()), ()))) (fun v => ∃ z1 z2 z3 z4, v = ((z1, z2, z3, z4, (a.f13.length : Int), ()), ((F, N, ()), (a.f0, a.f1, a.f2, a.f3, a.f4, a.f5, a.f6, a.f7, a.f8, a.f9, a.f10, a.f11, a.f12, a.f13, a.f14, a.f15, ()), (G, M, ()), (b.f0, b.f1, b.f2, b.f3, b.f4, b.f5, b.f6, b.f7, b.f8, b.f9, b.f10, b.f11, b.f12, b.f13, b.f14, b.f15, ()), ()))) (fun r => r = (false, ())) ?_ ?_ _ ⟨_, _, _, _, rfl⟩).mono ?_)
    ·rintro i v hi hi2 ⟨z1, z2, z3, z4, rfl⟩
     dsimp only
     simp only [ltb hi, ltb hi2, nnb, Bool.and_true, cond_true, rd47_get hi, rd47_get hi2]
     have hag : aggB a.f13[i] b.f13[i] = !(bif (a.f13[i].f0 != b.f13[i].f0) then true else (a.f13[i].f1 != b.f13[i].f1)) := by
      unfold aggB; simp only [bne]; cases (a.f13[i].f0 == b.f13[i].f0) <;> simp
     simp only [impT, cond_true]
     refine Ok.bif (fun h => ?_) (fun h => ?_)
     ·exact ⟨_, rfl, by rw [hag, h]; rfl, rfl⟩
     ·simp only [wrapK_succ hi (by omega)]
      exact Ok.pure ⟨by rw [hag, h]; rfl, _, _, _, _, rfl⟩
    ·rintro v ⟨z1, z2, z3, z4, rfl⟩
     dsimp only
     rw [geb (Nat.le_refl _), cond_false]
     exact Ok.pure ⟨_, _, _, _, rfl⟩
    ·intro o ho
     cases o with
     | ret r => rw [ho.1]; simp only [Bool.false_and, Bool.and_false]; exact ho.2
     | out v =>
      obtain ⟨he, z1, z2, z3, z4, rfl⟩ := ho
      rw [he]
      dsimp only
      refine Ok.after ((eqf_loop (patB F G) a.f14 b.f14 l14 (fun i v => ∃ z1 z2 z3 z4 z5, v = ((z1, z2, z3, z4, z5, (i : Int), ()), ((F, N, ()), (a.f0, a.f1, a.f2, a.f3, a.f4, a.f5, a.f6, a.f7, a.f8, a.f9, a.f10, a.f11, a.f12, a.f13, a.f14, a.f15, ()), (G, M, ()), (b.f0, b.f1, b.f2, b.f3, b.f4, b.f5, b.f6, b.f7, b.f8, b.f9, b.f10, b.f11, b.f12, b.f13, b.f14, b.f15, ()), ()))) (fun v => ∃ z1 z2 z3 z4 z5, v = ((z1, z2, z3, z4, z5, (a.f14.length : Int), ()), ((F, N, ()), (a.f0, a.f1, a.f2, a.f3, a.f4, a.f5, a.f6, a.f7, a.f8, a.f9, a.f10, a.f11, a.f12, a.f13, a.f14, a.f15, ()), (G, M, ()), (b.f0, b.f1, b.f2, b.f3, b.f4, b.f5, b.f6, b.f7, b.f8, b.f9, b.f10, b.f11, b.f12, b.f13, b.f14, b.f15, ()), ()))) (fun r => r = (false, ())) ?_ ?_ _ ⟨_, _, _, _, _, rfl⟩).mono ?_)
      ·rintro i v hi hi2 ⟨z1, z2, z3, z4, z5, rfl⟩
       dsimp only
       simp only [ltb hi, ltb hi2, nnb, Bool.and_true, cond_true, rd103_get hi, rd103_get hi2, impT]
       cases hp : (a.f14[i].f1 != b.f14[i].f1) with
       | true =>
        refine Ok.bind (Q := fun _ => True) ⟨_, rfl, trivial⟩ fun r _ => ?_
        refine ⟨_, rfl, ?_, rfl⟩
        unfold patB
        rw [show (a.f14[i].f1 == b.f14[i].f1) = false from by simpa [bne] using hp]
        rfl
       | false =>
        simp only [Bool.not_false, cond_true, cond_false]
        refine Ok.bind ⟨_, w85_ok hF hG (ha.pats _ (List.getElem_mem hi)) (hb.pats _ (List.getElem_mem hi2)), rfl⟩ ?_
        rintro r rfl
        have hpb : patB F G a.f14[i] b.f14[i] = alikeB F a.f14[i].f0 G b.f14[i].f0 := by
         unfold patB; rw [show (a.f14[i].f1 == b.f14[i].f1) = true from by simpa [bne] using hp]; rfl
        rw [hpb]
        refine Ok.bif (fun h => ?_) (fun h => ?_)
        ·exact ⟨_, rfl, by simpa using h, rfl⟩
        ·simp only [wrapK_succ hi (by omega)]
         exact Ok.pure ⟨by simpa using h, _, _, _, _, _, rfl⟩
      ·rintro v ⟨z1, z2, z3, z4, z5, rfl⟩
       dsimp only
       rw [geb (Nat.le_refl _), cond_false]
       exact Ok.pure ⟨_, _, _, _, _, rfl⟩
      ·intro o ho
       cases o with
       | ret r => rw [ho.1]; simp only [Bool.false_and, Bool.and_false]; exact ho.2
       | out v =>
        obtain ⟨he, z1, z2, z3, z4, z5, rfl⟩ := ho
        rw [he]
        dsimp only
        refine Ok.bif (fun h => ?_) (fun h => ?_)
        ·rw [h]; exact Ok.pure rfl
        rw [h]
        simp only [Bool.true_and, cond_false]
        refine Ok.bif (fun h => ?_) (fun h => ?_)
        ·rw [eqf_ne h]; exact Ok.pure rfl
        refine Ok.after ((eqf_loop (colB) a.f15 b.f15 (len_eq h) (fun i v => ∃ z1 z2 z3 z4 z5 z6, v = ((z1, z2, z3, z4, z5, z6, (i : Int), ()), ((F, N, ()), (a.f0, a.f1, a.f2, a.f3, a.f4, a.f5, a.f6, a.f7, a.f8, a.f9, a.f10, a.f11, a.f12, a.f13, a.f14, a.f15, ()), (G, M, ()), (b.f0, b.f1, b.f2, b.f3, b.f4, b.f5, b.f6, b.f7, b.f8, b.f9, b.f10, b.f11, b.f12, b.f13, b.f14, b.f15, ()), ()))) (fun v => ∃ z1 z2 z3 z4 z5 z6, v = ((z1, z2, z3, z4, z5, z6, (a.f15.length : Int), ()), ((F, N, ()), (a.f0, a.f1, a.f2, a.f3, a.f4, a.f5, a.f6, a.f7, a.f8, a.f9, a.f10, a.f11, a.f12, a.f13, a.f14, a.f15, ()), (G, M, ()), (b.f0, b.f1, b.f2, b.f3, b.f4, b.f5, b.f6, b.f7, b.f8, b.f9, b.f10, b.f11, b.f12, b.f13, b.f14, b.f15, ()), ()))) (fun r => r = (false, ())) ?_ ?_ _ ⟨_, _, _, _, _, _, rfl⟩).mono ?_)
        ·rintro i v hi hi2 ⟨z1, z2, z3, z4, z5, z6, rfl⟩
         dsimp only
         simp only [ltb hi, ltb hi2, nnb, Bool.and_true, cond_true, rd77_get hi, rd77_get hi2]
         refine Ok.bif (fun h => ?_) (fun h => ?_)
         ·exact ⟨_, rfl, by unfold colB; simpa [bne] using h, rfl⟩
         ·simp only [wrapK_succ hi (by omega)]
          exact Ok.pure ⟨by unfold colB; simpa [bne] using h, _, _, _, _, _, _, rfl⟩
        ·rintro v ⟨z1, z2, z3, z4, z5, z6, rfl⟩
         dsimp only
         rw [geb (Nat.le_refl _), cond_false]
         exact Ok.pure ⟨_, _, _, _, _, _, rfl⟩
        ·intro o ho
         cases o with
         | ret r => rw [ho.1]; simp only [Bool.false_and, Bool.and_false]; exact ho.2
         | out v =>
          obtain ⟨he, z1, z2, z3, z4, z5, z6, rfl⟩ := ho
          rw [he]
          dsimp only
          exact Ok.pure rfl
end Go.Fw.S1
set_option linter.unusedVariables false
set_option maxHeartbeats 1000000
set_option maxRecDepth 100000
namespace Go.Fw.S1
open Go.Proofs
theorem rd63_get {xs : List (List Bool)} {i : Nat} (h : i < xs.length) : rd63 xs (i : Int) = xs[i] := rdl_get (e := 63) h
theorem within2 (n f t : Int) : W 69 [.int .i64 n, .int .i64 f, .int .i64 t] = some (withinB n f t, ()) := w69_ok n f t
theorem w43_eq (a : Node) (h : OpIn a) : W 43 [vN a] = some (boundedB a, ()) := by
 refine (w43 a).trans ?_
 unfold t43
 rw [E0_C]
 have two : ∀ (c : Bool) (n f t : Int), Ok (bif c then W 69 [.int .i64 n, .int .i64 f, .int .i64 t] else some (Ret.dflt tb 69)) (fun r => (bif c then r.1 else false) = (bif c then withinB n f t else false)) := fun c n f t => by
  cases c with
  | false => exact ⟨_, rfl, rfl⟩
  | true => exact ⟨_, w69_ok n f t, rfl⟩
 unfold boundedB
 refine Ok.eq (Ok.bif (fun h4 => ?_) (fun h4 => ?_))
 ·rw [if_pos (eqz h4)]
  unfold windowB sizedB
  refine Ok.bind ⟨_, w69_ok _ _ _, rfl⟩ ?_
  rintro r rfl
  dsimp only
  cases hs : withinB a.f6 1 10000 with
  | false =>
   refine Ok.pure ?_
   cases (a.f5 == (0 : Int)) <;> cases (a.f5 == (1 : Int)) <;> cases (a.f5 == (2 : Int)) <;> rfl
  | true =>
   simp only [Bool.not_true, cond_false, cond_true]
   cases h0 : (a.f5 == (0 : Int)) with
   | true => exact Ok.pure rfl
   | false =>
    simp only [cond_false]
    cases h1 : (a.f5 == (1 : Int)) with
    | true =>
     simp only [cond_true]
     by_cases hp : 0 < a.f7
     ·rw [show decide (a.f7 < 1) = false from by simp; omega, show decide ((0 : Int) < a.f7) = true from by simpa using hp, show (a.f7 != 0) = true from by simp; omega]
      exact Ok.pure rfl
     ·rw [show decide (a.f7 < 1) = true from by simp; omega, show decide ((0 : Int) < a.f7) = false from by simpa using hp]
      exact Ok.pure rfl
    | false =>
     simp only [cond_false]
     cases h2 : (a.f5 == (2 : Int)) with
     | true =>
      simp only [cond_true]
      refine Ok.bind ⟨_, w69_ok _ _ _, rfl⟩ ?_
      rintro r rfl
      exact Ok.pure rfl
     | false => exact Ok.pure rfl
 rw [if_neg (nez h4)]
 refine Ok.bif (fun h5 => ?_) (fun h5 => ?_)
 ·rw [if_pos (eqz h5)]
  refine Ok.bind ⟨_, w69_ok _ _ _, rfl⟩ ?_
  rintro r rfl
  refine Ok.bind (two _ _ _ _) ?_
  rintro ⟨(r : Bool), u⟩ hr
  exact Ok.pure (congrArg (fun x : Bool => (x, ())) hr)
 rw [if_neg (nez h5)]
 refine Ok.bif (fun h5 => ?_) (fun h5 => ?_)
 ·rw [if_pos (eqz h5)]
  refine Ok.bind ⟨_, w69_ok _ _ _, rfl⟩ ?_
  rintro r rfl
  refine Ok.bind (two _ _ _ _) ?_
  rintro ⟨(r : Bool), u⟩ hr
  exact Ok.pure (congrArg (fun x : Bool => (x, ())) hr)
 rw [if_neg (nez h5)]
 refine Ok.bif (fun h5 => ?_) (fun h5 => ?_)
 ·rw [if_pos (eqz h5)]
  refine Ok.bind ⟨_, w69_ok _ _ _, rfl⟩ ?_
  rintro r rfl
  exact Ok.pure rfl
 rw [if_neg (nez h5)]
 refine Ok.bif (fun h5 => ?_) (fun h5 => ?_)
 ·rw [if_pos (eqz h5)]
  refine Ok.bind ⟨_, w69_ok _ _ _, rfl⟩ ?_
  rintro r rfl
  refine Ok.bind (two _ _ _ _) ?_
  rintro ⟨(r : Bool), u⟩ hr
  exact Ok.pure (congrArg (fun x : Bool => (x, ())) hr)
 rw [if_neg (nez h5)]
 refine Ok.bind ⟨_, w69_ok _ _ _, rfl⟩ ?_
 rintro r rfl
 refine Ok.pure ?_
 obtain ⟨h0, h8⟩ := h
 have : withinB a.f0 0 8 = true := by unfold withinB; simp [h0, h8]
 rw [this]
theorem w51_ok (a : Node) (h : OpIn a) : W 51 [vN a] = some (ownB a, ()) := by
 refine (w51 a).trans ?_
 unfold t51 ownB
 rw [E0_C]
 refine Ok.eq (Ok.bind ⟨_, w43_eq a h, rfl⟩ ?_)
 rintro r rfl
 dsimp only
 refine Ok.bif (fun hb => ?_) (fun hb => ?_)
 ·rw [hb]; exact Ok.pure rfl
 rw [hb, cond_false]
 refine Ok.bif (fun h4 => ?_) (fun h4 => ?_)
 ·rw [if_pos (eqz h4)]
  unfold blockB
  rw [h4, cond_true]
  refine Ok.bif (fun h5 => ?_) (fun h5 => ?_) <;> rw [h5] <;> exact Ok.pure rfl
 rw [if_neg (nez h4)]
 refine Ok.bif (fun h5 => ?_) (fun h5 => ?_)
 ·rw [if_pos (eqz h5)]
  unfold blockB
  rw [h4, cond_false]
  exact Ok.pure rfl
 rw [if_neg (nez h5)]
 refine Ok.bif (fun h5 => ?_) (fun h5 => ?_)
 ·rw [if_pos (eqz h5)]; exact Ok.pure rfl
 rw [if_neg (nez h5)]
 refine Ok.bif (fun h5 => ?_) (fun h5 => ?_)
 ·rw [if_pos (eqz h5)]; exact Ok.pure rfl
 rw [if_neg (nez h5)]
 refine Ok.bif (fun h5 => ?_) (fun h5 => ?_)
 ·rw [if_pos (eqz h5)]; exact Ok.pure rfl
 rw [if_neg (nez h5)]
 exact Ok.pure rfl
noncomputable def atT (T : List (List Bool)) (i k : Int) : Bool := rd4 (rd63 T i) k
theorem w50_ok (T : List (List Bool)) (a b : Node) (hl : a.f1.length ≤ 2097152) (hA : ∀ j, j ∈ a.f1 → 0 ≤ j ∧ j < (T.length : Int)) (hB : ∀ j, j ∈ a.f1 → ∀ k, k ∈ b.f1 → 0 ≤ k ∧ k < ((rd63 T j).length : Int)) :
  W 50 [.lst 63 T, vN a, vN b] = some (eqf (atT T) a.f1 b.f1, ()) := by
 refine (w50 T a b).trans ?_
 unfold t50
 rw [E0_lp]
 refine Ok.eq (Ok.bif (fun h => ?_) (fun h => ?_))
 ·rw [eqf_ne h]; exact Ok.pure rfl
 ·have hlen := len_eq h
  refine Ok.after ((eqf_loop (atT T) a.f1 b.f1 hlen (fun i v => ∃ z1, v = ((T, z1, (i : Int), ()), ((a.f0, a.f1, a.f2, a.f3, a.f4, a.f5, a.f6, a.f7, a.f8, a.f9, a.f10, a.f11, a.f12, a.f13, a.f14, a.f15, ()), (b.f0, b.f1, b.f2, b.f3, b.f4, b.f5, b.f6, b.f7, b.f8, b.f9, b.f10, b.f11, b.f12, b.f13, b.f14, b.f15, ()), ()))) (fun _ => True) (fun r => r = (false, ())) ?_ ?_ _ ⟨_, rfl⟩).mono ?_)
  ·rintro i v hi hi2 ⟨z1, rfl⟩
   dsimp only
   simp only [ltb hi, ltb hi2, nnb, Bool.and_true, cond_true, rd3_get hi, rd3_get hi2]
   obtain ⟨p1, p2⟩ := hA _ (List.getElem_mem hi)
   obtain ⟨p3, p4⟩ := hB _ (List.getElem_mem hi) _ (List.getElem_mem hi2)
   simp only [p1, p2, p3, p4, decide_true, Bool.and_true, cond_true]
   refine Ok.bif (fun h => ?_) (fun h => ?_)
   ·exact ⟨_, rfl, by unfold atT; simpa using h, rfl⟩
   ·simp only [wrapK_succ hi (by omega)]
    exact Ok.pure ⟨by unfold atT; simpa using h, _, rfl⟩
  ·rintro v ⟨z1, rfl⟩
   dsimp only
   rw [geb (Nat.le_refl _), cond_false]
   exact Ok.pure trivial
  ·intro o ho
   cases o with
   | out v => exact Ok.pure (by rw [ho.1])
   | ret r => rw [ho.1]; exact ho.2
section
variable (F : List Go.Fw.S1.Func) (N : List Node) (G : List Go.Fw.S1.Func) (M : List Node)
noncomputable def rowB (i : Nat) : List Bool := (List.range M.length).map fun k : Nat => sameB F N G M (i : Int) (k : Int)
noncomputable def tabB (n : Nat) : List (List Bool) := (List.range n).map (rowB F N G M)
end
section
variable {F : List Go.Fw.S1.Func} {N : List Node} {G : List Go.Fw.S1.Func} {M : List Node}
theorem rowB_get {i k : Nat} (h : k < (rowB F N G M i).length) : (rowB F N G M i)[k] = sameB F N G M (i : Int) (k : Int) := by
 simp [rowB]
theorem atT_tab {n i k : Nat} (hi : i < n) (hk : k < M.length) (R : List (List Bool)) : atT (tabB F N G M n ++ R) (i : Int) (k : Int) = sameB F N G M (i : Int) (k : Int) := by
 unfold atT tabB
 have h1 : i < ((List.range n).map (rowB F N G M) ++ R).length := by simp; omega
 rw [rd63_get h1, List.getElem_append_left (by simpa using hi)]
 simp only [List.getElem_map, List.getElem_range]
 have h2 : k < (rowB F N G M i).length := by unfold rowB; simpa using hk
 rw [rd4_get h2]
 exact rowB_get h2
theorem row_tab {n i : Nat} (hi : i < n) (R : List (List Bool)) : (rd63 (tabB F N G M n ++ R) (i : Int)).length = M.length := by
 unfold tabB
 have h1 : i < ((List.range n).map (rowB F N G M) ++ R).length := by simp; omega
 rw [rd63_get h1, List.getElem_append_left (by simpa using hi)]
 simp [rowB]
theorem eqf_congr3 {α : Type} {f g : α → α → Bool} : ∀ {l k : List α}, (∀ a, a ∈ l → ∀ b, b ∈ k → f a b = g a b) → eqf f l k = eqf g l k := by
 intro l
 induction l with
 | nil => intro k _; cases k <;> rfl
 | cons a l ih =>
  intro k h
  cases k with
  | nil => rfl
  | cons b k => simp only [eqf]; rw [h a (by simp) b (by simp), ih fun a ha b hb => h a (by simp [ha]) b (by simp [hb])]
theorem w50_tab (hN : OkPl F N) (hM : OkPl G M) {n i k : Nat} (hi : i < N.length) (hin : i ≤ n) (hk : k < M.length) (R : List (List Bool)) (hR : n + R.length ≤ 2097152) :
  W 50 [.lst 63 (tabB F N G M n ++ R), vN N[i], vN M[k]] = some (eqf (sameB F N G M) N[i].f1 M[k].f1, ()) := by
 obtain ⟨hNi, hNin⟩ := hN.nodes i hi
 obtain ⟨hMk, hMin⟩ := hM.nodes k hk
 rw [w50_ok]
 ·congr 2
  refine eqf_congr3 fun a ha b hb => ?_
  obtain ⟨q1, q2⟩ := hNin a ha
  obtain ⟨q3, q4⟩ := hMin b hb
  rw [show a = ((a.toNat : Nat) : Int) from by omega, show b = ((b.toNat : Nat) : Int) from by omega]
  exact atT_tab (by omega) (by omega) R
 ·exact hNi.l1
 ·intro a ha
  obtain ⟨q1, q2⟩ := hNin a ha
  refine ⟨q1, ?_⟩
  simp only [List.length_append, tabB, List.length_map, List.length_range]
  omega
 ·intro a ha b hb
  obtain ⟨q1, q2⟩ := hNin a ha
  obtain ⟨q3, q4⟩ := hMin b hb
  refine ⟨q3, ?_⟩
  rw [show a = ((a.toNat : Nat) : Int) from by omega, row_tab (by omega) R]
  omega
theorem w24_ok (hN : OkPl F N) (hM : OkPl G M) {i k : Nat} (hi : i < N.length) (hk : k < M.length) (oi : OpIn N[i]) (ok : OpIn M[k]) :
  W 24 [.lst 63 (tabB F N G M N.length), vN N[i], vN M[k]] = some (stateB F N G M (i : Int) (k : Int), ()) := by
 refine (w24 _ _ _).trans ?_
 unfold t24 stateB stateN
 rw [E0_C]
 obtain ⟨hNi, hNin⟩ := hN.nodes i hi
 obtain ⟨hMk, hMin⟩ := hM.nodes k hk
 rw [rd43_get hi, rd43_get hk]
 have hl := hN.len
 refine Ok.eq (Ok.bind ⟨_, w51_ok _ oi, rfl⟩ ?_)
 rintro r rfl
 refine Ok.bind ⟨_, w51_ok _ ok, rfl⟩ ?_
 rintro r rfl
 refine Ok.bind ⟨_, (w28 N[i]).trans (show t28 E0 N[i] = some (operB N[i], ()) from rfl), rfl⟩ ?_
 rintro r rfl
 dsimp only
 generalize h1 : (bif operB N[i] then (N[i].f0 == M[k].f0) else false) = c1
 refine Ok.bind (Q := fun r => (bif c1 then r.1 else false) = (bif c1 then intsB N[i].f8 M[k].f8 else false)) ?_ ?_
 ·cases c1 with
  | false => exact ⟨_, rfl, rfl⟩
  | true => exact ⟨_, w52_ok _ _ hNi.l8, rfl⟩
 rintro ⟨(b : Bool), u⟩ hb
 dsimp only at hb ⊢
 rw [hb]
 generalize h2 : (bif c1 then intsB N[i].f8 M[k].f8 else false) = c2
 refine Ok.bind (Q := fun r => (bif c2 then r.1 else false) = (bif c2 then intsB N[i].f9 M[k].f9 else false)) ?_ ?_
 ·cases c2 with
  | false => exact ⟨_, rfl, rfl⟩
  | true => exact ⟨_, w52_ok _ _ hNi.l9, rfl⟩
 rintro ⟨(b' : Bool), u'⟩ hb'
 dsimp only at hb' ⊢
 rw [hb']
 generalize h3 : (bif (bif c2 then intsB N[i].f9 M[k].f9 else false) then ((ownB N[i]).1 == (ownB M[k]).1) else false) = c3
 cases c3 with
 | false =>
  exact Ok.bind (Q := fun _ => True) ⟨_, rfl, trivial⟩ fun r _ => Ok.pure rfl
 | true =>
  have := w50_tab hN hM (n := N.length) hi (by omega) hk [] (by simp; omega)
  rw [List.append_nil] at this
  refine Ok.bind ⟨_, this, rfl⟩ ?_
  rintro r rfl
  exact Ok.pure rfl
theorem set_row (f : Nat → Bool) (m k : Nat) (hk : k < m) : ((List.range k).map f ++ List.replicate (m - k) false).set k (f k) = (List.range (k + 1)).map f ++ List.replicate (m - (k + 1)) false := by
 rw [List.set_append, if_neg (by simp)]
 simp only [List.length_map, List.length_range, Nat.sub_self]
 rw [show m - k = (m - (k + 1)) + 1 from by omega, List.replicate_succ, List.set_cons_zero, List.range_succ, List.map_append]
 simp
theorem w23_ok (hN : OkPl F N) (hM : OkPl G M) : W 23 [vP F N, vP G M] = some (tabB F N G M N.length, ()) := by
 refine (w23 ⟨F, N⟩ ⟨G, M⟩).trans ?_
 unfold t23
 rw [E0_C, E0_lp]
 have hl := hN.len
 have hm := hM.len
 refine Ok.eq (Ok.after (Ok.range N.length (fun i v => ∃ z, v = (((i : Int), ()), ((F, N, ()), (G, M, ()), z, tabB F N G M i, ()))) ?_ ?_ _ ⟨_, rfl⟩))
 ·rintro i v hi ⟨z, rfl⟩
  dsimp only
  have htl : (tabB F N G M i).length = i := by unfold tabB; simp
  simp only [ltb hi, cond_true, nnb, Bool.true_and, Int.toNat_natCast, htl, List.append_nil]
  rw [room (by omega), cond_true, room (by first | (simp; done) | (simp; omega)), cond_true]
  refine Ok.after (Ok.range M.length (fun k v => v = (((i : Int), (k : Int), ()), ((F, N, ()), (G, M, ()), z, tabB F N G M i, (List.range k).map (fun k : Nat => sameB F N G M (i : Int) (k : Int)) ++ List.replicate (M.length - k) false, ()))) ?_ ?_ _ (by simp))
  ·rintro k v hk rfl
   dsimp only
   have hrl : ((List.range k).map (fun k : Nat => sameB F N G M (i : Int) (k : Int)) ++ List.replicate (M.length - k) false).length = M.length := by simp; omega
   simp only [ltb hi, ltb hk, cond_true, nnb, Bool.true_and, htl, hrl, rd43_get hi, rd43_get hk, beq_self_eq_true, impT]
   obtain ⟨hNi, hNin⟩ := hN.nodes i hi
   obtain ⟨hMk, hMin⟩ := hM.nodes k hk
   refine Ok.bind ⟨_, w49_ok hN.funcs hM.funcs hNi hMk, rfl⟩ ?_
   rintro r rfl
   dsimp only
   have hS := sameB_eq (G := G) (M := M) hN hi (k : Int)
   rw [rd43_get hi, rd43_get hk] at hS
   refine Ok.bind (Q := fun r => (bif fieldsB F G N[i] M[k] then r.1 else false) = sameB F N G M (i : Int) (k : Int)) ?_ ?_
   ·cases hf : fieldsB F G N[i] M[k] with
    | false => exact ⟨_, rfl, by rw [hS, hf]; rfl⟩
    | true => exact ⟨_, w50_tab hN hM hi (Nat.le_refl _) hk _ (by simp <;> omega), by rw [hS, hf, cond_true]; try rfl⟩
   intro r hr
   rw [hr]
   simp only [wrapK_succ hk (by omega), Int.toNat_natCast]
   refine Ok.pure ?_
   rw [set_row (fun k : Nat => sameB F N G M (i : Int) (k : Int)) M.length k hk]
  ·rintro v rfl
   dsimp only
   rw [geb (Nat.le_refl _), cond_false]
   refine Ok.pure ?_
   dsimp only
   simp only [wrapK_succ hi (by omega)]
   refine Ok.pure ⟨z, ?_⟩
   rw [Nat.sub_self, List.replicate_zero, List.append_nil]
   rw [show tabB F N G M (i + 1) = tabB F N G M i ++ [rowB F N G M i] from range_succ_map _ i]
   rfl
 ·rintro v ⟨z, rfl⟩
  dsimp only
  rw [geb (Nat.le_refl _), cond_false]
  refine Ok.pure ?_
  exact Ok.pure rfl
end
end Go.Fw.S1
set_option linter.unusedVariables false
set_option maxHeartbeats 1000000
set_option maxRecDepth 100000
namespace Go.Fw.S1
open Go.Proofs
theorem impF (x : Bool) : impB x false = true := by cases x <;> rfl
theorem any_loop {V R : Type} (p : Nat → Bool) (n : Nat) {body : V → Option (Step V R)} (st : Nat → V → Prop) (Qo : V → Prop) (Qr : R → Prop)
  (hb : ∀ i v, i < n → st i v → Ok (body v) fun s => match s with
   | .again v' => p i = false ∧ st (i + 1) v'
   | .out _ => False
   | .ret r => p i = true ∧ Qr r)
  (he : ∀ v, st n v → Ok (body v) fun s => match s with
   | .again _ => False
   | .out v' => Qo v'
   | .ret _ => False) (v : V) (hv : st 0 v) : Ok (loopW V R body v) fun o => match o with
   | .out v => (List.range n).any p = false ∧ (∀ i, i < n → p i = false) ∧ Qo v
   | .ret r => (List.range n).any p = true ∧ Qr r := by
 refine Ok.range n (fun i v => st i v ∧ ∀ j, j < i → p j = false) ?_ ?_ v ⟨hv, fun j hj => by omega⟩
 ·rintro i v hi ⟨h1, h2⟩
  refine (hb i v hi h1).mono fun s hs => ?_
  cases s with
  | again v' =>
   refine ⟨hs.2, fun j hj => ?_⟩
   rcases Nat.lt_or_ge j i with hji | hji
   ·exact h2 j hji
   ·have : j = i := by omega
    subst this
    exact hs.1
  | out v' => exact hs.elim
  | ret r =>
   refine ⟨?_, hs.2⟩
   rw [List.any_eq_true]
   exact ⟨i, by simpa using hi, hs.1⟩
 ·rintro v ⟨h1, h2⟩
  refine (he v h1).mono fun s hs => ?_
  cases s with
  | again v' => exact hs
  | out v' =>
   refine ⟨?_, h2, hs⟩
   rw [List.any_eq_false]
   intro i hi
   rw [h2 i (by simpa using hi)]
   simp
  | ret r => exact hs.elim
def badB (n : Nat) (k : Nat) (x : Match) : Bool := (bif (bif (bif (bif (x.f1 != (k : Int)) then true else (decide (x.f2 < (0 : Int)))) then true else (decide ((3 : Int) ≤ x.f2))) then true else (bif (x.f2 == (2 : Int)) then (x.f0 != (-1 : Int)) else false)) then true else (bif (x.f2 != (2 : Int)) then (!(bif decide ((0 : Int) ≤ x.f0) then (decide (x.f0 < (n : Int))) else false)) else false))
theorem badB_no {n k : Nat} {x : Match} (h : badB n k x = false) : x.f1 = (k : Int) ∧ ((x.f2 = 2 ∧ x.f0 = -1) ∨ ((x.f2 = 0 ∨ x.f2 = 1) ∧ ∃ j : Nat, x.f0 = (j : Int) ∧ j < n)) := by
 unfold badB at h
 obtain ⟨h, h5⟩ := norb h
 obtain ⟨h, h4⟩ := norb h
 obtain ⟨h, h3⟩ := norb h
 obtain ⟨h1, h2⟩ := norb h
 refine ⟨eqz' h1, ?_⟩
 simp only [decide_eq_false_iff_not] at h2 h3
 by_cases hx : x.f2 = 2
 ·left
  refine ⟨hx, ?_⟩
  rw [hx] at h4
  exact eqz' h4
 ·right
  refine ⟨by omega, ?_⟩
  rw [show (x.f2 != (2 : Int)) = true from by simpa using hx, cond_true] at h5
  simp only [Bool.not_eq_false'] at h5
  obtain ⟨h6, h7⟩ := andb h5
  simp only [decide_eq_true_eq] at h6 h7
  exact ⟨x.f0.toNat, by omega, by omega⟩
theorem badB_ref (n k : Nat) (x : Match) : (bif (bif (bif (bif (x.f1 != (k : Int)) then true else (decide (x.f2 < (0 : Int)))) then true else (decide ((3 : Int) ≤ x.f2))) then true else (bif (x.f2 == (2 : Int)) then (x.f0 != (-1 : Int)) else false)) then true else (bif (x.f2 != (2 : Int)) then (bif decide (x.f0 < (0 : Int)) then true else (decide ((n : Int) ≤ x.f0))) else false)) = badB n k x := by
 unfold badB
 have h1 : decide ((0 : Int) ≤ x.f0) = !(decide (x.f0 < (0 : Int))) := by
  by_cases h : x.f0 < 0
  ·rw [show decide (x.f0 < 0) = true from by simpa using h]; simp; omega
  ·rw [show decide (x.f0 < 0) = false from by simpa using h]; simp; omega
 have h2 : decide (x.f0 < (n : Int)) = !(decide ((n : Int) ≤ x.f0)) := by
  by_cases h : (n : Int) ≤ x.f0
  ·rw [show decide ((n : Int) ≤ x.f0) = true from by simpa using h]; simp; omega
  ·rw [show decide ((n : Int) ≤ x.f0) = false from by simpa using h]; simp; omega
 rw [h1, h2]
 cases decide (x.f0 < (0 : Int)) <;> cases decide ((n : Int) ≤ x.f0) <;> rfl
section
variable (F : List Go.Fw.S1.Func) (N : List Node) (G : List Go.Fw.S1.Func) (M : List Node)
noncomputable def wrongB (k : Nat) (x : Match) : Bool := bif (x.f2 == (0 : Int)) then !(sameB F N G M x.f0 (k : Int)) else (bif (x.f2 == (1 : Int)) then !(stateB F N G M x.f0 (k : Int)) else false)
noncomputable def checkV (l : List Match) : Int := bif ((l.length : Int) != (M.length : Int)) then 2 else bif (List.range l.length).any (fun k => badB N.length k (rd52 l (k : Int))) then 2 else bif (List.range l.length).any (fun k => wrongB F N G M k (rd52 l (k : Int))) then 26 else 0
end
section
variable {F : List Go.Fw.S1.Func} {N : List Node} {G : List Go.Fw.S1.Func} {M : List Node}
theorem w9_eq (hN : OkPl F N) (hM : OkPl G M) (oN : ∀ (i : Nat) (h : i < N.length), OpIn N[i]) (oM : ∀ (i : Nat) (h : i < M.length), OpIn M[i]) (l : List Match) :
  W 9 [vP F N, vP G M, .lst 52 l] = (some (checkV F N G M l, ()) : Option (Int × Unit)) := by
 have hM2 := hM.len
 refine (w9 ⟨F, N⟩ ⟨G, M⟩ l).trans ?_
 unfold t9 checkV
 rw [E0_C, E0_lp]
 refine Ok.eq (Ok.bif (fun h => ?_) (fun h => ?_))
 ·rw [h]; exact Ok.pure rfl
 rw [h, cond_false]
 have hlen : l.length = M.length := len_eq h
 refine Ok.after ((any_loop (fun k => badB N.length k (rd52 l (k : Int))) l.length (fun i v => ∃ z1 z2 z3 z4 z5 z6, v = ((l, z1, z2, z3, z4, z5, z6, l, (l.length : Int), (i : Int), ()), ((F, N, ()), (G, M, ()), ()))) (fun v => ∃ z1 z2 z3 z4 z5 z6 z7, v = ((l, z1, z2, z3, z4, z5, z6, l, (l.length : Int), z7, ()), ((F, N, ()), (G, M, ()), ()))) (fun r => r = ((2 : Int), ())) ?_ ?_ _ ⟨_, _, _, _, _, _, rfl⟩).mono ?_)
 ·rintro i v hi ⟨z1, z2, z3, z4, z5, z6, rfl⟩
  dsimp only
  simp only [ltb hi, nnb, Bool.and_true, cond_true]
  refine Ok.bif (fun h => ⟨_, rfl, h, rfl⟩) (fun h => ?_)
  simp only [wrapK_succ hi (by omega)]
  exact Ok.pure ⟨h, _, _, _, _, _, _, rfl⟩
 ·rintro v ⟨z1, z2, z3, z4, z5, z6, rfl⟩
  dsimp only
  rw [geb (Nat.le_refl _), cond_false]
  exact Ok.pure ⟨_, _, _, _, _, _, _, rfl⟩
 intro o ho
 cases o with
 | ret r => rw [ho.1]; exact ho.2
 | out v =>
  obtain ⟨ho1, hbad, z1, z2, z3, z4, z5, z6, z7, rfl⟩ := ho
  rw [ho1, cond_false]
  dsimp only
  refine Ok.after ((any_loop (fun k => wrongB F N G M k (rd52 l (k : Int))) l.length (fun i v => ∃ z1 z2 z3 z4 z5 z6 z7 z8 z9 z10, ∃ m : Memo, Right F N G M m ∧ v = ((z1, z2, z3, z4, z5, z6, z7, z8, z9, z10, l, (l.length : Int), (i : Int), ()), ((F, N, ()), (G, M, ()), m, (F, N, G, M, ()), ()))) (fun v => True) (fun r => r = ((26 : Int), ())) ?_ ?_ _ ⟨_, _, _, _, _, _, _, _, _, _, [], (fun i k b h => by cases h), rfl⟩).mono ?_)
  ·rintro i v hi ⟨z1, z2, z3, z4, z5, z6, z7, z8, z9, z10, m, hm, rfl⟩
   dsimp only
   simp only [ltb hi, nnb, Bool.and_true, cond_true]
   generalize hx : rd52 l (i : Int) = x
   have hb := hbad i hi
   rw [hx] at hb
   obtain ⟨_, ⟨q1, q2⟩ | ⟨q1 | q1, j, q2, hj⟩⟩ := badB_no hb
   ·have e0 : (x.f2 == (0 : Int)) = false := by rw [q1]; rfl
    have e1 : (x.f2 == (1 : Int)) = false := by rw [q1]; rfl
    simp only [e0, e1, cond_false, Bool.and_false]
    refine Ok.bind (Q := fun _ => True) ⟨_, rfl, trivial⟩ fun r _ => ?_
    refine Ok.bind (Q := fun _ => True) ⟨_, rfl, trivial⟩ fun r _ => ?_
    simp only [wrapK_succ hi (by omega)]
    exact Ok.pure ⟨by unfold wrongB; rw [e0, e1]; rfl, _, _, _, _, _, _, _, _, _, _, m, hm, rfl⟩
   ·have e0 : (x.f2 == (0 : Int)) = true := by rw [q1]; rfl
    have e1 : (x.f2 == (1 : Int)) = false := by rw [q1]; rfl
    simp only [e0, e1, cond_true, Bool.and_false, q2]
    refine Ok.bind (w50021_ok hN hM j hj i m (by omega) hm) ?_
    rintro ⟨(b : Bool), (m' : Memo), u⟩ ⟨hb, hm'⟩
    dsimp only at hb hm' ⊢
    refine Ok.bind (Q := fun _ => True) ⟨_, rfl, trivial⟩ fun r _ => ?_
    have hw : wrongB F N G M i x = !b := by unfold wrongB; rw [e0, cond_true, hb, q2]
    simp only [hw, cond_false]
    cases b with
    | false => exact ⟨_, rfl, rfl, rfl⟩
    | true =>
     simp only [wrapK_succ hi (by omega)]
     exact Ok.pure ⟨rfl, _, _, _, _, _, _, _, _, _, _, m', hm', rfl⟩
   ·have e0 : (x.f2 == (0 : Int)) = false := by rw [q1]; rfl
    have e1 : (x.f2 == (1 : Int)) = true := by rw [q1]; rfl
    simp only [e0, e1, cond_true, cond_false, Bool.not_false, Bool.and_true, q2]
    refine Ok.bind (Q := fun _ => True) ⟨_, rfl, trivial⟩ fun r _ => ?_
    refine Ok.bind (w50022_ok hN hM hj (by omega) (oN j hj) (oM i (by omega)) m hm) ?_
    rintro ⟨(b : Bool), (m' : Memo), u⟩ ⟨hb, hm'⟩
    dsimp only at hb hm' ⊢
    have hw : wrongB F N G M i x = !b := by unfold wrongB; rw [e0, e1, cond_false, cond_true, hb, q2]
    simp only [hw]
    cases b with
    | false => exact ⟨_, rfl, rfl, rfl⟩
    | true =>
     simp only [wrapK_succ hi (by omega)]
     exact Ok.pure ⟨rfl, _, _, _, _, _, _, _, _, _, _, m', hm', rfl⟩
  ·rintro v ⟨z1, z2, z3, z4, z5, z6, z7, z8, z9, z10, m, hm, rfl⟩
   dsimp only
   rw [geb (Nat.le_refl _), cond_false]
   exact Ok.pure trivial
  ·intro o ho
   cases o with
   | ret r => rw [ho.1]; exact ho.2
   | out v => rw [ho.1]; exact Ok.pure rfl
theorem w10_eq (hN : OkPl F N) (hM : OkPl G M) (oN : ∀ (i : Nat) (h : i < N.length), OpIn N[i]) (oM : ∀ (i : Nat) (h : i < M.length), OpIn M[i]) (l : List Match) :
  W 10 [vP F N, vP G M, .lst 52 l] = (some (checkV F N G M l, ()) : Option (Int × Unit)) := by
 have hM2 := hM.len
 refine (w10 ⟨F, N⟩ ⟨G, M⟩ l).trans ?_
 unfold t10 checkV
 rw [E0_C, E0_lp]
 refine Ok.eq (Ok.bif (fun h => ?_) (fun h => ?_))
 ·rw [h]; exact Ok.pure rfl
 rw [h, cond_false]
 have hlen : l.length = M.length := len_eq h
 refine Ok.after ((any_loop (fun k => badB N.length k (rd52 l (k : Int))) l.length (fun i v => ∃ z1, v = ((l, z1, (i : Int), ()), ((F, N, ()), (G, M, ()), ()))) (fun v => ∃ z1 z7, v = ((l, z1, z7, ()), ((F, N, ()), (G, M, ()), ()))) (fun r => r = ((2 : Int), ())) ?_ ?_ _ ⟨_, rfl⟩).mono ?_)
 ·rintro i v hi ⟨z1, rfl⟩
  dsimp only
  simp only [ltb hi, nnb, Bool.and_true, cond_true, badB_ref]
  refine Ok.bif (fun h => ⟨_, rfl, h, rfl⟩) (fun h => ?_)
  simp only [wrapK_succ hi (by omega)]
  exact Ok.pure ⟨h, _, rfl⟩
 ·rintro v ⟨z1, rfl⟩
  dsimp only
  rw [geb (Nat.le_refl _), cond_false]
  exact Ok.pure ⟨_, _, rfl⟩
 intro o ho
 cases o with
 | ret r => rw [ho.1]; exact ho.2
 | out v =>
  obtain ⟨ho1, hbad, z1, z7, rfl⟩ := ho
  rw [ho1, cond_false]
  dsimp only
  refine Ok.bind ⟨_, w23_ok hN hM, rfl⟩ ?_
  rintro r rfl
  dsimp only
  have htl : (tabB F N G M N.length).length = N.length := by unfold tabB; simp
  refine Ok.after ((any_loop (fun k => wrongB F N G M k (rd52 l (k : Int))) l.length (fun i v => ∃ z1 z2, v = ((l, z1, z2, (i : Int), ()), ((F, N, ()), (G, M, ()), tabB F N G M N.length, ()))) (fun v => True) (fun r => r = ((26 : Int), ())) ?_ ?_ _ ⟨_, _, rfl⟩).mono ?_)
  ·rintro i v hi ⟨z1, z2, rfl⟩
   dsimp only
   have hiM : i < M.length := by omega
   simp only [ltb hi, ltb hiM, nnb, Bool.and_true, cond_true, htl, impT]
   generalize hx : rd52 l (i : Int) = x
   have hb := hbad i hi
   rw [hx] at hb
   have jn : ∀ j : Nat, (bif decide ((0 : Int) < (j : Int)) then (j : Int) else (0 : Int)) = (j : Int) := fun j => by
    cases j with
    | zero => rfl
    | succ j => rw [show decide ((0 : Int) < ((j + 1 : Nat) : Int)) = true from decide_eq_true (by omega)]; rfl
   have hrow : ∀ j, j < N.length → (rd63 (tabB F N G M N.length) (j : Int)).length = M.length := fun j hj => by
    have := row_tab (F := F) (N := N) (G := G) (M := M) hj []
    rwa [List.append_nil] at this
   have hcell : ∀ j, j < N.length → rd4 (rd63 (tabB F N G M N.length) (j : Int)) (i : Int) = sameB F N G M (j : Int) (i : Int) := fun j hj => by
    have := atT_tab (F := F) (N := N) (G := G) (M := M) hj hiM []
    rwa [List.append_nil] at this
   obtain ⟨_, ⟨q1, q2⟩ | ⟨q1 | q1, j, q2, hj⟩⟩ := badB_no hb
   ·have e0 : (x.f2 == (0 : Int)) = false := by rw [q1]; rfl
    have e1 : (x.f2 == (1 : Int)) = false := by rw [q1]; rfl
    simp only [e0, e1, cond_false, cond_true, impF]
    refine Ok.bind (Q := fun _ => True) ⟨_, rfl, trivial⟩ fun r _ => ?_
    simp only [wrapK_succ hi (by omega)]
    exact Ok.pure ⟨by unfold wrongB; rw [e0, e1]; rfl, _, _, rfl⟩
   ·have e0 : (x.f2 == (0 : Int)) = true := by rw [q1]; rfl
    have e1 : (x.f2 == (1 : Int)) = false := by rw [q1]; rfl
    simp only [e0, e1, cond_true, cond_false, q2, jn, ltb hj, nnb, Bool.and_true, hrow j hj, ltb hiM, impT, impF, hcell j hj]
    have hw : wrongB F N G M i x = !(sameB F N G M (j : Int) (i : Int)) := by unfold wrongB; rw [e0, cond_true, q2]
    simp only [hw]
    cases sameB F N G M (j : Int) (i : Int) with
    | false => exact ⟨_, rfl, rfl, rfl⟩
    | true =>
     simp only [Bool.not_true, cond_false]
     refine Ok.bind (Q := fun _ => True) ⟨_, rfl, trivial⟩ fun r _ => ?_
     simp only [wrapK_succ hi (by omega)]
     exact Ok.pure ⟨by first | rfl | trivial, _, _, rfl⟩
   ·have e0 : (x.f2 == (0 : Int)) = false := by rw [q1]; rfl
    have e1 : (x.f2 == (1 : Int)) = true := by rw [q1]; rfl
    simp only [e0, e1, cond_true, cond_false, q2, jn, ltb hj, nnb, Bool.and_true, impT, impF, rd43_get hj, rd43_get hiM]
    refine Ok.bind ⟨_, w24_ok hN hM hj hiM (oN j hj) (oM i hiM), rfl⟩ ?_
    rintro r rfl
    dsimp only
    have hw : wrongB F N G M i x = !(stateB F N G M (j : Int) (i : Int)) := by unfold wrongB; rw [e0, e1, cond_false, cond_true, q2]
    simp only [hw]
    cases stateB F N G M (j : Int) (i : Int) with
    | false => exact ⟨_, rfl, rfl, rfl⟩
    | true =>
     simp only [wrapK_succ hi (by omega)]
     exact Ok.pure ⟨rfl, _, _, rfl⟩
  ·rintro v ⟨z1, z2, rfl⟩
   dsimp only
   rw [geb (Nat.le_refl _), cond_false]
   exact Ok.pure trivial
  ·intro o ho
   cases o with
   | ret r => rw [ho.1]; exact ho.2
   | out v => rw [ho.1]; exact Ok.pure rfl
theorem take_any {α : Type} (p : α → Bool) (l : List α) (i : Nat) (h : i < l.length) : (l.take (i + 1)).any p = ((l.take i).any p || p l[i]) := by
 rw [take_succ h, List.any_append]; simp
noncomputable def freshP (N : List Node) (l : List Match) (k : Nat) : Bool := operB (rd43 N (k : Int)) && !(l.any (keepB (k : Int)))
noncomputable def freshL (N : List Node) (l : List Match) (i : Nat) : List Int := ((List.range i).filter (freshP N l)).map fun k : Nat => (k : Int)
theorem freshL_succ (N : List Node) (l : List Match) (i : Nat) : freshL N l (i + 1) = bif freshP N l i then freshL N l i ++ [(i : Int)] else freshL N l i := by
 unfold freshL
 rw [List.range_succ, List.filter_append, List.map_append]
 cases h : freshP N l i <;> simp [h]
theorem freshL_len (N : List Node) (l : List Match) (i : Nat) : (freshL N l i).length ≤ i := by
 induction i with
 | zero => simp [freshL]
 | succ i ih =>
  rw [freshL_succ]
  cases freshP N l i with
  | true => simp; omega
  | false => simp only [cond_false]; omega
theorem w11_eq (F : List Go.Fw.S1.Func) (N : List Node) (hN : N.length ≤ 2097152) (l : List Match) (hl : l.length ≤ 2097152) :
  W 11 [vP F N, .lst 52 l] = (some (freshL N l N.length, ()) : Option (List Int × Unit)) := by
 refine (w11 ⟨F, N⟩ l).trans ?_
 unfold t11
 rw [E0_C, E0_lp]
 refine Ok.eq (Ok.after (Ok.range N.length (fun i v => ∃ z1, v = ((l, N, (N.length : Int), (i : Int), ()), ((F, N, ()), z1, freshL N l i, ()))) ?_ ?_ _ ⟨_, rfl⟩))
 ·rintro i v hi ⟨z1, rfl⟩
  dsimp only
  simp only [ltb hi, nnb, Bool.and_true, cond_true]
  have h21 : Ok (W 2750025 [.lst 52 l, .clo 26 [] [.ptr 9 0 0], .agg [.int .i64 (i : Int)]]) fun r => r.1 = l.any (keepB (i : Int)) := by
   rw [w2750025 l (i : Int)]
   unfold t2750025
   rw [E0_C]
   refine Ok.bind (w2750053_ok l hl (i : Int)) ?_
   intro r hr
   exact Ok.pure hr
  refine Ok.bind h21 ?_
  rintro ⟨(b : Bool), u⟩ hb
  dsimp only at hb ⊢
  refine Ok.bind ⟨_, (w27 (rd43 N (i : Int))).trans (show t27 E0 (rd43 N (i : Int)) = some (operB (rd43 N (i : Int)), ()) from rfl), rfl⟩ ?_
  rintro r rfl
  dsimp only
  have hp : (bif operB (rd43 N (i : Int)) then (!b) else false) = freshP N l i := by unfold freshP; rw [hb, cnd_and]
  rw [hp]
  have hfl := freshL_len N l i
  have hs := freshL_succ N l i
  refine Ok.bif (fun h => ?_) (fun h => ?_)
  ·rw [h, cond_true] at hs
   rw [room (by simp only [List.length_singleton]; omega), cond_true]
   simp only [wrapK_succ hi (by omega)]
   rw [← hs]
   exact Ok.pure ⟨_, rfl⟩
  ·rw [h, cond_false] at hs
   simp only [wrapK_succ hi (by omega)]
   rw [← hs]
   exact Ok.pure ⟨_, rfl⟩
 ·rintro v ⟨z1, rfl⟩
  dsimp only
  rw [geb (Nat.le_refl _), cond_false]
  refine Ok.pure ?_
  exact Ok.pure rfl
theorem w12_eq (F : List Go.Fw.S1.Func) (N : List Node) (hN : N.length ≤ 2097152) (l : List Match) (hl : l.length ≤ 2097152) :
  W 12 [vP F N, .lst 52 l] = (some (freshL N l N.length, ()) : Option (List Int × Unit)) := by
 refine (w12 ⟨F, N⟩ l).trans ?_
 unfold t12
 rw [E0_C, E0_lp]
 refine Ok.eq (Ok.after (Ok.range N.length (fun i v => ∃ z1, v = ((l, (i : Int), ()), ((F, N, ()), z1, freshL N l i, ()))) ?_ ?_ _ ⟨_, rfl⟩))
 ·rintro i v hi ⟨z1, rfl⟩
  dsimp only
  simp only [ltb hi, cond_true]
  refine Ok.after (Ok.range l.length (fun j v => v = ((l, (i : Int), (l.take j).any (keepB (i : Int)), (j : Int), ()), ((F, N, ()), z1, freshL N l i, ()))) ?_ ?_ _ rfl)
  ·rintro j v hj rfl
   dsimp only
   simp only [ltb hj, nnb, Bool.and_true, cond_true, impT, rd52_get hj]
   simp only [wrapK_succ hj (by omega)]
   refine Ok.pure ?_
   rw [take_any _ _ _ hj]
   unfold keepB
   cases (l.take j).any (fun x => bif x.f1 == (i : Int) then x.f2 != 2 else false) <;> rfl
  ·rintro v rfl
   dsimp only
   rw [geb (Nat.le_refl _), cond_false]
   refine Ok.pure ?_
   dsimp only
   simp only [ltb hi, nnb, Bool.and_true, cond_true]
   refine Ok.bind ⟨_, (w28 (rd43 N (i : Int))).trans (show t28 E0 (rd43 N (i : Int)) = some (operB (rd43 N (i : Int)), ()) from rfl), rfl⟩ ?_
   rintro r rfl
   dsimp only
   rw [List.take_length]
   have hp : (bif operB (rd43 N (i : Int)) then (!(l.any (keepB (i : Int)))) else false) = freshP N l i := by unfold freshP; rw [cnd_and]
   rw [hp]
   have hfl := freshL_len N l i
   have hs := freshL_succ N l i
   refine Ok.bif (fun h => ?_) (fun h => ?_)
   ·rw [h, cond_true] at hs
    rw [room (by simp only [List.length_singleton]; omega), cond_true]
    simp only [wrapK_succ hi (by omega)]
    rw [← hs]
    exact Ok.pure ⟨_, rfl⟩
   ·rw [h, cond_false] at hs
    simp only [wrapK_succ hi (by omega)]
    rw [← hs]
    exact Ok.pure ⟨_, rfl⟩
 ·rintro v ⟨z1, rfl⟩
  dsimp only
  rw [geb (Nat.le_refl _), cond_false]
  refine Ok.pure ?_
  exact Ok.pure rfl
end
end Go.Fw.S1
set_option linter.unusedVariables false
set_option maxHeartbeats 1000000
set_option maxRecDepth 100000
namespace Go.Fw.S1
open Go.Proofs
theorem wrapK_pred {j n : Nat} (h : j < n) (hn : n ≤ 4611686018427387904) : wrapK .i64 ((n : Int) - 1 - (j : Int) - (1 : Int)) = (n : Int) - 1 - ((j + 1 : Nat) : Int) := by
 rw [wrapK_id (by omega) (by omega)]; omega
def dn (f : Nat → Bool) (n : Nat) (w : Int) (x0 : Int × Int) : Nat → Int × Int
 | 0 => x0
 | j + 1 => bif f (n - 1 - j) then (((n - 1 - j : Nat) : Int), w) else dn f n w x0 j
theorem dn_spec (f : Nat → Bool) (n : Nat) (w : Int) (x0 : Int × Int) : ∀ j, j ≤ n → (∃ i : Nat, n - j ≤ i ∧ i < n ∧ f i = true ∧ (∀ i', n - j ≤ i' → i' < i → f i' = false) ∧ dn f n w x0 j = ((i : Int), w)) ∨ ((∀ i, n - j ≤ i → i < n → f i = false) ∧ dn f n w x0 j = x0) := by
 intro j
 induction j with
 | zero => intro _; exact .inr ⟨fun i h1 h2 => by omega, rfl⟩
 | succ j ih =>
  intro hj
  cases hf : f (n - 1 - j) with
  | true =>
   refine .inl ⟨n - 1 - j, by omega, by omega, hf, fun i' h1 h2 => by omega, ?_⟩
   simp only [dn, hf, cond_true]
  | false =>
   rcases ih (by omega) with ⟨i, h1, h2, h3, h4, h5⟩ | ⟨h1, h2⟩
   ·refine .inl ⟨i, by omega, h2, h3, fun i' q1 q2 => ?_, ?_⟩
    ·by_cases hi : i' = n - 1 - j
     ·rw [hi]; exact hf
     ·exact h4 i' (by omega) q2
    ·simp only [dn, hf, cond_false]; exact h5
   ·refine .inr ⟨fun i q1 q2 => ?_, ?_⟩
    ·by_cases hi : i = n - 1 - j
     ·rw [hi]; exact hf
     ·exact h1 i (by omega) q2
    ·simp only [dn, hf, cond_false]; exact h2
theorem dn_least (g : Int → Bool) (n : Nat) (w : Int) (x0 : Int × Int) : dn (fun i : Nat => g (i : Int)) n w x0 n = if leastN g n < 0 then x0 else (leastN g n, w) := by
 rcases dn_spec (fun i : Nat => g (i : Int)) n w x0 n (Nat.le_refl _) with ⟨i, _, h2, h3, h4, h5⟩ | ⟨h1, h2⟩
 ·rw [h5, leastN_some h2 h3 fun j hj => h4 j (by omega) hj, if_neg (by omega)]
 ·rw [h2, leastN_none fun j hj => h1 j (by omega) hj, if_pos (by omega)]
section
variable {F : List Go.Fw.S1.Func} {N : List Node} {G : List Go.Fw.S1.Func} {M : List Node}
theorem w8_eq (hN : OkPl F N) (hM : OkPl G M) (oN : ∀ (i : Nat) (h : i < N.length), OpIn N[i]) (oM : ∀ (i : Nat) (h : i < M.length), OpIn M[i]) :
  W 8 [vP F N, vP G M] = (some ((List.range M.length).map (matchB F N G M), ()) : Option (List Match × Unit)) := by
 refine (w8 ⟨F, N⟩ ⟨G, M⟩).trans ?_
 unfold t8
 rw [E0_C, E0_lp]
 have hl := hN.len
 have hm := hM.len
 have htl : (tabB F N G M N.length).length = N.length := by unfold tabB; simp
 refine Ok.eq (Ok.bind ⟨_, w23_ok hN hM, rfl⟩ ?_)
 rintro r rfl
 refine Ok.after (Ok.range M.length (fun k v => ∃ z, v = (((k : Int), ()), ((F, N, ()), (G, M, ()), z, (List.range k).map (matchB F N G M), tabB F N G M N.length, ()))) ?_ ?_ _ ⟨_, rfl⟩)
 ·rintro k v hk ⟨z, rfl⟩
  dsimp only
  simp only [ltb hk, cond_true]
  have hrow : ∀ j, j < N.length → (rd63 (tabB F N G M N.length) (j : Int)).length = M.length := fun j hj => by
   have := row_tab (F := F) (N := N) (G := G) (M := M) hj []
   rwa [List.append_nil] at this
  have hcell : ∀ j, j < N.length → rd4 (rd63 (tabB F N G M N.length) (j : Int)) (k : Int) = sameB F N G M (j : Int) (k : Int) := fun j hj => by
   have := atT_tab (F := F) (N := N) (G := G) (M := M) hj hk []
   rwa [List.append_nil] at this
  refine Ok.after (Ok.range N.length (fun j v => v = (((k : Int), (N.length : Int) - 1 - (j : Int), ()), ((F, N, ()), (G, M, ()), z, (List.range k).map (matchB F N G M), ((dn (fun i : Nat => stateB F N G M (i : Int) (k : Int)) N.length 1 (-1, 2) j).1, (k : Int), (dn (fun i : Nat => stateB F N G M (i : Int) (k : Int)) N.length 1 (-1, 2) j).2, ()), tabB F N G M N.length, ()))) ?_ ?_ _ (by rw [wrapK_id (by omega) (by omega)]; simp [dn]))
  ·rintro j v hj rfl
   dsimp only
   have hij : (N.length : Int) - 1 - (j : Int) = ((N.length - 1 - j : Nat) : Int) := by omega
   have hlt : N.length - 1 - j < N.length := by omega
   simp only [wrapK_pred hj (by omega)]
   rw [hij]
   simp only [nnb, ltb hlt, ltb hk, Bool.and_true, cond_true, rd43_get hlt, rd43_get hk]
   refine Ok.bind ⟨_, w24_ok hN hM hlt hk (oN _ hlt) (oM k hk), rfl⟩ ?_
   rintro r rfl
   dsimp only
   refine Ok.bif (fun h => ?_) (fun h => ?_)
   ·refine Ok.pure ?_
    simp only [dn, h, cond_true]
   ·refine Ok.pure ?_
    simp only [dn, h, cond_false]
  ·rintro v rfl
   dsimp only
   rw [show decide ((0 : Int) ≤ (N.length : Int) - 1 - (N.length : Int)) = false from decide_eq_false (by omega), cond_false]
   refine Ok.pure ?_
   dsimp only
   refine Ok.after (Ok.range N.length (fun j v => ∃ z1, v = (((k : Int), z1, (N.length : Int) - 1 - (j : Int), ()), ((F, N, ()), (G, M, ()), z, (List.range k).map (matchB F N G M), ((dn (fun i : Nat => sameB F N G M (i : Int) (k : Int)) N.length 0 (dn (fun i : Nat => stateB F N G M (i : Int) (k : Int)) N.length 1 (-1, 2) N.length) j).1, (k : Int), (dn (fun i : Nat => sameB F N G M (i : Int) (k : Int)) N.length 0 (dn (fun i : Nat => stateB F N G M (i : Int) (k : Int)) N.length 1 (-1, 2) N.length) j).2, ()), tabB F N G M N.length, ()))) ?_ ?_ _ ⟨_, by rw [wrapK_id (by omega) (by omega)]; simp [dn]; rfl⟩)
   ·rintro j v hj ⟨z1, rfl⟩
    dsimp only
    have hij : (N.length : Int) - 1 - (j : Int) = ((N.length - 1 - j : Nat) : Int) := by omega
    have hlt : N.length - 1 - j < N.length := by omega
    simp only [wrapK_pred hj (by omega)]
    rw [hij]
    simp only [nnb, ltb hlt, ltb hk, Bool.and_true, cond_true, htl, hrow _ hlt, hcell _ hlt]
    refine Ok.bif (fun h => ?_) (fun h => ?_)
    ·refine Ok.pure ⟨z1, ?_⟩
     simp only [dn, h, cond_true]
    ·refine Ok.pure ⟨z1, ?_⟩
     simp only [dn, h, cond_false]
   ·rintro v ⟨z1, rfl⟩
    dsimp only
    rw [show decide ((0 : Int) ≤ (N.length : Int) - 1 - (N.length : Int)) = false from decide_eq_false (by omega), cond_false]
    refine Ok.pure ?_
    dsimp only
    rw [room (by simp only [List.length_map, List.length_range, List.length_singleton]; omega), cond_true]
    simp only [wrapK_succ hk (by omega)]
    refine Ok.pure ⟨z, ?_⟩
    rw [range_succ_map]
    have hx : Match.mk (dn (fun i : Nat => sameB F N G M (i : Int) (k : Int)) N.length 0 (dn (fun i : Nat => stateB F N G M (i : Int) (k : Int)) N.length 1 (-1, 2) N.length) N.length).1 (k : Int) (dn (fun i : Nat => sameB F N G M (i : Int) (k : Int)) N.length 0 (dn (fun i : Nat => stateB F N G M (i : Int) (k : Int)) N.length 1 (-1, 2) N.length) N.length).2 = matchB F N G M k := by
     rw [dn_least (fun i => sameB F N G M i (k : Int)), dn_least (fun i => stateB F N G M i (k : Int))]
     unfold matchB
     by_cases h1 : leastN (fun i => sameB F N G M i (k : Int)) N.length < 0
     ·rw [if_pos h1, if_pos h1]
      by_cases h2 : leastN (fun i => stateB F N G M i (k : Int)) N.length < 0
      ·rw [if_pos h2, if_pos h2]
       rcases leastN_spec (fun i => stateB F N G M i (k : Int)) N.length with h | ⟨i, hi, h, hf⟩
       ·rw [h]
       ·rw [h] at h2; omega
      ·rw [if_neg h2, if_neg h2]
     ·rw [if_neg h1, if_neg h1]
    rw [hx]
 ·rintro v ⟨z, rfl⟩
  dsimp only
  rw [geb (Nat.le_refl _), cond_false]
  refine Ok.pure ?_
  exact Ok.pure rfl
end
end Go.Fw.S1
