import Derived.Test.YtmogfjfdbbggcaaGreatDoorPa
set_option linter.all false
set_option linter.unusedVariables false
set_option maxHeartbeats 1000000
set_option maxRecDepth 100000
namespace Go.Fw.S1
open Go.Proofs
def kindB (n : Int) : Bool := (bif decide ((0 : Int) ≤ n) then (decide (n < (3 : Int))) else false)
theorem w123_ok (n : Int) : W 123 [.int .i64 n] = some (kindB n, ()) := w123 n
def numI (op : Int) : Int := if 0 ≤ op ∧ op ≤ 5 then 0 else if op = 6 ∨ op = 7 ∨ op = 20 then 1 else if op = 21 then 3 else if op = 22 then -1 else if 5 < op ∧ op < 21 then 2 else -1
theorem w162_ok (op : Int) : W 162 [.int .i64 op] = (some (numI op, ()) : Option (Int × Unit)) := by
 refine (w162 op).trans ?_
 unfold t162
 by_cases h0 : op = 0; · subst h0; rfl
 by_cases h1 : op = 1; · subst h1; rfl
 by_cases h2 : op = 2; · subst h2; rfl
 by_cases h3 : op = 3; · subst h3; rfl
 by_cases h4 : op = 4; · subst h4; rfl
 by_cases h5 : op = 5; · subst h5; rfl
 by_cases h6 : op = 6; · subst h6; rfl
 by_cases h7 : op = 7; · subst h7; rfl
 by_cases h20 : op = 20; · subst h20; rfl
 by_cases h21 : op = 21; · subst h21; rfl
 by_cases h22 : op = 22; · subst h22; rfl
 have b : ∀ k : Int, op ≠ k → (op == k) = false := fun k h => by simpa using h
 rw [b 0 h0, b 1 h1, b 2 h2, b 3 h3, b 4 h4, b 5 h5, b 6 h6, b 7 h7, b 20 h20, b 21 h21, b 22 h22]
 simp only [cond_false]
 unfold numI
 rw [if_neg (by omega), if_neg (by omega), if_neg (by omega), if_neg (by omega)]
 by_cases hr : 5 < op ∧ op < 21
 ·rw [if_pos hr, show decide ((5 : Int) < op) = true from by simpa using hr.1, show decide (op < (21 : Int)) = true from by simpa using hr.2]; rfl
 ·rw [if_neg hr]
  by_cases h5' : 5 < op
  ·rw [show decide ((5 : Int) < op) = true from by simpa using h5', show decide (op < (21 : Int)) = false from by simp only [decide_eq_false_iff_not]; omega]; rfl
  ·rw [show decide ((5 : Int) < op) = false from by simpa using h5']; rfl
theorem rd3_opt {xs : List Int} {n x : Int} (h0 : 0 ≤ n) (h : xs[n.toNat]? = some x) : rd3 xs n = x := by
 obtain ⟨h1, h2⟩ := List.getElem?_eq_some_iff.1 h
 have := rd3_get h1
 rw [← h2, ← this]
 congr 1
 omega
theorem w163_ok (l : List Int) (n : Int) : Ok (W 163 [.lst 3 l, .int .i64 n]) fun _ => True := by
 rw [w163 l n]
 unfold t163
 rw [E0_C]
 refine Ok.bif (fun _ => Ok.pure trivial) (fun h => ?_)
 have hr : 0 ≤ n ∧ n < (l.length : Int) := by
  by_cases h1 : n < 0
  ·simp [h1] at h
  ·by_cases h2 : (l.length : Int) ≤ n
   ·simp [h1, h2] at h
   ·omega
 rw [show (decide ((0 : Int) ≤ n) && decide (n < (l.length : Int))) = true from by simp only [Bool.and_eq_true, decide_eq_true_eq]; exact hr]
 simp only [cond_true]
 exact Ok.bind ⟨_, w123_ok _, rfl⟩ fun r _ => Ok.pure trivial
theorem rd100_opt {xs : List Go.Fw.S1.Func} {n : Int} {x : Go.Fw.S1.Func} (h0 : 0 ≤ n) (h : xs[n.toNat]? = some x) : rd100 xs n = x := by
 obtain ⟨h1, h2⟩ := List.getElem?_eq_some_iff.1 h
 have := rd100_get h1
 rw [← h2, ← this]
 congr 1
 omega
theorem w161_ok (F : List Go.Fw.S1.Func) (n : Int) (l : List Int) (hl : l.length ≤ 2097152) : Ok (W 161 [.lst 100 F, .int .i64 n, .lst 3 l]) (fun (r : (Int × Bool) × Unit) => r.1.2 = true → 0 ≤ n ∧ n < (F.length : Int)) := by
 rw [w161 F n l]
 unfold t161
 rw [E0_lp]
 refine Ok.bif (fun _ => Ok.pure fun h => by cases h) (fun h => ?_)
 have hr : 0 ≤ n ∧ n < (F.length : Int) := by
  by_cases h1 : n < 0
  ·simp [h1] at h
  ·by_cases h2 : (F.length : Int) ≤ n
   ·simp [h1, h2] at h
   ·omega
 rw [show (decide ((0 : Int) ≤ n) && decide (n < (F.length : Int))) = true from by simp only [Bool.and_eq_true, decide_eq_true_eq]; exact hr]
 simp only [cond_true]
 refine Ok.bif (fun _ => Ok.pure fun h => by cases h) (fun hlen => ?_)
 generalize rd100 F n = f at hlen
 have hlen := len_eq hlen
 refine Ok.after (Ok.range l.length (fun i v => ∃ z1 z2, v = ((F, n, l, z1, z2, (i : Int), ()), ((f.f0, f.f1, f.f2, f.f3.f0, f.f3.f1, f.f3.f2, f.f3.f3, ()), ()))) ?_ ?_ _ ⟨_, _, rfl⟩)
 ·rintro i v hi ⟨z1, z2, rfl⟩
  dsimp only
  have hi2 : i < f.f1.length := by omega
  simp only [ltb hi, ltb hi2, nnb, Bool.and_true, cond_true]
  refine Ok.bif (fun _ => ⟨_, rfl, fun h => by cases h⟩) (fun _ => ?_)
  simp only [wrapK_succ hi (by omega)]
  exact Ok.pure ⟨_, _, rfl⟩
 ·rintro v ⟨z1, z2, rfl⟩
  dsimp only
  rw [geb (Nat.le_refl _), cond_false]
  refine Ok.pure ?_
  exact Ok.pure fun _ => hr
theorem callsL_snoc {n : Nat} {r : List Expr} {i : Nat} (hi : i < r.length) (h1 : callsL n (r.take i)) (h2 : calls n r[i]) : callsL n (r.take (i + 1)) := by
 rw [take_succ hi]
 have : ∀ (a b : List Expr), callsL n a → callsL n b → callsL n (a ++ b) := by
  intro a
  induction a with
  | nil => intro b _ h; exact h
  | cons x a ih => intro b h hb; exact ⟨h.1, ih b h.2 hb⟩
 exact this _ _ h1 ⟨h2, trivial⟩
theorem eqz {a b : Int} (h : (a == b) = true) : a = b := by simpa using h
theorem nez {a b : Int} (h : (a == b) = false) : a ≠ b := by simpa using h
theorem orb {a b : Bool} (h : (bif a then true else b) = true) : a = true ∨ b = true := by cases a <;> simp_all
theorem norb {a b : Bool} (h : (bif a then true else b) = false) : a = false ∧ b = false := by cases a <;> simp_all
theorem w145_ok (F : List Go.Fw.S1.Func) (cols params : List Int) : ∀ e : Expr, sz e ≤ 2097152 → Ok (W 145 [.lst 100 F, .lst 3 cols, .lst 3 params, vE e]) (fun (r : (Int × Bool) × Unit) => r.1.2 = true → calls F.length e) := by
 refine Expr.ind fun e ih => fun hs => ?_
 rw [show W 145 [.lst 100 F, .lst 3 cols, .lst 3 params, vE e] = t145 E0 F cols params e from w145 F cols params e]
 unfold t145
 rw [E0_C, E0_lp]
 rw [sz_eq] at hs
 have hle := szL_len e.f3
 refine Ok.after (Ok.range e.f3.length (fun i v => ∃ z1 z2, ∃ l : List Int, l.length = i ∧ callsL F.length (e.f3.take i) ∧ v = ((F, cols, params, z1, z2, (i : Int), ()), ((e.f0, e.f1, e.f2, e.f3, ()), l, ()))) ?_ ?_ _ ⟨_, _, [], rfl, by simp [callsL], rfl⟩)
 ·rintro i v hi ⟨z1, z2, l, hl, hc, rfl⟩
  dsimp only
  simp only [ltb hi, nnb, Bool.and_true, cond_true, rd49_get hi]
  have hm : e.f3[i] ∈ e.f3 := List.getElem_mem hi
  have h1 := szL_mem hm
  refine Ok.bind (ih _ hm (by omega)) ?_
  rintro ⟨⟨(t : Int), (b : Bool)⟩, u⟩ hb
  dsimp only at hb ⊢
  cases b with
  | false => exact ⟨_, rfl, fun h => by cases h⟩
  | true =>
   simp only [Bool.not_true, cond_false]
   rw [room (by simp only [List.length_singleton]; omega), cond_true]
   simp only [wrapK_succ hi (by omega)]
   exact Ok.pure ⟨_, _, _, by simp [hl], callsL_snoc hi hc (hb rfl), rfl⟩
 ·rintro v ⟨z1, z2, l, hl, hc, rfl⟩
  dsimp only
  rw [geb (Nat.le_refl _), cond_false]
  refine Ok.pure ?_
  dsimp only
  rw [List.take_length] at hc
  refine Ok.bif (fun _ => Ok.pure fun h => by cases h) (fun _ => ?_)
  refine Ok.bif (fun h22 => ?_) (fun h22 => ?_)
  ·refine Ok.bind (w161_ok F e.f1 l (by omega)) ?_
   rintro ⟨⟨(t : Int), (b : Bool)⟩, u⟩ hb
   exact Ok.pure fun h => (calls_eq _ _).2 ⟨fun _ => hb h, hc⟩
  ·have hcalls : calls F.length e := (calls_eq _ _).2 ⟨fun h => absurd h (nez h22), hc⟩
   refine Ok.bind ⟨_, w162_ok e.f0, rfl⟩ ?_
   rintro r rfl
   dsimp only
   refine Ok.bif (fun _ => Ok.pure fun h => by cases h) (fun hn => ?_)
   have hn : numI e.f0 = (l.length : Int) := by simpa using hn
   have n1 : e.f0 = 6 ∨ e.f0 = 7 ∨ e.f0 = 20 → l.length = 1 := fun h => by
    unfold numI at hn
    rw [if_neg (by omega), if_pos h] at hn
    omega
   have n2 : 8 ≤ e.f0 ∧ e.f0 ≤ 19 → l.length = 2 := fun h => by
    unfold numI at hn
    rw [if_neg (by omega), if_neg (by omega), if_neg (by omega), if_neg (by omega), if_pos (by omega)] at hn
    omega
   have n3 : ¬ (0 ≤ e.f0 ∧ e.f0 ≤ 20) → l.length = 3 := fun h => by
    unfold numI at hn
    rw [if_neg (by omega), if_neg (by omega)] at hn
    split at hn
    ·omega
    ·split at hn
     ·omega
     ·split at hn <;> omega
   have in0 : 0 < l.length → (decide ((0 : Int) ≤ (0 : Int)) && decide ((0 : Int) < (l.length : Int))) = true := fun h => by simp only [Bool.and_eq_true, decide_eq_true_eq]; omega
   have in1 : 1 < l.length → (decide ((0 : Int) ≤ (1 : Int)) && decide ((1 : Int) < (l.length : Int))) = true := fun h => by simp only [Bool.and_eq_true, decide_eq_true_eq]; omega
   have in2 : 2 < l.length → (decide ((0 : Int) ≤ (2 : Int)) && decide ((2 : Int) < (l.length : Int))) = true := fun h => by simp only [Bool.and_eq_true, decide_eq_true_eq]; omega
   have imp : ∀ b : Bool, impB true b = true := fun b => rfl
   refine Ok.bif (fun _ => Ok.pure fun _ => hcalls) (fun k0 => ?_)
   refine Ok.bif (fun _ => Ok.pure fun _ => hcalls) (fun k2 => ?_)
   refine Ok.bif (fun _ => Ok.bind (w163_ok _ _) fun r _ => Ok.pure fun _ => hcalls) (fun k3 => ?_)
   refine Ok.bif (fun _ => Ok.bind (w163_ok _ _) fun r _ => Ok.pure fun _ => hcalls) (fun k4 => ?_)
   refine Ok.bif (fun _ => Ok.pure fun h => by cases h) (fun kN => ?_)
   refine Ok.bif (fun _ => Ok.pure fun _ => hcalls) (fun k1 => ?_)
   refine Ok.bif (fun _ => Ok.pure fun _ => hcalls) (fun k5 => ?_)
   refine Ok.bif (fun h => ?_) (fun k6 => ?_)
   ·rw [in0 (by have := n1 (.inl (eqz h)); omega)]; exact Ok.pure fun _ => hcalls
   refine Ok.bif (fun h => ?_) (fun k7 => ?_)
   ·rw [in0 (by have := n1 (.inr (.inl (eqz h))); omega)]; exact Ok.pure fun _ => hcalls
   refine Ok.bif (fun h => ?_) (fun k20 => ?_)
   ·rw [in0 (by have := n1 (.inr (.inr (eqz h))); omega)]; exact Ok.pure fun _ => hcalls
   refine Ok.bif (fun h => ?_) (fun k8 => ?_)
   ·have hop : 8 ≤ e.f0 ∧ e.f0 ≤ 19 := by
     rcases orb h with h | h
     ·have := eqz h; omega
     rcases orb h with h | h
     ·have := eqz h; omega
     rcases orb h with h | h
     ·have := eqz h; omega
     rcases orb h with h | h
     ·have := eqz h; omega
     ·have := eqz h; omega
    have := n2 hop
    rw [in0 (by omega), in1 (by omega), imp]; exact Ok.pure fun _ => hcalls
   refine Ok.bif (fun h => ?_) (fun k13 => ?_)
   ·have hop : 8 ≤ e.f0 ∧ e.f0 ≤ 19 := by
     rcases orb h with h | h
     ·have := eqz h; omega
     rcases orb h with h | h
     ·have := eqz h; omega
     rcases orb h with h | h
     ·have := eqz h; omega
     ·have := eqz h; omega
    have := n2 hop
    rw [in0 (by omega), in1 (by omega)]; exact Ok.pure fun _ => hcalls
   refine Ok.bif (fun h => ?_) (fun k17 => ?_)
   ·have hop : 8 ≤ e.f0 ∧ e.f0 ≤ 19 := by
     rcases orb h with h | h
     ·have := eqz h; omega
     ·have := eqz h; omega
    have := n2 hop
    rw [in0 (by omega), in1 (by omega), imp]; exact Ok.pure fun _ => hcalls
   refine Ok.bif (fun h => ?_) (fun k19 => ?_)
   ·have hop : 8 ≤ e.f0 ∧ e.f0 ≤ 19 := by have := eqz h; omega
    have := n2 hop
    rw [in0 (by omega), in1 (by omega), imp]; exact Ok.pure fun _ => hcalls
   ·obtain ⟨a8, k8⟩ := norb k8
    obtain ⟨a9, k8⟩ := norb k8
    obtain ⟨a10, k8⟩ := norb k8
    obtain ⟨a11, a12⟩ := norb k8
    obtain ⟨a13, k13⟩ := norb k13
    obtain ⟨a14, k13⟩ := norb k13
    obtain ⟨a15, a16⟩ := norb k13
    obtain ⟨a17, a18⟩ := norb k17
    have := nez k0; have := nez k1; have := nez k2; have := nez k3; have := nez k4; have := nez k5; have := nez k6; have := nez k7; have := nez k20
    have := nez a8; have := nez a9; have := nez a10; have := nez a11; have := nez a12; have := nez a13; have := nez a14; have := nez a15; have := nez a16; have := nez a17; have := nez a18; have := nez k19
    have h3 := n3 (by omega)
    rw [in0 (by omega), in1 (by omega), in2 (by omega), imp]; exact Ok.pure fun _ => hcalls
theorem w124_ok (F : List Go.Fw.S1.Func) (cols params : List Int) (e : Expr) (hs : sz e ≤ 2097152) : Ok (W 124 [.lst 100 F, .lst 3 cols, .lst 3 params, vE e]) (fun (r : (Int × Bool) × Unit) => r.1.2 = true → calls F.length e) := by
 rw [show W 124 [.lst 100 F, .lst 3 cols, .lst 3 params, vE e] = t124 E0 F cols params e from w124 F cols params e]
 unfold t124
 rw [E0_C]
 refine Ok.bind ⟨_, w71_ok e (by omega), rfl⟩ ?_
 rintro r rfl
 dsimp only
 refine Ok.bif (fun _ => Ok.pure fun h => by cases h) (fun _ => ?_)
 refine Ok.bind (w145_ok F cols params e hs) ?_
 rintro ⟨⟨(t : Int), (b : Bool)⟩, u⟩ hb
 cases b with
 | false => exact Ok.pure fun h => by cases h
 | true => exact Ok.pure fun _ => hb rfl
end Go.Fw.S1
set_option linter.unusedVariables false
set_option maxHeartbeats 1000000
set_option maxRecDepth 100000
namespace Go.Fw.S1
open Go.Proofs
structure SzF (F : List Go.Fw.S1.Func) : Prop where
 len : F.length ≤ 2097152
 body : ∀ f, f ∈ F → sz f.f3 ≤ 2097152
 params : ∀ f, f ∈ F → f.f1.length ≤ 2097152
theorem w94_ok (F : List Go.Fw.S1.Func) (hF : SzF F) : Ok (W 94 [.lst 100 F]) (fun (r : Bool × Unit) => r.1 = true → callsF F) := by
 rw [w94 F]
 unfold t94
 rw [E0_C, E0_lp]
 have hlen := hF.len
 refine Ok.after (Ok.range (min F.length 21) (fun i v => ∃ z, (∀ j (h : j < F.length), j < i → calls j F[j].f3) ∧ v = ((F, z, (i : Int), ()), ())) ?_ ?_ _ ⟨_, fun j _ hj => by omega, rfl⟩)
 ·rintro i v hi ⟨z, hc, rfl⟩
  dsimp only
  have hi1 : i < F.length := by omega
  rw [ltb hi1, show decide ((i : Int) ≤ (20 : Int)) = true from by simp only [decide_eq_true_eq]; omega]
  simp only [cond_true, nnb, Bool.and_true, rd100_get hi1]
  have hm : F[i] ∈ F := List.getElem_mem hi1
  have hp := hF.params _ hm
  refine Ok.after (Ok.range F[i].f1.length (fun k v => ∃ z1 z2, v = ((F, z1, (i : Int), (k : Int), ()), ((z2, F[i].f1, F[i].f2, F[i].f3.f0, F[i].f3.f1, F[i].f3.f2, F[i].f3.f3, ()), ()))) ?_ ?_ _ ⟨_, _, rfl⟩)
  ·rintro k v hk ⟨z1, z2, rfl⟩
   dsimp only
   simp only [ltb hk, nnb, Bool.and_true, cond_true]
   refine Ok.bind ⟨_, w123_ok _, rfl⟩ ?_
   rintro r rfl
   refine Ok.bif (fun _ => ⟨_, rfl, fun h => by cases h⟩) (fun _ => ?_)
   simp only [wrapK_succ hk (by omega)]
   exact Ok.pure ⟨_, _, rfl⟩
  ·rintro v ⟨z1, z2, rfl⟩
   dsimp only
   rw [geb (Nat.le_refl _), cond_false]
   refine Ok.pure ?_
   dsimp only
   rw [show (decide ((0 : Int) ≤ (0 : Int)) && (decide ((0 : Int) ≤ (i : Int)) && decide ((i : Int) ≤ (F.length : Int)))) = true from by simp only [Bool.and_eq_true, decide_eq_true_eq]; omega, cond_true]
   have hcall := w124_ok ((F.drop 0).take ((i : Int).toNat - 0)) [] F[i].f1 F[i].f3 (hF.body _ hm)
   refine Ok.bind hcall ?_
   rintro ⟨⟨(t : Int), (b : Bool)⟩, u⟩ hb
   dsimp only at hb ⊢
   refine Ok.bif (fun _ => ⟨_, rfl, fun h => by cases h⟩) (fun hh => ?_)
   have hbt : b = true := by
    cases b with
    | true => rfl
    | false => cases hh
   have hci := hb hbt
   rw [show ((F.drop 0).take ((i : Int).toNat - 0)).length = i from by simp; omega] at hci
   simp only [wrapK_succ hi (by omega)]
   refine Ok.pure ⟨_, fun j h hj => ?_, rfl⟩
   rcases Nat.lt_or_ge j i with h' | h'
   ·exact hc j h h'
   ·have : j = i := by omega
    subst this
    exact hci
 ·rintro v ⟨z, hc, rfl⟩
  dsimp only
  by_cases h21 : F.length ≤ 20
  ·have : min F.length 21 = F.length := by omega
   rw [this] at hc ⊢
   rw [geb (Nat.le_refl _)]
   simp only [cond_false]
   refine Ok.pure ?_
   refine Ok.pure fun _ i h => hc i h h
  ·have : min F.length 21 = 21 := by omega
   rw [this]
   rw [show decide (((21 : Nat) : Int) ≤ (20 : Int)) = false from by simp]
   have hcf : ∀ b : Bool, (bif b then false else false) = false := fun b => by cases b <;> rfl
   rw [hcf, cond_false]
   refine Ok.pure ?_
   refine Ok.pure fun h => ?_
   have h : decide ((F.length : Int) ≤ (20 : Int)) = true := h
   simp only [decide_eq_true_eq] at h
   omega
theorem w128_ok (F : List Go.Fw.S1.Func) (hF : SzF F) (cols params : List Int) (e : Expr) (hs : sz e ≤ 2097152) : Ok (W 128 [.lst 100 F, .lst 3 cols, .lst 3 params, vE e]) (fun (r : (Int × Bool) × Unit) => r.1.2 = true → calls F.length e) := by
 rw [show W 128 [.lst 100 F, .lst 3 cols, .lst 3 params, vE e] = t128 E0 F cols params e from w128 F cols params e]
 unfold t128
 rw [E0_C]
 refine Ok.bind (w94_ok F hF) ?_
 intro r _
 refine Ok.bif (fun _ => Ok.pure fun h => by cases h) (fun _ => ?_)
 refine Ok.bind (w124_ok F cols params e hs) ?_
 intro r hr
 exact Ok.pure hr
theorem w127_ok (F : List Go.Fw.S1.Func) (hF : SzF F) (cols : List Int) (e : Expr) (hs : sz e ≤ 2097152) : Ok (W 127 [.lst 100 F, .lst 3 cols, vE e]) (fun (r : Bool × Unit) => r.1 = true → calls F.length e) := by
 rw [show W 127 [.lst 100 F, .lst 3 cols, vE e] = t127 E0 F cols e from w127 F cols e]
 unfold t127
 rw [E0_C]
 refine Ok.bind (w128_ok F hF cols [] e hs) ?_
 rintro ⟨⟨(t : Int), (b : Bool)⟩, u⟩ hb
 cases b with
 | false => exact Ok.pure fun h => by cases h
 | true => exact Ok.pure fun _ => hb rfl
theorem w66_ok (l k : List Int) (hl : l.length ≤ 2097152) : Ok (W 66 [.lst 3 l, .lst 3 k]) fun _ => True := by
 rw [w66 l k]
 unfold t66
 rw [E0_lp]
 refine Ok.bif (fun _ => Ok.pure trivial) (fun h => ?_)
 have hlen := len_eq h
 refine Ok.after (Ok.range l.length (fun i v => ∃ z, v = ((l, k, z, (i : Int), ()), ())) ?_ ?_ _ ⟨_, rfl⟩)
 ·rintro i v hi ⟨z, rfl⟩
  dsimp only
  have hi2 : i < k.length := by omega
  simp only [ltb hi, ltb hi2, nnb, Bool.and_true, cond_true]
  refine Ok.bif (fun _ => ⟨_, rfl, trivial⟩) (fun _ => ?_)
  simp only [wrapK_succ hi (by omega)]
  exact Ok.pure ⟨_, rfl⟩
 ·rintro v ⟨z, rfl⟩
  dsimp only
  rw [geb (Nat.le_refl _), cond_false]
  exact Ok.pure (Ok.pure trivial)
theorem w67_ok (l : List Col) (hl : l.length ≤ 2097152) : Ok (W 67 [.lst 77 l]) (fun (r : List Int × Unit) => r.1.length = l.length) := by
 rw [w67 l]
 unfold t67
 rw [E0_lp]
 refine Ok.after (Ok.range l.length (fun i v => ∃ z, ∃ out : List Int, out.length = i ∧ v = ((l, (i : Int), ()), (z, out, ()))) ?_ ?_ _ ⟨_, [], rfl, rfl⟩)
 ·rintro i v hi ⟨z, out, ho, rfl⟩
  dsimp only
  simp only [ltb hi, nnb, Bool.and_true, cond_true]
  rw [room (by simp only [List.length_singleton]; omega), cond_true]
  simp only [wrapK_succ hi (by omega)]
  exact Ok.pure ⟨_, _, by simp [ho], rfl⟩
 ·rintro v ⟨z, out, ho, rfl⟩
  dsimp only
  rw [geb (Nat.le_refl _), cond_false]
  exact Ok.pure (Ok.pure ho)
theorem imp_nn {b c : Bool} (h : b = true) : impB b c = true := by rw [h]; rfl
theorem w129_ok (l t : List Int) (hl : l.length ≤ 2097152) : Ok (W 129 [.lst 3 l, .lst 3 t]) (fun (r : Bool × Unit) => r.1 = true → ∀ x, x ∈ l → 0 ≤ x ∧ x < (t.length : Int)) := by
 rw [w129 l t]
 unfold t129
 rw [E0_lp]
 refine Ok.after (Ok.range l.length (fun i v => ∃ z, (∀ j (h : j < l.length), j < i → 0 ≤ l[j] ∧ l[j] < (t.length : Int)) ∧ v = ((l, t, z, (i : Int), ()), ())) ?_ ?_ _ ⟨_, fun j _ hj => by omega, rfl⟩)
 ·rintro i v hi ⟨z, hj, rfl⟩
  dsimp only
  simp only [ltb hi, nnb, Bool.and_true, cond_true, rd3_get hi]
  rw [imp_nn rfl, cond_true]
  refine Ok.bif (fun _ => ⟨_, rfl, fun h => by cases h⟩) (fun hh => ?_)
  obtain ⟨h1, h2⟩ := norb hh
  simp only [decide_eq_false_iff_not] at h1 h2
  simp only [wrapK_succ hi (by omega)]
  refine Ok.pure ⟨_, fun j h hji => ?_, rfl⟩
  rcases Nat.lt_or_ge j i with h' | h'
  ·exact hj j h h'
  ·have : j = i := by omega
   subst this
   omega
 ·rintro v ⟨z, hj, rfl⟩
  dsimp only
  rw [geb (Nat.le_refl _), cond_false]
  refine Ok.pure (Ok.pure fun _ x hx => ?_)
  obtain ⟨j, hj', rfl⟩ := List.getElem_of_mem hx
  exact hj j hj' hj'
theorem w130_ok (t l : List Int) (hl : l.length ≤ 2097152) (hin : ∀ x, x ∈ l → 0 ≤ x ∧ x < (t.length : Int)) : Ok (W 130 [.lst 3 t, .lst 3 l]) (fun (r : List Int × Unit) => r.1.length = l.length) := by
 rw [w130 t l]
 unfold t130
 rw [E0_lp]
 refine Ok.after (Ok.range l.length (fun i v => ∃ z, ∃ out : List Int, out.length = i ∧ v = ((t, l, (i : Int), ()), (z, out, ()))) ?_ ?_ _ ⟨_, [], rfl, rfl⟩)
 ·rintro i v hi ⟨z, out, ho, rfl⟩
  dsimp only
  simp only [ltb hi, nnb, Bool.and_true, cond_true, rd3_get hi]
  obtain ⟨h0, h1⟩ := hin _ (List.getElem_mem hi)
  rw [show (decide ((0 : Int) ≤ l[i]) && decide (l[i] < (t.length : Int))) = true from by simp only [Bool.and_eq_true, decide_eq_true_eq]; exact ⟨h0, h1⟩, cond_true]
  rw [room (by simp only [List.length_singleton]; omega), cond_true]
  simp only [wrapK_succ hi (by omega)]
  exact Ok.pure ⟨_, _, by simp [ho], rfl⟩
 ·rintro v ⟨z, out, ho, rfl⟩
  dsimp only
  rw [geb (Nat.le_refl _), cond_false]
  exact Ok.pure (Ok.pure ho)
end Go.Fw.S1
set_option linter.unusedVariables false
set_option maxHeartbeats 1000000
set_option maxRecDepth 100000
namespace Go.Fw.S1
open Go.Proofs
def inpI (op : Int) : Int := bif (op == (0 : Int)) then 0 else (bif (bif (op == (3 : Int)) then true else (bif (op == (6 : Int)) then true else (op == (7 : Int)))) then 2 else 1)
theorem w68_ok (op : Int) : W 68 [.int .i64 op] = (some (inpI op, ()) : Option (Int × Unit)) := by
 refine (w68 op).trans ?_
 unfold t68 inpI
 cases (op == (0 : Int)) <;> cases (op == (3 : Int)) <;> cases (op == (6 : Int)) <;> cases (op == (7 : Int)) <;> rfl
theorem w95_ok (op : Int) : W 95 [.int .i64 op] = (some (inpI op, ()) : Option (Int × Unit)) := by
 refine (w95 op).trans ?_
 unfold t95 inpI
 cases (op == (0 : Int)) <;> cases (op == (3 : Int)) <;> cases (op == (6 : Int)) <;> cases (op == (7 : Int)) <;> rfl
theorem w69_ok (n f t : Int) : W 69 [.int .i64 n, .int .i64 f, .int .i64 t] = some (withinB n f t, ()) := w69 n f t
theorem size_pos {s : ByteArray} (h : (s.toList == (⟨#[]⟩ : ByteArray).toList) = false) : 0 < s.size := by
 rcases Nat.eq_zero_or_pos s.size with h0 | h0
 ·exfalso
  have : s = ⟨#[]⟩ := by
   cases s with
   | mk d =>
    have : d.size = 0 := h0
    have : d = #[] := Array.eq_empty_of_size_eq_zero this
    rw [this]
  rw [this] at h
  simp at h
 ·exact h0
theorem w125_ok (s : ByteArray) (hs : s.size ≤ 2097152) : Ok (W 125 [.str s]) fun _ => True := by
 rw [w125 s]
 unfold t125
 rw [E0_lp]
 cases he : (s.toList == (⟨#[]⟩ : ByteArray).toList) with
 | true =>
  have i1 : ∀ b : Bool, impB b false = true := fun b => by cases b <;> rfl
  simp only [cond_true, Bool.not_true, Bool.false_and, i1]
  exact Ok.pure trivial
 | false =>
  have hp := size_pos he
  have in0 : (decide ((0 : Int) ≤ (0 : Int)) && decide ((0 : Int) < (s.size : Int))) = true := by simp only [Bool.and_eq_true, decide_eq_true_eq]; omega
  rw [in0, imp_nn rfl, imp_nn rfl]
  simp only [cond_true]
  refine Ok.bif (fun _ => Ok.pure trivial) (fun _ => ?_)
  refine Ok.after (Ok.range s.size (fun i v => ∃ z, v = ((s, z, (i : Int), ()), ())) ?_ ?_ _ ⟨_, rfl⟩)
  ·rintro i v hi ⟨z, rfl⟩
   dsimp only
   simp only [ltb hi, nnb, Bool.and_true, cond_true]
   refine Ok.bif (fun _ => ⟨_, rfl, trivial⟩) (fun _ => ?_)
   simp only [wrapK_succ hi (by omega)]
   exact Ok.pure ⟨_, rfl⟩
  ·rintro v ⟨z, rfl⟩
   dsimp only
   rw [geb (Nat.le_refl _), cond_false]
   exact Ok.pure (Ok.pure trivial)
theorem w148_ok (n : Int) : Ok (W 148 [.int .i64 n]) fun _ => True := by
 rw [w148 n]
 unfold t148
 exact Ok.bif (fun _ => Ok.pure trivial) fun _ => Ok.bif (fun _ => Ok.pure trivial) fun _ => Ok.bif (fun _ => Ok.pure trivial) fun _ => Ok.pure trivial
theorem w164_ok (s : ByteArray) : Ok (W 164 [.str s]) fun _ => True := by
 rw [w164 s]
 unfold t164
 rw [E0_C, E0_lp]
 refine Ok.after (Ok.range 3 (fun i v => ∃ z1 z2, v = ((s, z1, z2, (i : Int), ()), ())) ?_ ?_ _ ⟨_, _, rfl⟩)
 ·rintro i v hi ⟨z1, z2, rfl⟩
  dsimp only
  rw [show decide ((i : Int) < (3 : Int)) = true from by simp only [decide_eq_true_eq]; omega]
  simp only [cond_true]
  refine Ok.bind (w148_ok _) fun r _ => ?_
  refine Ok.bif (fun _ => ⟨_, rfl, trivial⟩) (fun _ => ?_)
  simp only [wrapK_succ hi (by omega)]
  exact Ok.pure ⟨_, _, rfl⟩
 ·rintro v ⟨z1, z2, rfl⟩
  dsimp only
  rw [show decide (((3 : Nat) : Int) < (3 : Int)) = false from by simp, cond_false]
  exact Ok.pure (Ok.pure trivial)
theorem w146_ok (s : ByteArray) (hs : s.size ≤ 2097152) : Ok (W 146 [.str s]) fun _ => True := by
 rw [w146 s]
 unfold t146
 rw [E0_C]
 refine Ok.bind (w164_ok s) fun r _ => ?_
 refine Ok.bind (w125_ok s hs) fun r _ => ?_
 exact Ok.pure trivial
theorem w147_ok (l : List Col) (hl : l.length ≤ 2097152) (s : ByteArray) : Ok (W 147 [.lst 77 l, .str s]) fun _ => True := by
 rw [w147 l s]
 unfold t147
 rw [E0_lp]
 refine Ok.after (Ok.range l.length (fun i v => ∃ z, v = ((l, s, z, (i : Int), ()), ())) ?_ ?_ _ ⟨_, rfl⟩)
 ·rintro i v hi ⟨z, rfl⟩
  dsimp only
  simp only [ltb hi, nnb, Bool.and_true, cond_true]
  refine Ok.bif (fun _ => ⟨_, rfl, trivial⟩) (fun _ => ?_)
  simp only [wrapK_succ hi (by omega)]
  exact Ok.pure ⟨_, rfl⟩
 ·rintro v ⟨z, rfl⟩
  dsimp only
  rw [geb (Nat.le_refl _), cond_false]
  exact Ok.pure (Ok.pure trivial)
theorem Ok.gd {α : Type} {b : Bool} {x : Option α} {d : α} (h : Ok x fun _ => True) : Ok (bif b then x else some d) fun _ => True := by
 cases b with
 | true => exact h
 | false => exact Ok.pure trivial
structure SzC (l : List Col) : Prop where
 len : l.length ≤ 2097152
 name : ∀ c, c ∈ l → c.f0.size ≤ 2097152
 unit : ∀ c, c ∈ l → c.f2.size ≤ 2097152
theorem w126_ok (l : List Col) (hl : SzC l) : Ok (W 126 [.lst 77 l]) fun _ => True := by
 rw [w126 l]
 unfold t126
 rw [E0_C, E0_lp]
 have hlen := hl.len
 refine Ok.after (Ok.range l.length (fun i v => ∃ z, v = ((l, z, (i : Int), ()), ())) ?_ ?_ _ ⟨_, rfl⟩)
 ·rintro i v hi ⟨z, rfl⟩
  dsimp only
  simp only [ltb hi, nnb, Bool.and_true, cond_true, rd77_get hi]
  have hm : l[i] ∈ l := List.getElem_mem hi
  refine Ok.bind (w146_ok _ (hl.name _ hm)) fun r2 _ => ?_
  refine Ok.bind (Ok.gd (w147_ok l hlen _)) fun r3 _ => ?_
  refine Ok.bind (Ok.gd (w148_ok _)) fun r4 _ => ?_
  refine Ok.bif (fun _ => ⟨_, rfl, trivial⟩) (fun _ => ?_)
  refine Ok.bind (Ok.gd (w146_ok _ (hl.unit _ hm))) fun r5 _ => ?_
  refine Ok.bif (fun _ => ⟨_, rfl, trivial⟩) (fun _ => ?_)
  simp only [wrapK_succ hi (by omega)]
  exact Ok.pure ⟨_, rfl⟩
 ·rintro v ⟨z, rfl⟩
  dsimp only
  rw [geb (Nat.le_refl _), cond_false]
  exact Ok.pure (Ok.pure trivial)
theorem nez' {a b : Int} (h : (a != b) = true) : a ≠ b := by simpa using h
theorem eqz' {a b : Int} (h : (a != b) = false) : a = b := by simpa using h
theorem w96_ok (a : Node) : Ok (W 96 [vN a]) (fun (r : Bool × Unit) => r.1 = true → (a.f0 ≠ 1 ∧ a.f0 ≠ 2 → a.f4 = []) ∧ (a.f0 ≠ 8 → a.f14 = [])) := by
 rw [show W 96 [vN a] = t96 E0 a from w96 a]
 unfold t96
 refine Ok.bif (fun _ => Ok.pure fun h => by cases h) (fun _ => ?_)
 refine Ok.bif (fun _ => Ok.pure fun h => by cases h) (fun h1 => ?_)
 refine Ok.bif (fun _ => Ok.pure fun h => by cases h) (fun _ => ?_)
 refine Ok.bif (fun _ => Ok.pure fun h => by cases h) (fun _ => ?_)
 refine Ok.pure fun h => ⟨fun hne => ?_, fun hne => ?_⟩
 ·obtain ⟨h1, _⟩ := norb h1
  rw [show (a.f0 != (1 : Int)) = true from by simpa using hne.1, show (a.f0 != (2 : Int)) = true from by simpa using hne.2] at h1
  simp only [cond_true, decide_eq_false_iff_not] at h1
  cases hh : a.f4 with
  | nil => rfl
  | cons x r => rw [hh] at h1; simp at h1
 ·have h : (bif (a.f0 == (8 : Int)) then true else ((a.f14.length : Int) == (0 : Int))) = true := h
  rcases orb h with h | h
  ·exact absurd (eqz h) hne
  ·have := eqz h
   cases hh : a.f14 with
   | nil => rfl
   | cons x r => rw [hh] at this; simp at this; omega
theorem w98_ok (n : Nat) (hn : n < 100) : Ok (W 98 [.int .i64 (n : Int)]) (fun (r : ByteArray × Unit) => r.1.size ≤ 10) := by
 have base : ∀ k : Nat, k < 10 → Ok (W 98 [.int .i64 (k : Int)]) (fun (r : ByteArray × Unit) => r.1.size ≤ 1) := fun k hk => by
  rw [w98 (k : Int)]
  unfold t98
  rw [nnb, show decide ((k : Int) < (10 : Int)) = true from by simp only [decide_eq_true_eq]; omega]
  simp only [cond_true]
  refine Ok.pure ?_
  show (byteStr _).size ≤ 1
  simp [byteStr, ByteArray.size]
 by_cases h10 : n < 10
 ·exact (base n h10).mono fun r h => by omega
 ·rw [w98 (n : Int)]
  unfold t98
  rw [E0_C, nnb, show decide ((n : Int) < (10 : Int)) = false from by simp only [decide_eq_false_iff_not]; omega, show decide ((0 : Int) < (n : Int)) = true from by simp only [decide_eq_true_eq]; omega]
  simp only [cond_true, cond_false]
  have e1 : wrapK .i64 ((n : Int).tdiv (10 : Int)) = ((n / 10 : Nat) : Int) := by
   have : (n : Int).tdiv (10 : Int) = ((n / 10 : Nat) : Int) := rfl
   rw [this, wrapK_id (by omega) (by omega)]
  have e2 : (n : Int).tmod (10 : Int) = ((n % 10 : Nat) : Int) := rfl
  rw [e1, e2]
  refine Ok.bind (base (n / 10) (by omega)) ?_
  intro r1 h1
  refine Ok.bind (base (n % 10) (by omega)) ?_
  intro r2 h2
  rw [show decide (ByteArray.size r1.1 + ByteArray.size r2.1 ≤ 9223372036854775807) = true from by simp only [decide_eq_true_eq]; omega, cond_true]
  refine Ok.pure ?_
  show (ByteArray.size (_ ++ _)) ≤ 10
  rw [ByteArray.size_append]
  omega
theorem w43_ok (a : Node) : Ok (W 43 [vN a]) (fun (r : Bool × Unit) => r.1 = true → a.f0 = 4 → a.f5 = 1 → 1 ≤ a.f7) := by
 rw [show W 43 [vN a] = t43 E0 a from w43 a]
 unfold t43
 rw [E0_C]
 refine Ok.bif (fun h4 => ?_) (fun h4 => ?_)
 ·refine Ok.bind ⟨_, w69_ok _ _ _, rfl⟩ ?_
  rintro r rfl
  refine Ok.bif (fun _ => Ok.pure fun h => by cases h) (fun _ => ?_)
  refine Ok.bif (fun h => Ok.pure fun _ _ h5 => by have := eqz h; omega) (fun _ => ?_)
  refine Ok.bif (fun h => ?_) (fun h5 => ?_)
  ·refine Ok.bif (fun _ => Ok.pure fun h => by cases h) (fun h7 => ?_)
   simp only [decide_eq_false_iff_not] at h7
   rw [show (a.f7 != 0) = true from by simp; omega, cond_true]
   exact Ok.pure fun _ _ _ => by omega
  ·refine Ok.bif (fun _ => ?_) (fun _ => Ok.pure fun h => by cases h)
   refine Ok.bind ⟨_, w69_ok _ _ _, rfl⟩ ?_
   rintro r rfl
   exact Ok.pure fun _ _ h => absurd h (nez h5)
 ·have hne := nez h4
  have w : ∀ n f t, Ok (W 69 [.int .i64 n, .int .i64 f, .int .i64 t]) fun _ => True := fun n f t => ⟨_, w69_ok n f t, trivial⟩
  refine Ok.bif (fun _ => Ok.bind (w _ _ _) fun r _ => Ok.bind (Ok.gd (w _ _ _)) fun r _ => Ok.pure fun _ h => absurd h hne) (fun _ => ?_)
  refine Ok.bif (fun _ => Ok.bind (w _ _ _) fun r _ => Ok.bind (Ok.gd (w _ _ _)) fun r _ => Ok.pure fun _ h => absurd h hne) (fun _ => ?_)
  refine Ok.bif (fun _ => Ok.bind (w _ _ _) fun r _ => Ok.pure fun _ h => absurd h hne) (fun _ => ?_)
  refine Ok.bif (fun _ => Ok.bind (w _ _ _) fun r _ => Ok.bind (Ok.gd (w _ _ _)) fun r _ => Ok.pure fun _ h => absurd h hne) (fun _ => ?_)
  exact Ok.bind (w _ _ _) fun r _ => Ok.pure fun _ h => absurd h hne
end Go.Fw.S1
set_option linter.unusedVariables false
set_option maxHeartbeats 1000000
set_option maxRecDepth 100000
namespace Go.Fw.S1
open Go.Proofs
structure SzN (a : Node) : Prop where
 l1 : a.f1.length ≤ 2097152
 s2 : a.f2.size ≤ 2097152
 l4 : a.f4.length ≤ 2097152
 e4 : ∀ e, e ∈ a.f4 → sz e ≤ 2097152
 l8 : a.f8.length ≤ 2097152
 l9 : a.f9.length ≤ 2097152
 l13 : a.f13.length ≤ 2097152
 l14 : a.f14.length ≤ 2097152
 e14 : ∀ p, p ∈ a.f14 → sz p.f0 ≤ 2097152
 c15 : SzC a.f15
def FollowPost (F : List Go.Fw.S1.Func) (a : Node) (r : (List Int × Bool) × Unit) : Prop :=
 r.1.2 = true → (a.f0 = 1 ∨ a.f0 = 2 → ∀ e, e ∈ a.f4 → calls F.length e) ∧ (a.f0 = 8 → ∀ p, p ∈ a.f14 → calls F.length p.f0)
theorem w97_ok (F : List Go.Fw.S1.Func) (hF : SzF F) (a : Node) (ha : SzN a) (t u : List Int) (ht : t.length ≤ 2097152) (hu : u.length ≤ 2097152) : Ok (W 97 [.lst 100 F, vN a, .lst 3 t, .lst 3 u]) (FollowPost F a) := by
 rw [show W 97 [.lst 100 F, vN a, .lst 3 t, .lst 3 u] = t97 E0 F a t u from w97 F a t u]
 unfold t97
 rw [E0_C, E0_lp]
 have ff : ∀ (l : List Int) (b : Bool) (h : ¬ (a.f0 = 1 ∨ a.f0 = 2)) (h8 : a.f0 ≠ 8), FollowPost F a ((l, b), ()) := fun l b h h8 _ => ⟨fun hh => absurd hh h, fun hh => absurd hh h8⟩
 have fz : ∀ (l : List Int), FollowPost F a ((l, false), ()) := fun l h => by cases h
 refine Ok.bif (fun h0 => ?_) (fun h0 => ?_)
 ·have h0 := eqz h0
  refine Ok.bind (w67_ok a.f15 ha.c15.len) fun r1 _ => ?_
  refine Ok.bind (w125_ok a.f2 ha.s2) fun r2 _ => ?_
  refine Ok.bind (Ok.gd (w126_ok a.f15 ha.c15)) fun r3 _ => ?_
  exact Ok.pure (ff _ _ (by omega) (by omega))
 have h0 := nez h0
 refine Ok.bif (fun h1 => ?_) (fun h1 => ?_)
 ·have h1 := eqz h1
  refine Ok.bif (fun _ => Ok.pure (fz _)) (fun hl => ?_)
  have hl : a.f4.length = 1 := by
   have := eqz' hl
   omega
  rw [show (decide ((0 : Int) ≤ (0 : Int)) && decide ((0 : Int) < (a.f4.length : Int))) = true from by simp only [Bool.and_eq_true, decide_eq_true_eq]; omega, cond_true]
  have hr : rd49 a.f4 (0 : Int) = a.f4[0] := rd49_get (xs := a.f4) (i := 0) (by omega)
  rw [hr]
  refine Ok.bind (w127_ok F hF t _ (ha.e4 _ (List.getElem_mem (by omega)))) ?_
  intro r hr
  refine Ok.pure fun h => ⟨fun _ e he => ?_, fun hh => by omega⟩
  obtain ⟨j, hj, rfl⟩ := List.getElem_of_mem he
  have : j = 0 := by omega
  subst this
  exact hr h
 have h1 := nez h1
 refine Ok.bif (fun h2 => ?_) (fun h2 => ?_)
 ·have h2 := eqz h2
  have hl4 := ha.l4
  refine Ok.after (Ok.range a.f4.length (fun i v => ∃ z1 z2, ∃ out : List Int, out.length = i ∧ (∀ j (h : j < a.f4.length), j < i → calls F.length a.f4[j]) ∧ v = ((F, t, u, z1, (i : Int), a.f0, ()), ((a.f0, a.f1, a.f2, a.f3, a.f4, a.f5, a.f6, a.f7, a.f8, a.f9, a.f10, a.f11, a.f12, a.f13, a.f14, a.f15, ()), z2, out, ()))) ?_ ?_ _ ⟨_, _, [], rfl, fun j _ hj => by omega, rfl⟩)
  ·rintro i v hi ⟨z1, z2, out, ho, hc, rfl⟩
   dsimp only
   simp only [ltb hi, nnb, Bool.and_true, cond_true, rd49_get hi]
   refine Ok.bind (w128_ok F hF t [] _ (ha.e4 _ (List.getElem_mem hi))) ?_
   rintro ⟨⟨(k : Int), (b : Bool)⟩, w⟩ hb
   dsimp only at hb ⊢
   cases b with
   | false => exact ⟨_, rfl, fz _⟩
   | true =>
    simp only [Bool.not_true, cond_false]
    rw [room (by simp only [List.length_singleton]; omega), cond_true]
    simp only [wrapK_succ hi (by omega)]
    refine Ok.pure ⟨_, _, _, by simp [ho], fun j h hj => ?_, rfl⟩
    rcases Nat.lt_or_ge j i with h' | h'
    ·exact hc j h h'
    ·have : j = i := by omega
     subst this
     exact hb rfl
  ·rintro v ⟨z1, z2, out, ho, hc, rfl⟩
   dsimp only
   rw [geb (Nat.le_refl _), cond_false]
   refine Ok.pure (Ok.pure fun _ => ⟨fun _ e he => ?_, fun hh => by omega⟩)
   obtain ⟨j, hj, rfl⟩ := List.getElem_of_mem he
   exact hc j hj hj
 have h2 := nez h2
 have hn12 : ¬ (a.f0 = 1 ∨ a.f0 = 2) := by omega
 refine Ok.bif (fun h3 => ?_) (fun h3 => ?_)
 ·have h3 := eqz h3
  refine Ok.bind (w66_ok t u ht) fun r8 _ => ?_
  exact Ok.pure (ff _ _ hn12 (by omega))
 refine Ok.bif (fun h5 => ?_) (fun h5 => ?_)
 ·have h5 := eqz h5
  refine Ok.bind (w129_ok a.f8 t ha.l8) fun r9 _ => ?_
  exact Ok.pure (ff _ _ hn12 (by omega))
 refine Ok.bind (w129_ok a.f8 t ha.l8) ?_
 rintro ⟨(b10 : Bool), u10⟩ hb10
 dsimp only at hb10 ⊢
 cases b10 with
 | false =>
  refine Ok.bind (Q := fun _ => True) ⟨_, rfl, trivial⟩ fun r _ => ?_
  exact Ok.pure (fz _)
 | true =>
 have hb10 := hb10 rfl
 simp only [Bool.not_true, Bool.not_false, cond_true, cond_false]
 refine Ok.bind (w129_ok a.f9 u ha.l9) ?_
 rintro ⟨(b11 : Bool), u11⟩ hb11
 dsimp only at hb11 ⊢
 cases b11 with
 | false => exact Ok.pure (fz _)
 | true =>
 have hb11 := hb11 rfl
 simp only [Bool.not_true, cond_false]
 have hl8 := ha.l8
 refine Ok.bind (w130_ok t a.f8 ha.l8 hb10) ?_
 rintro ⟨(r12 : List Int), u12⟩ hr12
 dsimp only at hr12 ⊢
 refine Ok.bif (fun h67 => ?_) (fun h67 => ?_)
 ·have hn8 : a.f0 ≠ 8 := by
   rcases orb h67 with h | h
   ·have := eqz h; omega
   ·have := eqz h; omega
  rw [room (by simp only [List.length_nil]; omega), cond_true, room (by simp only [List.length_nil, List.nil_append]; omega), cond_true]
  refine Ok.bind (w130_ok u a.f9 ha.l9 hb11) fun r13 _ => ?_
  refine Ok.bind (w66_ok r12 r13.1 (by omega)) fun r14 _ => ?_
  exact Ok.pure (ff _ _ hn12 hn8)
 refine Ok.bif (fun h8 => ?_) (fun h8 => ?_)
 ·have h8 := eqz h8
  have hl14 := ha.l14
  refine Ok.after (Ok.range a.f14.length (fun i v => ∃ z1 z2, (∀ j (h : j < a.f14.length), j < i → calls F.length a.f14[j].f0) ∧ v = ((F, t, u, z1, (i : Int), a.f0, ()), ((a.f0, a.f1, a.f2, a.f3, a.f4, a.f5, a.f6, a.f7, a.f8, a.f9, a.f10, a.f11, a.f12, a.f13, a.f14, a.f15, ()), z2, r12, ()))) ?_ ?_ _ ⟨_, _, fun j _ hj => by omega, rfl⟩)
  ·rintro i v hi ⟨z1, z2, hc, rfl⟩
   dsimp only
   simp only [ltb hi, nnb, Bool.and_true, cond_true, rd103_get hi]
   rw [imp_nn rfl, imp_nn rfl]
   simp only [cond_true]
   have hp := ha.e14 _ (List.getElem_mem hi)
   generalize hbad : (bif decide (a.f14[i].f1 < (0 : Int)) then true else decide ((2 : Int) < a.f14[i].f1)) = bad
   cases bad with
   | true =>
    refine Ok.bind (Q := fun _ => True) ⟨_, rfl, trivial⟩ fun r _ => ?_
    exact ⟨_, rfl, fz _⟩
   | false =>
    simp only [Bool.not_false, cond_true, cond_false]
    refine Ok.bind (w127_ok F hF t _ hp) ?_
    rintro ⟨(b : Bool), w⟩ hb
    dsimp only at hb ⊢
    cases b with
    | false => exact ⟨_, rfl, fz _⟩
    | true =>
     simp only [Bool.not_true, cond_false, wrapK_succ hi (by omega)]
     refine Ok.pure ⟨_, _, fun j h hj => ?_, rfl⟩
     rcases Nat.lt_or_ge j i with h' | h'
     ·exact hc j h h'
     ·have : j = i := by omega
      subst this
      exact hb rfl
  ·rintro v ⟨z1, z2, hc, rfl⟩
   dsimp only
   rw [geb (Nat.le_refl _), cond_false]
   refine Ok.pure ?_
   dsimp only
   rw [room (by simp only [List.length_cons, List.length_nil]; omega), cond_true]
   refine Ok.pure fun _ => ⟨fun hh => absurd hh hn12, fun _ p hp => ?_⟩
   obtain ⟨j, hj, rfl⟩ := List.getElem_of_mem hp
   exact hc j hj hj
 have h8 := nez h8
 rw [room (by simp only [List.length_singleton]; omega), cond_true]
 have hl13 := ha.l13
 refine Ok.after (Ok.range a.f13.length (fun i v => ∃ z1 z2, ∃ out : List Int, out.length ≤ 2097153 + i ∧ v = ((F, t, u, z1, (i : Int), a.f0, ()), ((a.f0, a.f1, a.f2, a.f3, a.f4, a.f5, a.f6, a.f7, a.f8, a.f9, a.f10, a.f11, a.f12, a.f13, a.f14, a.f15, ()), z2, out, ()))) ?_ ?_ _ ⟨_, _, r12 ++ [0], by simp; omega, rfl⟩)
 ·rintro i v hi ⟨z1, z2, out, ho, rfl⟩
  dsimp only
  simp only [ltb hi, nnb, Bool.and_true, cond_true, rd47_get hi]
  refine Ok.bif (fun _ => ⟨_, rfl, fz _⟩) (fun hbad => ?_)
  obtain ⟨_, hcol⟩ := norb hbad
  refine Ok.bif (fun hk => ?_) (fun hk => ?_)
  ·rw [room (by simp only [List.length_singleton]; omega), cond_true]
   simp only [wrapK_succ hi (by omega)]
   exact Ok.pure ⟨_, _, _, by simp; omega, rfl⟩
  ·rw [show (a.f13[i].f0 != (0 : Int)) = true from by simpa using nez hk, cond_true] at hcol
   obtain ⟨c1, c2⟩ := norb hcol
   simp only [decide_eq_false_iff_not] at c1 c2
   have hin : (decide ((0 : Int) ≤ a.f13[i].f1) && decide (a.f13[i].f1 < (t.length : Int))) = true := by simp only [Bool.and_eq_true, decide_eq_true_eq]; omega
   rw [hin, imp_nn rfl]
   simp only [cond_true]
   refine Ok.bif (fun _ => ⟨_, rfl, fz _⟩) (fun _ => ?_)
   rw [room (by simp only [List.length_singleton]; omega), cond_true]
   simp only [wrapK_succ hi (by omega)]
   exact Ok.pure ⟨_, _, _, by simp; omega, rfl⟩
 ·rintro v ⟨z1, z2, out, ho, rfl⟩
  dsimp only
  rw [geb (Nat.le_refl _), cond_false]
  exact Ok.pure (Ok.pure (ff _ _ hn12 h8))
end Go.Fw.S1
set_option linter.unusedVariables false
set_option maxHeartbeats 1000000
set_option maxRecDepth 100000
namespace Go.Fw.S1
open Go.Proofs
structure Chk (F : List Go.Fw.S1.Func) (i : Nat) (a : Node) : Prop where
 op : OpIn a
 ins : (a.f1.length : Int) = inpI a.f0
 inb : ∀ j, j ∈ a.f1 → 0 ≤ j ∧ j < (i : Int)
 exprs : ∀ e, e ∈ a.f4 → calls F.length e
 pats : ∀ p, p ∈ a.f14 → calls F.length p.f0
structure SzP (F : List Go.Fw.S1.Func) (N : List Node) : Prop where
 funcs : SzF F
 len : N.length ≤ 2097152
 nodes : ∀ a, a ∈ N → SzN a
structure Post35 (F : List Go.Fw.S1.Func) (N : List Node) (q : Program) : Prop where
 funcs : callsF F
 len : N.length ≤ 40
 chk : ∀ (i : Nat) (h : i < N.length), Chk F i N[i]
 same : q.f1.length = N.length
 cols : ∀ a, a ∈ q.f1 → a.f15.length ≤ 12
theorem w65_ok (F : List Go.Fw.S1.Func) (N : List Node) (hP : SzP F N) : Ok (W 65 [.agg [.lst 100 F, .lst 43 N]]) (fun (r : (Program × Bool) × Unit) => r.1.2 = true → Post35 F N r.1.1) := by
 rw [show W 65 [.agg [.lst 100 F, .lst 43 N]] = t65 E0 ⟨F, N⟩ from w65 ⟨F, N⟩]
 unfold t65
 rw [E0_C, E0_lp]
 generalize hb : (bif decide ((N.length : Int) < (1 : Int)) then true else decide ((40 : Int) < (N.length : Int))) = bad
 cases bad with
 | true =>
  refine Ok.bind (Q := fun _ => True) ⟨_, rfl, trivial⟩ fun r _ => ?_
  exact Ok.pure fun h => by cases h
 | false =>
 simp only [Bool.not_false, cond_true, cond_false]
 have hlen : N.length ≤ 40 := by
  obtain ⟨_, h⟩ := norb hb
  simp only [decide_eq_false_iff_not] at h
  omega
 refine Ok.bind (w94_ok F hP.funcs) ?_
 rintro ⟨(b : Bool), u⟩ hF
 dsimp only at hF ⊢
 cases b with
 | false => exact Ok.pure fun h => by cases h
 | true =>
 have hF := hF rfl
 simp only [Bool.not_true, cond_false]
 refine Ok.after (Ok.range N.length (fun i v => ∃ z za zb, ∃ all : List (List Int), ∃ out : List Node, all.length = i ∧ (∀ x, x ∈ all → x.length ≤ 12) ∧ out.length = i ∧ (∀ a, a ∈ out → a.f15.length ≤ 12) ∧ (∀ j (h : j < N.length), j < i → Chk F j N[j]) ∧
   v = ((z, (i : Int), ()), ((F, N, ()), (za, zb, ()), (F, ()), all, out, ()))) ?_ ?_ _ ⟨_, _, _, [], [], rfl, (fun x hx => by cases hx), rfl, (fun x hx => by cases hx), (fun j _ hj => by omega), rfl⟩)
 ·rintro i v hi ⟨z, za, zb, all, out, hall, hall2, hout, hout2, hchk, rfl⟩
  dsimp only
  simp only [ltb hi, nnb, Bool.and_true, cond_true, rd43_get hi]
  have hm : N[i] ∈ N := List.getElem_mem hi
  have ha := hP.nodes _ hm
  generalize hai : N[i] = a at ha hm ⊢
  generalize hbo : (bif decide (a.f0 < (0 : Int)) then true else decide ((8 : Int) < a.f0)) = bo
  cases bo with
  | true =>
   refine Ok.bind (Q := fun _ => True) ⟨_, rfl, trivial⟩ fun r3 _ => ?_
   refine Ok.bind (Q := fun _ => True) ⟨_, rfl, trivial⟩ fun r4 _ => ?_
   exact ⟨_, rfl, fun h => by cases h⟩
  | false =>
  have hop : OpIn a := by
   obtain ⟨q1, q2⟩ := norb hbo
   simp only [decide_eq_false_iff_not] at q1 q2
   exact ⟨by omega, by omega⟩
  simp only [Bool.not_false, cond_true, cond_false]
  refine Ok.bind ⟨_, w95_ok a.f0, rfl⟩ ?_
  rintro r rfl
  dsimp only
  generalize hbl : ((a.f1.length : Int) != inpI a.f0) = bl
  cases bl with
  | true =>
   refine Ok.bind (Q := fun _ => True) ⟨_, rfl, trivial⟩ fun r4 _ => ?_
   exact ⟨_, rfl, fun h => by cases h⟩
  | false =>
  have hins := eqz' hbl
  simp only [Bool.not_false, cond_true, cond_false]
  refine Ok.bind (w96_ok a) ?_
  rintro ⟨(b4 : Bool), u4⟩ hb4
  dsimp only at hb4 ⊢
  cases b4 with
  | false => exact ⟨_, rfl, fun h => by cases h⟩
  | true =>
  have hbare := hb4 rfl
  simp only [Bool.not_true, cond_false]
  have hl1 := ha.l1
  refine Ok.after (Ok.range a.f1.length (fun k v => ∃ z, ∃ t u : List Int, t.length ≤ 12 ∧ u.length ≤ 12 ∧ (∀ j (h : j < a.f1.length), j < k → 0 ≤ a.f1[j] ∧ a.f1[j] < (i : Int)) ∧
    v = ((z, (i : Int), t, u, (k : Int), ()), ((F, N, ()), (za, zb, ()), (F, ()), all, (a.f0, a.f1, a.f2, a.f3, a.f4, a.f5, a.f6, a.f7, a.f8, a.f9, a.f10, a.f11, a.f12, a.f13, a.f14, a.f15, ()), out, ()))) ?_ ?_ _ ⟨_, [], [], by simp, by simp, fun j _ hj => by omega, rfl⟩)
  ·rintro k v hk ⟨z, t, u, ht, hu, hj, rfl⟩
   dsimp only
   simp only [ltb hk, nnb, Bool.and_true, cond_true, rd3_get hk]
   rw [imp_nn rfl, cond_true]
   refine Ok.bif (fun _ => ⟨_, rfl, fun h => by cases h⟩) (fun hg => ?_)
   obtain ⟨g1, g2⟩ := norb hg
   simp only [decide_eq_false_iff_not] at g1 g2
   have hin : (decide ((0 : Int) ≤ a.f1[k]) && decide (a.f1[k] < (all.length : Int))) = true := by simp only [Bool.and_eq_true, decide_eq_true_eq]; omega
   rw [hin]
   simp only [cond_true]
   have hx : (rd33 all a.f1[k]).length ≤ 12 := by
    have hlt : a.f1[k].toNat < all.length := by omega
    have h1 := rd33_get hlt
    rw [show ((a.f1[k].toNat : Nat) : Int) = a.f1[k] from by omega] at h1
    rw [h1]
    exact hall2 _ (List.getElem_mem hlt)
   have hj' : ∀ j (h : j < a.f1.length), j < k + 1 → 0 ≤ a.f1[j] ∧ a.f1[j] < (i : Int) := fun j h hjk => by
    rcases Nat.lt_or_ge j k with h' | h'
    ·exact hj j h h'
    ·have : j = k := by omega
     subst this
     exact ⟨by omega, by omega⟩
   simp only [wrapK_succ hk (by omega)]
   refine Ok.bif (fun _ => Ok.pure ⟨_, _, _, hx, hu, hj', rfl⟩) (fun _ => Ok.pure ⟨_, _, _, ht, hx, hj', rfl⟩)
  ·rintro v ⟨z, t, u, ht, hu, hj, rfl⟩
   dsimp only
   rw [geb (Nat.le_refl _), cond_false]
   refine Ok.pure ?_
   dsimp only
   refine Ok.bind (w97_ok F hP.funcs a ha t u (by omega) (by omega)) ?_
   rintro ⟨⟨(types : List Int), (ok : Bool)⟩, u7⟩ hfol
   dsimp only
   refine Ok.bif (fun _ => ⟨_, rfl, fun h => by cases h⟩) (fun hg => ?_)
   obtain ⟨hg, g3⟩ := norb hg
   obtain ⟨g1, g2⟩ := norb hg
   simp only [decide_eq_false_iff_not] at g2 g3
   have hok : ok = true := by
    cases ok with
    | true => rfl
    | false => cases g1
   have hcalls := hfol hok
   have hty : types.length ≤ 12 := by omega
   rw [room (by simp only [List.length_singleton]; omega), cond_true]
   refine Ok.after (Ok.range types.length (fun k v => ∃ z5 z6, ∃ cols : List Col, cols.length = k ∧
     v = ((z, (i : Int), t, u, z5, types, z6, (k : Int), ()), ((F, N, ()), (za, zb, ()), (F, ()), all ++ [types], (a.f0, a.f1, a.f2, a.f3, a.f4, a.f5, a.f6, a.f7, a.f8, a.f9, a.f10, a.f11, a.f12, a.f13, a.f14, a.f15, ()), cols, out, ()))) ?_ ?_ _ ⟨_, _, [], rfl, rfl⟩)
   ·rintro k v hk ⟨z5, z6, cols, hcols, rfl⟩
    dsimp only
    simp only [ltb hk, nnb, Bool.and_true, cond_true, rd3_get hk]
    refine Ok.bind (w98_ok k (by omega)) ?_
    rintro ⟨(d : ByteArray), u9⟩ hd
    dsimp only at hd ⊢
    rw [show decide ((⟨#[99]⟩ : ByteArray).size + d.size ≤ 9223372036854775807) = true from by simp only [decide_eq_true_eq]; show 1 + d.size ≤ _; omega, cond_true]
    refine Ok.bif (fun heq => ?_) (fun _ => ?_)
    ·have hk15 : k < a.f15.length := by have := eqz heq; omega
     simp only [ltb hk15, cond_true]
     rw [room (by simp only [List.length_singleton]; omega), cond_true]
     simp only [wrapK_succ hk (by omega)]
     exact Ok.pure ⟨_, _, _, by simp [hcols], rfl⟩
    ·rw [room (by simp only [List.length_singleton]; omega), cond_true]
     simp only [wrapK_succ hk (by omega)]
     exact Ok.pure ⟨_, _, _, by simp [hcols], rfl⟩
   ·rintro v ⟨z5, z6, cols, hcols, rfl⟩
    dsimp only
    rw [geb (Nat.le_refl _), cond_false]
    refine Ok.pure ?_
    dsimp only
    rw [room (by simp only [List.length_singleton]; omega), cond_true]
    simp only [wrapK_succ hi (by omega)]
    refine Ok.pure ⟨_, _, _, all ++ [types], _, by simp [hall], fun x hx => ?_, ?_, ?_, ?_, rfl⟩
    ·rcases List.mem_append.1 hx with h | h
     ·exact hall2 x h
     ·simp only [List.mem_singleton] at h; rw [h]; exact hty
    ·simp [hout]
    ·intro b hb
     rcases List.mem_append.1 hb with h | h
     ·exact hout2 b h
     ·simp only [List.mem_singleton] at h
      rw [h]
      show cols.length ≤ 12
      omega
    ·intro j h hjj
     rcases Nat.lt_or_ge j i with h' | h'
     ·exact hchk j h h'
     ·have hji : j = i := by omega
      subst hji
      rw [hai]
      refine ⟨hop, hins, fun x hx => ?_, fun e he => ?_, fun p hp => ?_⟩
      ·obtain ⟨q, hq, rfl⟩ := List.getElem_of_mem hx
       exact hj q hq hq
      ·by_cases h12 : a.f0 = 1 ∨ a.f0 = 2
       ·exact hcalls.1 h12 e he
       ·rw [hbare.1 ⟨fun h => h12 (.inl h), fun h => h12 (.inr h)⟩] at he
        cases he
      ·by_cases h8 : a.f0 = 8
       ·exact hcalls.2 h8 p hp
       ·rw [hbare.2 h8] at hp
        cases hp
 ·rintro v ⟨z, za, zb, all, out, hall, hall2, hout, hout2, hchk, rfl⟩
  dsimp only
  rw [geb (Nat.le_refl _), cond_false]
  exact Ok.pure (Ok.pure fun _ => ⟨hF, hlen, fun i h => hchk i h h, hout, hout2⟩)
end Go.Fw.S1
set_option linter.unusedVariables false
set_option maxHeartbeats 1000000
set_option maxRecDepth 100000
namespace Go.Fw.S1
open Go.Proofs
theorem w41_ok (F : List Go.Fw.S1.Func) (N : List Node) (hP : SzP F N) : Ok (W 41 [.agg [.lst 100 F, .lst 43 N]]) (fun (r : Bool × Unit) => r.1 = true → ∃ q, Post35 F N q) := by
 rw [show W 41 [.agg [.lst 100 F, .lst 43 N]] = t41 E0 ⟨F, N⟩ from w41 ⟨F, N⟩]
 unfold t41
 rw [E0_C, E0_lp]
 refine Ok.bind (w65_ok F N hP) ?_
 rintro ⟨⟨(q : Program), (b : Bool)⟩, u⟩ hq
 dsimp only at hq ⊢
 cases b with
 | false => exact Ok.pure fun h => by cases h
 | true =>
 have hq := hq rfl
 simp only [Bool.not_true, cond_false]
 have hlen := hq.len
 refine Ok.after (Ok.range N.length (fun i v => ∃ z1 z2, v = ((z1, z2, (i : Int), ()), ((F, N, ()), (q.f0, q.f1, ()), ()))) ?_ ?_ _ ⟨_, _, rfl⟩)
 ·rintro i v hi ⟨z1, z2, rfl⟩
  dsimp only
  have hi2 : i < q.f1.length := by rw [hq.same]; exact hi
  simp only [ltb hi, ltb hi2, nnb, Bool.and_true, cond_true, rd43_get hi, rd43_get hi2]
  have ha := (hP.nodes _ (List.getElem_mem hi)).c15.len
  have hc := hq.cols _ (List.getElem_mem hi2)
  refine Ok.bind (w67_ok _ ha) ?_
  intro r3 h3
  refine Ok.bind (w67_ok _ (by omega)) ?_
  intro r4 h4
  refine Ok.bind (w66_ok r3.1 r4.1 (by rw [h3]; exact ha)) ?_
  intro r5 _
  refine Ok.bif (fun _ => ⟨_, rfl, fun h => by cases h⟩) (fun _ => ?_)
  simp only [wrapK_succ hi (by omega)]
  exact Ok.pure ⟨_, _, rfl⟩
 ·rintro v ⟨z1, z2, rfl⟩
  dsimp only
  rw [geb (Nat.le_refl _), cond_false]
  exact Ok.pure (Ok.pure fun _ => ⟨q, hq⟩)
theorem w42_ok (F : List Go.Fw.S1.Func) (N : List Node) (hP : SzP F N) : Ok (W 42 [.agg [.lst 100 F, .lst 43 N]]) fun _ => True := by
 rw [show W 42 [.agg [.lst 100 F, .lst 43 N]] = t42 E0 ⟨F, N⟩ from w42 ⟨F, N⟩]
 unfold t42
 rw [E0_C, E0_lp]
 have hlen := hP.len
 refine Ok.bif (fun _ => Ok.pure trivial) (fun _ => ?_)
 refine Ok.after (Ok.range N.length (fun i v => ∃ z, v = ((z, (i : Int), ()), ((F, N, ()), ()))) ?_ ?_ _ ⟨_, rfl⟩)
 ·rintro i v hi ⟨z, rfl⟩
  dsimp only
  simp only [ltb hi, nnb, Bool.and_true, cond_true, rd43_get hi]
  have ha := (hP.nodes _ (List.getElem_mem hi)).l1
  generalize N[i] = a at ha
  refine Ok.bind (Ok.gd ⟨_, w68_ok a.f0, trivial⟩) fun r2 _ => ?_
  refine Ok.bif (fun _ => ⟨_, rfl, trivial⟩) (fun _ => ?_)
  refine Ok.after (Ok.range a.f1.length (fun k v => ∃ z, v = ((z, (i : Int), (k : Int), ()), ((F, N, ()), (a.f0, a.f1, a.f2, a.f3, a.f4, a.f5, a.f6, a.f7, a.f8, a.f9, a.f10, a.f11, a.f12, a.f13, a.f14, a.f15, ()), ()))) ?_ ?_ _ ⟨_, rfl⟩)
  ·rintro k v hk ⟨z, rfl⟩
   dsimp only
   simp only [ltb hk, nnb, Bool.and_true, cond_true]
   rw [imp_nn rfl, cond_true]
   refine Ok.bif (fun _ => ⟨_, rfl, trivial⟩) (fun _ => ?_)
   simp only [wrapK_succ hk (by omega)]
   exact Ok.pure ⟨_, rfl⟩
  ·rintro v ⟨z, rfl⟩
   dsimp only
   rw [geb (Nat.le_refl _), cond_false]
   refine Ok.pure ?_
   dsimp only
   simp only [wrapK_succ hi (by omega)]
   exact Ok.pure ⟨_, rfl⟩
 ·rintro v ⟨z, rfl⟩
  dsimp only
  rw [geb (Nat.le_refl _), cond_false]
  exact Ok.pure (Ok.pure trivial)
structure Fit (F : List Go.Fw.S1.Func) (N : List Node) : Prop where
 funcs : callsF F
 len : N.length ≤ 40
 chk : ∀ (i : Nat) (h : i < N.length), Chk F i N[i]
 step : ∀ (i : Nat) (h : i < N.length), N[i].f0 = 4 → N[i].f5 = 1 → 1 ≤ N[i].f7
theorem w17_ok (F : List Go.Fw.S1.Func) (N : List Node) (hP : SzP F N) : Ok (W 17 [.agg [.lst 100 F, .lst 43 N]]) (fun (r : Bool × Unit) => r.1 = true → Fit F N) := by
 rw [show W 17 [.agg [.lst 100 F, .lst 43 N]] = t17 E0 ⟨F, N⟩ from w17 ⟨F, N⟩]
 unfold t17
 rw [E0_C, E0_lp]
 refine Ok.bind (w41_ok F N hP) ?_
 rintro ⟨(b : Bool), u⟩ hq
 dsimp only at hq ⊢
 refine Ok.bind (Ok.gd (w42_ok F N hP)) fun r2 _ => ?_
 refine Ok.bif (fun _ => Ok.pure fun h => by cases h) (fun hg => ?_)
 obtain ⟨g1, _⟩ := norb hg
 have hb : b = true := by
  cases b with
  | true => rfl
  | false => cases g1
 obtain ⟨q, hq⟩ := hq hb
 have hlen := hq.len
 refine Ok.after (Ok.range N.length (fun i v => ∃ z, (∀ j (h : j < N.length), j < i → N[j].f0 = 4 → N[j].f5 = 1 → 1 ≤ N[j].f7) ∧ v = ((z, (i : Int), ()), ((F, N, ()), ()))) ?_ ?_ _ ⟨_, (fun j _ hj => by omega), rfl⟩)
 ·rintro i v hi ⟨z, hj, rfl⟩
  dsimp only
  simp only [ltb hi, nnb, Bool.and_true, cond_true, rd43_get hi]
  refine Ok.bind (w43_ok N[i]) ?_
  rintro ⟨(b : Bool), u⟩ h26
  dsimp only at h26 ⊢
  cases b with
  | false => exact ⟨_, rfl, fun h => by cases h⟩
  | true =>
   simp only [Bool.not_true, cond_false, wrapK_succ hi (by omega)]
   refine Ok.pure ⟨_, fun j h hji => ?_, rfl⟩
   rcases Nat.lt_or_ge j i with h' | h'
   ·exact hj j h h'
   ·have : j = i := by omega
    subst this
    exact h26 rfl
 ·rintro v ⟨z, hj, rfl⟩
  dsimp only
  rw [geb (Nat.le_refl _), cond_false]
  exact Ok.pure (Ok.pure fun _ => ⟨hq.funcs, hq.len, hq.chk, fun i h => hj i h h⟩)
end Go.Fw.S1
set_option linter.unusedVariables false
set_option maxHeartbeats 1000000
set_option maxRecDepth 100000
namespace Go.Fw.S1
open Go.Proofs
theorem w99_ok (l : List Int) : ∀ e : Expr, sz e ≤ 2097152 → Ok (W 99 [.lst 3 l, vE e]) fun _ => True := by
 refine Expr.ind fun e ih => fun hs => ?_
 rw [show W 99 [.lst 3 l, vE e] = t99 E0 l e from w99 l e]
 unfold t99
 rw [E0_C, E0_lp]
 rw [sz_eq] at hs
 have hle := szL_len e.f3
 refine Ok.after (Ok.range e.f3.length (fun i v => ∃ z1 z2, ∃ k : List Int, k.length = i ∧ v = ((l, z1, z2, (i : Int), ()), ((e.f0, e.f1, e.f2, e.f3, ()), k, ()))) ?_ ?_ _ ⟨_, _, [], rfl, rfl⟩)
 ·rintro i v hi ⟨z1, z2, k, hk, rfl⟩
  dsimp only
  simp only [ltb hi, nnb, Bool.and_true, cond_true, rd49_get hi]
  have hm : e.f3[i] ∈ e.f3 := List.getElem_mem hi
  have h1 := szL_mem hm
  refine Ok.bind (ih _ hm (by omega)) fun r _ => ?_
  rw [room (by simp only [List.length_singleton]; omega), cond_true]
  simp only [wrapK_succ hi (by omega)]
  exact Ok.pure ⟨_, _, _, by simp [hk], rfl⟩
 ·rintro v ⟨z1, z2, k, hk, rfl⟩
  dsimp only
  rw [geb (Nat.le_refl _), cond_false]
  refine Ok.pure ?_
  dsimp only
  refine Ok.bif (fun h => ?_) (fun _ => ?_)
  ·have hk3 : k.length = 3 := by
    cases h21 : (e.f0 == (21 : Int)) with
    | false => rw [h21] at h; cases h
    | true => rw [h21] at h; have := eqz h; omega
   rw [show (decide ((0 : Int) ≤ (0 : Int)) && decide ((0 : Int) < (k.length : Int))) = true from by simp only [Bool.and_eq_true, decide_eq_true_eq]; omega,
    show (decide ((0 : Int) ≤ (1 : Int)) && decide ((1 : Int) < (k.length : Int))) = true from by simp only [Bool.and_eq_true, decide_eq_true_eq]; omega,
    show (decide ((0 : Int) ≤ (2 : Int)) && decide ((2 : Int) < (k.length : Int))) = true from by simp only [Bool.and_eq_true, decide_eq_true_eq]; omega]
   exact Ok.pure trivial
  ·refine Ok.after (Ok.range k.length (fun i v => ∃ z1 z2 z3, v = ((l, z1, z2, z3, (i : Int), ()), ((e.f0, e.f1, e.f2, e.f3, ()), k, ()))) ?_ ?_ _ ⟨_, _, _, rfl⟩)
   ·rintro i v hi ⟨z1, z2, z3, rfl⟩
    dsimp only
    simp only [ltb hi, nnb, Bool.and_true, cond_true, wrapK_succ hi (by omega)]
    exact Ok.pure ⟨_, _, _, rfl⟩
   ·rintro v ⟨z1, z2, z3, rfl⟩
    dsimp only
    rw [geb (Nat.le_refl _), cond_false]
    refine Ok.pure ?_
    dsimp only
    refine Ok.bif (fun h => ?_) (fun _ => Ok.pure trivial)
    have hr : (decide ((0 : Int) ≤ e.f1) && decide (e.f1 < (l.length : Int))) = true := by
     cases h22 : (e.f0 == (22 : Int)) with
     | false => rw [h22] at h; cases h
     | true =>
      rw [h22] at h
      cases h0 : decide ((0 : Int) ≤ e.f1) with
      | false => rw [h0] at h; cases h
      | true => rw [h0] at h; exact h
    rw [hr]
    exact Ok.pure trivial
theorem w72_ok (F : List Go.Fw.S1.Func) (hF : SzF F) (e : Expr) (hs : sz e ≤ 2097152) : Ok (W 72 [.lst 100 F, vE e]) fun _ => True := by
 rw [show W 72 [.lst 100 F, vE e] = t72 E0 F e from w72 F e]
 unfold t72
 rw [E0_C, E0_lp]
 have hlen := hF.len
 refine Ok.after (Ok.range F.length (fun i v => ∃ z, ∃ k : List Int, k.length = i ∧ v = ((F, z, (i : Int), ()), ((e.f0, e.f1, e.f2, e.f3, ()), k, ()))) ?_ ?_ _ ⟨_, [], rfl, rfl⟩)
 ·rintro i v hi ⟨z, k, hk, rfl⟩
  dsimp only
  simp only [ltb hi, nnb, Bool.and_true, cond_true, rd100_get hi]
  refine Ok.bind (w99_ok k _ (hF.body _ (List.getElem_mem hi))) fun r _ => ?_
  rw [room (by simp only [List.length_singleton]; omega), cond_true]
  simp only [wrapK_succ hi (by omega)]
  exact Ok.pure ⟨_, _, by simp [hk], rfl⟩
 ·rintro v ⟨z, k, hk, rfl⟩
  dsimp only
  rw [geb (Nat.le_refl _), cond_false]
  refine Ok.pure ?_
  dsimp only
  exact Ok.bind (w99_ok k e hs) fun r _ => Ok.pure trivial
theorem andb {a b : Bool} (h : (bif a then b else false) = true) : a = true ∧ b = true := by cases a <;> simp_all
theorem w44_ok (F : List Go.Fw.S1.Func) (hF : SzF F) (a : Node) (ha : SzN a) : Ok (W 44 [.lst 100 F, vN a]) fun _ => True := by
 rw [show W 44 [.lst 100 F, vN a] = t44 E0 F a from w44 F a]
 unfold t44
 rw [E0_C, E0_lp]
 have hlF := hF.len
 have hl4 := ha.l4
 have hl14 := ha.l14
 have p40 : ∀ e : Expr, sz e ≤ 2097152 → Ok (W 70 [vE e]) fun _ => True := fun e h => ⟨_, w70_ok e (by omega), trivial⟩
 have p29 : ∀ e : Expr, sz e ≤ 2097152 → Ok (W 71 [vE e]) fun _ => True := fun e h => ⟨_, w71_ok e (by omega), trivial⟩
 have stop : ∀ (k m : Nat) (c : Bool), (bif decide (((min k m : Nat) : Int) < (k : Int)) then decide (((min k m : Nat) : Int) < (m : Int)) else false) = false := fun k m c => by
  by_cases h : k ≤ m
  ·rw [show decide (((min k m : Nat) : Int) < (k : Int)) = false from by simp only [decide_eq_false_iff_not]; omega]; rfl
  ·rw [show decide (((min k m : Nat) : Int) < (m : Int)) = false from by simp only [decide_eq_false_iff_not]; omega]
   cases decide (((min k m : Nat) : Int) < (k : Int)) <;> rfl
 refine Ok.after (Ok.range (min F.length 6) (fun i v => ∃ z, v = ((F, z, (i : Int), ()), ((a.f0, a.f1, a.f2, a.f3, a.f4, a.f5, a.f6, a.f7, a.f8, a.f9, a.f10, a.f11, a.f12, a.f13, a.f14, a.f15, ()), ()))) ?_ ?_ _ ⟨_, rfl⟩)
 ·rintro i v hi ⟨z, rfl⟩
  dsimp only
  have hi1 : i < F.length := by omega
  rw [ltb hi1, show decide ((i : Int) < (6 : Int)) = true from by simp only [decide_eq_true_eq]; omega]
  simp only [cond_true, nnb, Bool.and_true, rd100_get hi1]
  refine Ok.bind (p40 _ (hF.body _ (List.getElem_mem hi1))) fun r _ => ?_
  rw [imp_nn rfl, cond_true]
  refine Ok.bif (fun _ => ⟨_, rfl, trivial⟩) (fun _ => ?_)
  simp only [wrapK_succ hi (by omega)]
  exact Ok.pure ⟨_, rfl⟩
 ·rintro v ⟨z, rfl⟩
  dsimp only
  rw [show (bif decide (((min F.length 6 : Nat) : Int) < (F.length : Int)) then decide (((min F.length 6 : Nat) : Int) < (6 : Int)) else false) = false from stop F.length 6 true, cond_false]
  refine Ok.pure ?_
  dsimp only
  refine Ok.after (Ok.range (min a.f4.length 13) (fun i v => ∃ z1 z2, v = ((F, z1, z2, (i : Int), ()), ((a.f0, a.f1, a.f2, a.f3, a.f4, a.f5, a.f6, a.f7, a.f8, a.f9, a.f10, a.f11, a.f12, a.f13, a.f14, a.f15, ()), ()))) ?_ ?_ _ ⟨_, _, rfl⟩)
  ·rintro i v hi ⟨z1, z2, rfl⟩
   dsimp only
   have hi1 : i < a.f4.length := by omega
   rw [ltb hi1, show decide ((i : Int) < (13 : Int)) = true from by simp only [decide_eq_true_eq]; omega]
   simp only [cond_true, nnb, Bool.and_true, rd49_get hi1]
   have he := ha.e4 _ (List.getElem_mem hi1)
   refine Ok.bind (p40 _ he) fun r5 _ => ?_
   rw [imp_nn rfl, cond_true]
   refine Ok.bind (Ok.gd (p29 _ he)) fun r6 _ => ?_
   rw [imp_nn rfl, cond_true]
   refine Ok.bind (Ok.gd (w72_ok F hF _ he)) fun r7 _ => ?_
   refine Ok.bif (fun _ => ⟨_, rfl, trivial⟩) (fun _ => ?_)
   simp only [wrapK_succ hi (by omega)]
   exact Ok.pure ⟨_, _, rfl⟩
  ·rintro v ⟨z1, z2, rfl⟩
   dsimp only
   rw [show (bif decide (((min a.f4.length 13 : Nat) : Int) < (a.f4.length : Int)) then decide (((min a.f4.length 13 : Nat) : Int) < (13 : Int)) else false) = false from stop a.f4.length 13 true, cond_false]
   refine Ok.pure ?_
   dsimp only
   refine Ok.after (Ok.range (min a.f14.length 9) (fun i v => ∃ z1 z2 z3, v = ((F, z1, z2, z3, (i : Int), ()), ((a.f0, a.f1, a.f2, a.f3, a.f4, a.f5, a.f6, a.f7, a.f8, a.f9, a.f10, a.f11, a.f12, a.f13, a.f14, a.f15, ()), ()))) ?_ ?_ _ ⟨_, _, _, rfl⟩)
   ·rintro i v hi ⟨z1, z2, z3, rfl⟩
    dsimp only
    have hi1 : i < a.f14.length := by omega
    rw [ltb hi1, show decide ((i : Int) < (9 : Int)) = true from by simp only [decide_eq_true_eq]; omega]
    simp only [cond_true, nnb, Bool.and_true, rd103_get hi1]
    have he := ha.e14 _ (List.getElem_mem hi1)
    refine Ok.bind (p40 _ he) fun r5 _ => ?_
    rw [imp_nn rfl, cond_true]
    refine Ok.bind (Ok.gd (p29 _ he)) fun r6 _ => ?_
    rw [imp_nn rfl, cond_true]
    refine Ok.bind (Ok.gd (w72_ok F hF _ he)) fun r7 _ => ?_
    refine Ok.bif (fun _ => ⟨_, rfl, trivial⟩) (fun _ => ?_)
    simp only [wrapK_succ hi (by omega)]
    exact Ok.pure ⟨_, _, _, rfl⟩
   ·rintro v ⟨z1, z2, z3, rfl⟩
    dsimp only
    rw [show (bif decide (((min a.f14.length 9 : Nat) : Int) < (a.f14.length : Int)) then decide (((min a.f14.length 9 : Nat) : Int) < (9 : Int)) else false) = false from stop a.f14.length 9 true, cond_false]
    refine Ok.pure ?_
    exact Ok.pure trivial
theorem w18_ok (F : List Go.Fw.S1.Func) (N : List Node) (hP : SzP F N) : Ok (W 18 [.agg [.lst 100 F, .lst 43 N]]) fun _ => True := by
 rw [show W 18 [.agg [.lst 100 F, .lst 43 N]] = t18 E0 ⟨F, N⟩ from w18 ⟨F, N⟩]
 unfold t18
 rw [E0_C, E0_lp]
 have hlen := hP.len
 refine Ok.after (Ok.range N.length (fun i v => ∃ z, v = ((z, (i : Int), ()), ((F, N, ()), ()))) ?_ ?_ _ ⟨_, rfl⟩)
 ·rintro i v hi ⟨z, rfl⟩
  dsimp only
  simp only [ltb hi, nnb, Bool.and_true, cond_true, rd43_get hi]
  refine Ok.bind (w44_ok F hP.funcs N[i] (hP.nodes _ (List.getElem_mem hi))) fun r _ => ?_
  refine Ok.bif (fun _ => ⟨_, rfl, trivial⟩) (fun _ => ?_)
  simp only [wrapK_succ hi (by omega)]
  exact Ok.pure ⟨_, rfl⟩
 ·rintro v ⟨z, rfl⟩
  dsimp only
  rw [geb (Nat.le_refl _), cond_false]
  exact Ok.pure (Ok.pure trivial)
end Go.Fw.S1
set_option linter.unusedVariables false
set_option maxHeartbeats 1000000
set_option maxRecDepth 100000
namespace Go.Fw.S1
open Go.Proofs
theorem w19_ok (F : List Go.Fw.S1.Func) (N : List Node) (hf : Fit F N) (ev mo : Int) : Ok (W 19 [.agg [.lst 100 F, .lst 43 N], .int .i64 ev, .int .i64 mo]) fun _ => True := by
 rw [show W 19 [.agg [.lst 100 F, .lst 43 N], .int .i64 ev, .int .i64 mo] = t19 E0 ⟨F, N⟩ ev mo from w19 ⟨F, N⟩ ev mo]
 unfold t19
 rw [E0_lp]
 have hlen := hf.len
 refine Ok.after (Ok.range N.length (fun i v => ∃ z, ∃ l : List Int, l.length = i ∧ v = ((ev, mo, z, (i : Int), ()), ((F, N, ()), l, ()))) ?_ ?_ _ ⟨_, [], rfl, rfl⟩)
 ·rintro i v hi ⟨z, l, hl, rfl⟩
  dsimp only
  simp only [ltb hi, nnb, Bool.and_true, cond_true, rd43_get hi]
  have hc := hf.chk i hi
  have hst := hf.step i hi
  generalize N[i] = a at hc hst
  have idx : ∀ x, x ∈ a.f1 → (decide ((0 : Int) ≤ x) && decide (x < (l.length : Int))) = true := fun x hx => by
   have := hc.inb x hx
   simp only [Bool.and_eq_true, decide_eq_true_eq]
   omega
  have hroom : ∀ x : Int, decide ((l.length + ([x] : List Int).length) * 8 ≤ maxRoom) = true := fun x => room (by simp only [List.length_singleton]; omega)
  have two : inpI a.f0 = 2 → 1 < a.f1.length := fun h => by have := hc.ins; rw [h] at this; omega
  simp only [hroom, cond_true, wrapK_succ hi (by omega)]
  refine Ok.bif (fun hin => ?_) (fun hin => ?_)
  ·have hin : 0 < a.f1.length := by simp only [decide_eq_true_eq] at hin; omega
   have r0 : rd3 a.f1 (0 : Int) = a.f1[0] := rd3_get (xs := a.f1) (i := 0) hin
   rw [show (decide ((0 : Int) ≤ (0 : Int)) && decide ((0 : Int) < (a.f1.length : Int))) = true from by simp only [Bool.and_eq_true, decide_eq_true_eq]; omega, r0, idx _ (List.getElem_mem hin)]
   simp only [cond_true]
   refine Ok.bif (fun h3 => ?_) (fun h3 => ?_)
   ·have h2 := two (by rw [eqz h3]; rfl)
    have r1 : rd3 a.f1 (1 : Int) = a.f1[1] := rd3_get (xs := a.f1) (i := 1) h2
    rw [show (decide ((0 : Int) ≤ (1 : Int)) && decide ((1 : Int) < (a.f1.length : Int))) = true from by simp only [Bool.and_eq_true, decide_eq_true_eq]; omega, r1, idx _ (List.getElem_mem h2)]
    simp only [cond_true]
    exact Ok.bif (fun _ => ⟨_, rfl, trivial⟩) (fun _ => Ok.pure ⟨_, _, by simp [hl], rfl⟩)
   refine Ok.bif (fun h6 => ?_) (fun h6 => ?_)
   ·have h2 := two (by rw [eqz h6]; rfl)
    have r1 : rd3 a.f1 (1 : Int) = a.f1[1] := rd3_get (xs := a.f1) (i := 1) h2
    rw [show (decide ((0 : Int) ≤ (1 : Int)) && decide ((1 : Int) < (a.f1.length : Int))) = true from by simp only [Bool.and_eq_true, decide_eq_true_eq]; omega, r1, idx _ (List.getElem_mem h2)]
    simp only [cond_true]
    exact Ok.bif (fun _ => ⟨_, rfl, trivial⟩) (fun _ => Ok.pure ⟨_, _, by simp [hl], rfl⟩)
   refine Ok.bif (fun h4 => ?_) (fun h4 => ?_)
   ·refine Ok.bif (fun h5 => ?_) (fun h5 => ?_)
    ·have h7 := hst (eqz h4) (eqz h5)
     rw [show (a.f7 != 0) = true from by simp; omega]
     simp only [cond_true]
     exact Ok.bif (fun _ => ⟨_, rfl, trivial⟩) (fun _ => Ok.pure ⟨_, _, by simp [hl], rfl⟩)
    ·exact Ok.bif (fun _ => ⟨_, rfl, trivial⟩) (fun _ => Ok.pure ⟨_, _, by simp [hl], rfl⟩)
   ·exact Ok.bif (fun _ => ⟨_, rfl, trivial⟩) (fun _ => Ok.pure ⟨_, _, by simp [hl], rfl⟩)
  ·have hin : ¬ 0 < a.f1.length := by simp only [decide_eq_false_iff_not] at hin; omega
   refine Ok.bif (fun h3 => ?_) (fun h3 => ?_)
   ·exact absurd (two (by rw [eqz h3]; rfl)) (by omega)
   refine Ok.bif (fun h6 => ?_) (fun h6 => ?_)
   ·exact absurd (two (by rw [eqz h6]; rfl)) (by omega)
   refine Ok.bif (fun h4 => ?_) (fun h4 => ?_)
   ·refine Ok.bif (fun h5 => ?_) (fun h5 => ?_)
    ·have h7 := hst (eqz h4) (eqz h5)
     rw [show (a.f7 != 0) = true from by simp; omega]
     simp only [cond_true]
     exact Ok.bif (fun _ => ⟨_, rfl, trivial⟩) (fun _ => Ok.pure ⟨_, _, by simp [hl], rfl⟩)
    ·exact Ok.bif (fun _ => ⟨_, rfl, trivial⟩) (fun _ => Ok.pure ⟨_, _, by simp [hl], rfl⟩)
   ·exact Ok.bif (fun _ => ⟨_, rfl, trivial⟩) (fun _ => Ok.pure ⟨_, _, by simp [hl], rfl⟩)
 ·rintro v ⟨z, l, hl, rfl⟩
  dsimp only
  rw [geb (Nat.le_refl _), cond_false]
  exact Ok.pure (Ok.pure trivial)
theorem w5_ok (F : List Go.Fw.S1.Func) (N : List Node) (hP : SzP F N) (n : Int) : Ok (W 5 [.agg [.lst 100 F, .lst 43 N], .int .i64 n]) (fun (r : Bool × Unit) => r.1 = true → Fit F N) := by
 rw [show W 5 [.agg [.lst 100 F, .lst 43 N], .int .i64 n] = t5 E0 ⟨F, N⟩ n from w5 ⟨F, N⟩ n]
 unfold t5
 rw [E0_C]
 refine Ok.bif (fun _ => Ok.pure fun h => by cases h) (fun _ => ?_)
 refine Ok.bind (w17_ok F N hP) ?_
 rintro ⟨(b : Bool), u⟩ hb
 dsimp only at hb ⊢
 cases b with
 | false =>
  refine Ok.bind (Q := fun _ => True) ⟨_, rfl, trivial⟩ fun r2 _ => ?_
  refine Ok.bind (Q := fun _ => True) ⟨_, rfl, trivial⟩ fun r3 _ => ?_
  exact Ok.pure fun h => by cases h
 | true =>
  have hb := hb rfl
  simp only [cond_true]
  refine Ok.bind (w18_ok F N hP) fun r2 _ => ?_
  refine Ok.bind (Ok.gd (w19_ok F N hb n 1000)) fun r3 _ => ?_
  exact Ok.pure fun _ => hb
end Go.Fw.S1
