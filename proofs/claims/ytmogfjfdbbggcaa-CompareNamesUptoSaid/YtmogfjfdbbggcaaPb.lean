/- Types of expressions: an answer, always; where there is a type, calls name what is there. -/
import Derived.Test.YtmogfjfdbbggcaaPa
set_option linter.unusedVariables false
set_option maxHeartbeats 1000000
set_option maxRecDepth 100000
namespace Go.Fw.S1
open Go.Proofs

def kindB (n : Int) : Bool := (bif (decide ((0 : Int) ≤ n)) then (decide (n < (3 : Int))) else false)
theorem w77_ok (n : Int) : W 77 [.int .i64 n] = some (kindB n, ()) := w77 n

def numI (op : Int) : Int := if 0 ≤ op ∧ op ≤ 5 then 0 else if op = 6 ∨ op = 7 ∨ op = 20 then 1 else if op = 21 then 3 else if op = 22 then -1 else if 5 < op ∧ op < 21 then 2 else -1

theorem w95_ok (op : Int) : W 95 [.int .i64 op] = (some (numI op, ()) : Option (Int × Unit)) := by
  refine (w95 op).trans ?_
  unfold t95
  by_cases h0 : op = 0; · subst h0; rfl
  by_cases h1 : op = 1; · subst h1; rfl
  by_cases h2 : op = 2; · subst h2; rfl
  by_cases h3 : op = 3; · subst h3; rfl
  by_cases h4 : op = 4; · subst h4; rfl
  by_cases h5 : op = 5; · subst h5; rfl
  by_cases h6 : op = 6; · subst h6; rfl
  by_cases h7 : op = 7; · subst h7; rfl
  by_cases h20 : op = 20; · subst h20; rfl
  by_cases h21 : op = 21; · subst h21; rfl
  by_cases h22 : op = 22; · subst h22; rfl
  have b : ∀ k : Int, op ≠ k → (op == k) = false := fun k h => by simpa using h
  rw [b 0 h0, b 1 h1, b 2 h2, b 3 h3, b 4 h4, b 5 h5, b 6 h6, b 7 h7, b 20 h20, b 21 h21, b 22 h22]
  simp only [cond_false]
  unfold numI
  rw [if_neg (by omega), if_neg (by omega), if_neg (by omega), if_neg (by omega)]
  by_cases hr : 5 < op ∧ op < 21
  · rw [if_pos hr, show decide ((5 : Int) < op) = true from by simpa using hr.1, show decide (op < (21 : Int)) = true from by simpa using hr.2]; rfl
  · rw [if_neg hr]
    by_cases h5' : 5 < op
    · rw [show decide ((5 : Int) < op) = true from by simpa using h5', show decide (op < (21 : Int)) = false from by simp only [decide_eq_false_iff_not]; omega]; rfl
    · rw [show decide ((5 : Int) < op) = false from by simpa using h5']; rfl

theorem rd3_opt {xs : List Int} {n x : Int} (h0 : 0 ≤ n) (h : xs[n.toNat]? = some x) : rd3 xs n = x := by
  obtain ⟨h1, h2⟩ := List.getElem?_eq_some_iff.1 h
  have := rd3_get h1
  rw [← h2, ← this]
  congr 1
  omega

theorem w96_ok (l : List Int) (n : Int) : Ok (W 96 [.lst 3 l, .int .i64 n]) fun _ => True := by
  rw [w96 l n]
  unfold t96
  rw [E0_C]
  refine Ok.bif (fun _ => Ok.pure trivial) (fun h => ?_)
  have hr : 0 ≤ n ∧ n < (l.length : Int) := by
    by_cases h1 : n < 0
    · simp [h1] at h
    · by_cases h2 : (l.length : Int) ≤ n
      · simp [h1, h2] at h
      · omega
  rw [show (decide ((0 : Int) ≤ n) && decide (n < (l.length : Int))) = true from by simp only [Bool.and_eq_true, decide_eq_true_eq]; exact hr]
  simp only [cond_true]
  exact Ok.bind ⟨_, w77_ok _, rfl⟩ fun r _ => Ok.pure trivial

theorem rd42_opt {xs : List Go.Fw.S1.Func} {n : Int} {x : Go.Fw.S1.Func} (h0 : 0 ≤ n) (h : xs[n.toNat]? = some x) : rd42 xs n = x := by
  obtain ⟨h1, h2⟩ := List.getElem?_eq_some_iff.1 h
  have := rd42_get h1
  rw [← h2, ← this]
  congr 1
  omega

theorem w94_ok (F : List Go.Fw.S1.Func) (n : Int) (l : List Int) (hl : l.length ≤ 2097152) : Ok (W 94 [.lst 42 F, .int .i64 n, .lst 3 l]) (fun (r : (Int × Bool) × Unit) => r.1.2 = true → 0 ≤ n ∧ n < (F.length : Int)) := by
  rw [w94 F n l]
  unfold t94
  rw [E0_lp]
  refine Ok.bif (fun _ => Ok.pure fun h => by cases h) (fun h => ?_)
  have hr : 0 ≤ n ∧ n < (F.length : Int) := by
    by_cases h1 : n < 0
    · simp [h1] at h
    · by_cases h2 : (F.length : Int) ≤ n
      · simp [h1, h2] at h
      · omega
  rw [show (decide ((0 : Int) ≤ n) && decide (n < (F.length : Int))) = true from by simp only [Bool.and_eq_true, decide_eq_true_eq]; exact hr]
  simp only [cond_true]
  refine Ok.bif (fun _ => Ok.pure fun h => by cases h) (fun hlen => ?_)
  generalize rd42 F n = f at hlen
  have hlen := len_eq hlen
  refine Ok.after (Ok.range l.length (fun i v => ∃ z1 z2, v = ((F, n, l, z1, z2, (i : Int), ()), ((f.f0, f.f1, f.f2, f.f3.f0, f.f3.f1, f.f3.f2, f.f3.f3, ()), ()))) ?_ ?_ _ ⟨_, _, rfl⟩)
  · rintro i v hi ⟨z1, z2, rfl⟩
    dsimp only
    have hi2 : i < f.f1.length := by omega
    simp only [ltb hi, ltb hi2, nnb, Bool.and_true, cond_true]
    refine Ok.bif (fun _ => ⟨_, rfl, fun h => by cases h⟩) (fun _ => ?_)
    simp only [wrapK_succ hi (by omega)]
    exact Ok.pure ⟨_, _, rfl⟩
  · rintro v ⟨z1, z2, rfl⟩
    dsimp only
    rw [geb (Nat.le_refl _), cond_false]
    refine Ok.pure ?_
    exact Ok.pure fun _ => hr

theorem callsL_snoc {n : Nat} {r : List Expr} {i : Nat} (hi : i < r.length) (h1 : callsL n (r.take i)) (h2 : calls n r[i]) : callsL n (r.take (i + 1)) := by
  rw [take_succ hi]
  have : ∀ (a b : List Expr), callsL n a → callsL n b → callsL n (a ++ b) := by
    intro a
    induction a with
    | nil => intro b _ h; exact h
    | cons x a ih => intro b h hb; exact ⟨h.1, ih b h.2 hb⟩
  exact this _ _ h1 ⟨h2, trivial⟩

theorem eqz {a b : Int} (h : (a == b) = true) : a = b := by simpa using h
theorem nez {a b : Int} (h : (a == b) = false) : a ≠ b := by simpa using h
theorem orb {a b : Bool} (h : (bif a then true else b) = true) : a = true ∨ b = true := by cases a <;> simp_all
theorem norb {a b : Bool} (h : (bif a then true else b) = false) : a = false ∧ b = false := by cases a <;> simp_all

/-- inner -/
theorem w87_ok (F : List Go.Fw.S1.Func) (cols params : List Int) : ∀ e : Expr, sz e ≤ 2097152 → Ok (W 87 [.lst 42 F, .lst 3 cols, .lst 3 params, vE e]) (fun (r : (Int × Bool) × Unit) => r.1.2 = true → calls F.length e) := by
  refine Expr.ind fun e ih => fun hs => ?_
  rw [show W 87 [.lst 42 F, .lst 3 cols, .lst 3 params, vE e] = t87 E0 F cols params e from w87 F cols params e]
  unfold t87
  rw [E0_C, E0_lp]
  rw [sz_eq] at hs
  have hle := szL_len e.f3
  refine Ok.after (Ok.range e.f3.length (fun i v => ∃ z1 z2, ∃ l : List Int, l.length = i ∧ callsL F.length (e.f3.take i) ∧ v = ((F, cols, params, z1, z2, (i : Int), ()), ((e.f0, e.f1, e.f2, e.f3, ()), l, ()))) ?_ ?_ _ ⟨_, _, [], rfl, by simp [callsL], rfl⟩)
  · rintro i v hi ⟨z1, z2, l, hl, hc, rfl⟩
    dsimp only
    simp only [ltb hi, nnb, Bool.and_true, cond_true, rd40_get hi]
    have hm : e.f3[i] ∈ e.f3 := List.getElem_mem hi
    have h1 := szL_mem hm
    refine Ok.bind (ih _ hm (by omega)) ?_
    rintro ⟨⟨(t : Int), (b : Bool)⟩, u⟩ hb
    dsimp only at hb ⊢
    cases b with
    | false => exact ⟨_, rfl, fun h => by cases h⟩
    | true =>
      simp only [Bool.not_true, cond_false]
      rw [room (by simp only [List.length_singleton]; omega), cond_true]
      simp only [wrapK_succ hi (by omega)]
      exact Ok.pure ⟨_, _, _, by simp [hl], callsL_snoc hi hc (hb rfl), rfl⟩
  · rintro v ⟨z1, z2, l, hl, hc, rfl⟩
    dsimp only
    rw [geb (Nat.le_refl _), cond_false]
    refine Ok.pure ?_
    dsimp only
    rw [List.take_length] at hc
    refine Ok.bif (fun _ => Ok.pure fun h => by cases h) (fun _ => ?_)
    refine Ok.bif (fun h22 => ?_) (fun h22 => ?_)
    · refine Ok.bind (w94_ok F e.f1 l (by omega)) ?_
      rintro ⟨⟨(t : Int), (b : Bool)⟩, u⟩ hb
      exact Ok.pure fun h => (calls_eq _ _).2 ⟨fun _ => hb h, hc⟩
    · have hcalls : calls F.length e := (calls_eq _ _).2 ⟨fun h => absurd h (nez h22), hc⟩
      refine Ok.bind ⟨_, w95_ok e.f0, rfl⟩ ?_
      rintro r rfl
      dsimp only
      refine Ok.bif (fun _ => Ok.pure fun h => by cases h) (fun hn => ?_)
      have hn : numI e.f0 = (l.length : Int) := by simpa using hn
      have n1 : e.f0 = 6 ∨ e.f0 = 7 ∨ e.f0 = 20 → l.length = 1 := fun h => by
        unfold numI at hn
        rw [if_neg (by omega), if_pos h] at hn
        omega
      have n2 : 8 ≤ e.f0 ∧ e.f0 ≤ 19 → l.length = 2 := fun h => by
        unfold numI at hn
        rw [if_neg (by omega), if_neg (by omega), if_neg (by omega), if_neg (by omega), if_pos (by omega)] at hn
        omega
      have n3 : ¬ (0 ≤ e.f0 ∧ e.f0 ≤ 20) → l.length = 3 := fun h => by
        unfold numI at hn
        rw [if_neg (by omega), if_neg (by omega)] at hn
        split at hn
        · omega
        · split at hn
          · omega
          · split at hn <;> omega
      have in0 : 0 < l.length → (decide ((0 : Int) ≤ (0 : Int)) && decide ((0 : Int) < (l.length : Int))) = true := fun h => by simp only [Bool.and_eq_true, decide_eq_true_eq]; omega
      have in1 : 1 < l.length → (decide ((0 : Int) ≤ (1 : Int)) && decide ((1 : Int) < (l.length : Int))) = true := fun h => by simp only [Bool.and_eq_true, decide_eq_true_eq]; omega
      have in2 : 2 < l.length → (decide ((0 : Int) ≤ (2 : Int)) && decide ((2 : Int) < (l.length : Int))) = true := fun h => by simp only [Bool.and_eq_true, decide_eq_true_eq]; omega
      have imp : ∀ b : Bool, impB true b = true := fun b => rfl
      refine Ok.bif (fun _ => Ok.pure fun _ => hcalls) (fun k0 => ?_)
      refine Ok.bif (fun _ => Ok.pure fun _ => hcalls) (fun k2 => ?_)
      refine Ok.bif (fun _ => Ok.bind (w96_ok _ _) fun r _ => Ok.pure fun _ => hcalls) (fun k3 => ?_)
      refine Ok.bif (fun _ => Ok.bind (w96_ok _ _) fun r _ => Ok.pure fun _ => hcalls) (fun k4 => ?_)
      refine Ok.bif (fun _ => Ok.pure fun h => by cases h) (fun kN => ?_)
      refine Ok.bif (fun _ => Ok.pure fun _ => hcalls) (fun k1 => ?_)
      refine Ok.bif (fun _ => Ok.pure fun _ => hcalls) (fun k5 => ?_)
      refine Ok.bif (fun h => ?_) (fun k6 => ?_)
      · rw [in0 (by have := n1 (.inl (eqz h)); omega)]; exact Ok.pure fun _ => hcalls
      refine Ok.bif (fun h => ?_) (fun k7 => ?_)
      · rw [in0 (by have := n1 (.inr (.inl (eqz h))); omega)]; exact Ok.pure fun _ => hcalls
      refine Ok.bif (fun h => ?_) (fun k20 => ?_)
      · rw [in0 (by have := n1 (.inr (.inr (eqz h))); omega)]; exact Ok.pure fun _ => hcalls
      refine Ok.bif (fun h => ?_) (fun k8 => ?_)
      · have hop : 8 ≤ e.f0 ∧ e.f0 ≤ 19 := by
          rcases orb h with h | h
          · have := eqz h; omega
          rcases orb h with h | h
          · have := eqz h; omega
          rcases orb h with h | h
          · have := eqz h; omega
          rcases orb h with h | h
          · have := eqz h; omega
          · have := eqz h; omega
        have := n2 hop
        rw [in0 (by omega), in1 (by omega), imp]; exact Ok.pure fun _ => hcalls
      refine Ok.bif (fun h => ?_) (fun k13 => ?_)
      · have hop : 8 ≤ e.f0 ∧ e.f0 ≤ 19 := by
          rcases orb h with h | h
          · have := eqz h; omega
          rcases orb h with h | h
          · have := eqz h; omega
          rcases orb h with h | h
          · have := eqz h; omega
          · have := eqz h; omega
        have := n2 hop
        rw [in0 (by omega), in1 (by omega)]; exact Ok.pure fun _ => hcalls
      refine Ok.bif (fun h => ?_) (fun k17 => ?_)
      · have hop : 8 ≤ e.f0 ∧ e.f0 ≤ 19 := by
          rcases orb h with h | h
          · have := eqz h; omega
          · have := eqz h; omega
        have := n2 hop
        rw [in0 (by omega), in1 (by omega), imp]; exact Ok.pure fun _ => hcalls
      refine Ok.bif (fun h => ?_) (fun k19 => ?_)
      · have hop : 8 ≤ e.f0 ∧ e.f0 ≤ 19 := by have := eqz h; omega
        have := n2 hop
        rw [in0 (by omega), in1 (by omega), imp]; exact Ok.pure fun _ => hcalls
      · obtain ⟨a8, k8⟩ := norb k8
        obtain ⟨a9, k8⟩ := norb k8
        obtain ⟨a10, k8⟩ := norb k8
        obtain ⟨a11, a12⟩ := norb k8
        obtain ⟨a13, k13⟩ := norb k13
        obtain ⟨a14, k13⟩ := norb k13
        obtain ⟨a15, a16⟩ := norb k13
        obtain ⟨a17, a18⟩ := norb k17
        have := nez k0; have := nez k1; have := nez k2; have := nez k3; have := nez k4; have := nez k5; have := nez k6; have := nez k7; have := nez k20
        have := nez a8; have := nez a9; have := nez a10; have := nez a11; have := nez a12; have := nez a13; have := nez a14; have := nez a15; have := nez a16; have := nez a17; have := nez a18; have := nez k19
        have h3 := n3 (by omega)
        rw [in0 (by omega), in1 (by omega), in2 (by omega), imp]; exact Ok.pure fun _ => hcalls

/-- of -/
theorem w78_ok (F : List Go.Fw.S1.Func) (cols params : List Int) (e : Expr) (hs : sz e ≤ 2097152) : Ok (W 78 [.lst 42 F, .lst 3 cols, .lst 3 params, vE e]) (fun (r : (Int × Bool) × Unit) => r.1.2 = true → calls F.length e) := by
  rw [show W 78 [.lst 42 F, .lst 3 cols, .lst 3 params, vE e] = t78 E0 F cols params e from w78 F cols params e]
  unfold t78
  rw [E0_C]
  refine Ok.bind ⟨_, w29_ok e (by omega), rfl⟩ ?_
  rintro r rfl
  dsimp only
  refine Ok.bif (fun _ => Ok.pure fun h => by cases h) (fun _ => ?_)
  refine Ok.bind (w87_ok F cols params e hs) ?_
  rintro ⟨⟨(t : Int), (b : Bool)⟩, u⟩ hb
  cases b with
  | false => exact Ok.pure fun h => by cases h
  | true => exact Ok.pure fun _ => hb rfl

end Go.Fw.S1
set_option linter.unusedVariables false
set_option maxHeartbeats 1000000
set_option maxRecDepth 100000
namespace Go.Fw.S1
open Go.Proofs

/-- functions of limited size -/
structure SzF (F : List Go.Fw.S1.Func) : Prop where
  len : F.length ≤ 2097152
  body : ∀ f, f ∈ F → sz f.f3 ≤ 2097152
  params : ∀ f, f ∈ F → f.f1.length ≤ 2097152

theorem w55_ok (F : List Go.Fw.S1.Func) (hF : SzF F) : Ok (W 55 [.lst 42 F]) (fun (r : Bool × Unit) => r.1 = true → callsF F) := by
  rw [w55 F]
  unfold t55
  rw [E0_C, E0_lp]
  have hlen := hF.len
  refine Ok.after (Ok.range (min F.length 21) (fun i v => ∃ z, (∀ j (h : j < F.length), j < i → calls j F[j].f3) ∧ v = ((F, z, (i : Int), ()), ())) ?_ ?_ _ ⟨_, fun j _ hj => by omega, rfl⟩)
  · rintro i v hi ⟨z, hc, rfl⟩
    dsimp only
    have hi1 : i < F.length := by omega
    rw [ltb hi1, show decide ((i : Int) ≤ (20 : Int)) = true from by simp only [decide_eq_true_eq]; omega]
    simp only [cond_true, nnb, Bool.and_true, rd42_get hi1]
    have hm : F[i] ∈ F := List.getElem_mem hi1
    have hp := hF.params _ hm
    refine Ok.after (Ok.range F[i].f1.length (fun k v => ∃ z1 z2, v = ((F, z1, (i : Int), (k : Int), ()), ((z2, F[i].f1, F[i].f2, F[i].f3.f0, F[i].f3.f1, F[i].f3.f2, F[i].f3.f3, ()), ()))) ?_ ?_ _ ⟨_, _, rfl⟩)
    · rintro k v hk ⟨z1, z2, rfl⟩
      dsimp only
      simp only [ltb hk, nnb, Bool.and_true, cond_true]
      refine Ok.bind ⟨_, w77_ok _, rfl⟩ ?_
      rintro r rfl
      refine Ok.bif (fun _ => ⟨_, rfl, fun h => by cases h⟩) (fun _ => ?_)
      simp only [wrapK_succ hk (by omega)]
      exact Ok.pure ⟨_, _, rfl⟩
    · rintro v ⟨z1, z2, rfl⟩
      dsimp only
      rw [geb (Nat.le_refl _), cond_false]
      refine Ok.pure ?_
      dsimp only
      rw [show (decide ((0 : Int) ≤ (0 : Int)) && (decide ((0 : Int) ≤ (i : Int)) && decide ((i : Int) ≤ (F.length : Int)))) = true from by simp only [Bool.and_eq_true, decide_eq_true_eq]; omega, cond_true]
      have hcall := w78_ok ((F.drop 0).take ((i : Int).toNat - 0)) [] F[i].f1 F[i].f3 (hF.body _ hm)
      refine Ok.bind hcall ?_
      rintro ⟨⟨(t : Int), (b : Bool)⟩, u⟩ hb
      dsimp only at hb ⊢
      refine Ok.bif (fun _ => ⟨_, rfl, fun h => by cases h⟩) (fun hh => ?_)
      have hbt : b = true := by
        cases b with
        | true => rfl
        | false => cases hh
      have hci := hb hbt
      rw [show ((F.drop 0).take ((i : Int).toNat - 0)).length = i from by simp; omega] at hci
      simp only [wrapK_succ hi (by omega)]
      refine Ok.pure ⟨_, fun j h hj => ?_, rfl⟩
      rcases Nat.lt_or_ge j i with h' | h'
      · exact hc j h h'
      · have : j = i := by omega
        subst this
        exact hci
  · rintro v ⟨z, hc, rfl⟩
    dsimp only
    by_cases h21 : F.length ≤ 20
    · have : min F.length 21 = F.length := by omega
      rw [this] at hc ⊢
      rw [geb (Nat.le_refl _)]
      simp only [cond_false]
      refine Ok.pure ?_
      refine Ok.pure fun _ i h => hc i h h
    · have : min F.length 21 = 21 := by omega
      rw [this]
      rw [show decide (((21 : Nat) : Int) ≤ (20 : Int)) = false from by simp]
      have hcf : ∀ b : Bool, (bif b then false else false) = false := fun b => by cases b <;> rfl
      rw [hcf, cond_false]
      refine Ok.pure ?_
      refine Ok.pure fun h => ?_
      have h : decide ((F.length : Int) ≤ (20 : Int)) = true := h
      simp only [decide_eq_true_eq] at h
      omega

/-- Type -/
theorem w82_ok (F : List Go.Fw.S1.Func) (hF : SzF F) (cols params : List Int) (e : Expr) (hs : sz e ≤ 2097152) : Ok (W 82 [.lst 42 F, .lst 3 cols, .lst 3 params, vE e]) (fun (r : (Int × Bool) × Unit) => r.1.2 = true → calls F.length e) := by
  rw [show W 82 [.lst 42 F, .lst 3 cols, .lst 3 params, vE e] = t82 E0 F cols params e from w82 F cols params e]
  unfold t82
  rw [E0_C]
  refine Ok.bind (w55_ok F hF) ?_
  intro r _
  refine Ok.bif (fun _ => Ok.pure fun h => by cases h) (fun _ => ?_)
  refine Ok.bind (w78_ok F cols params e hs) ?_
  intro r hr
  exact Ok.pure hr

theorem w81_ok (F : List Go.Fw.S1.Func) (hF : SzF F) (cols : List Int) (e : Expr) (hs : sz e ≤ 2097152) : Ok (W 81 [.lst 42 F, .lst 3 cols, vE e]) (fun (r : Bool × Unit) => r.1 = true → calls F.length e) := by
  rw [show W 81 [.lst 42 F, .lst 3 cols, vE e] = t81 E0 F cols e from w81 F cols e]
  unfold t81
  rw [E0_C]
  refine Ok.bind (w82_ok F hF cols [] e hs) ?_
  rintro ⟨⟨(t : Int), (b : Bool)⟩, u⟩ hb
  cases b with
  | false => exact Ok.pure fun h => by cases h
  | true => exact Ok.pure fun _ => hb rfl

/-- Same, of types -/
theorem w36_ok (l k : List Int) (hl : l.length ≤ 2097152) : Ok (W 36 [.lst 3 l, .lst 3 k]) fun _ => True := by
  rw [w36 l k]
  unfold t36
  rw [E0_lp]
  refine Ok.bif (fun _ => Ok.pure trivial) (fun h => ?_)
  have hlen := len_eq h
  refine Ok.after (Ok.range l.length (fun i v => ∃ z, v = ((l, k, z, (i : Int), ()), ())) ?_ ?_ _ ⟨_, rfl⟩)
  · rintro i v hi ⟨z, rfl⟩
    dsimp only
    have hi2 : i < k.length := by omega
    simp only [ltb hi, ltb hi2, nnb, Bool.and_true, cond_true]
    refine Ok.bif (fun _ => ⟨_, rfl, trivial⟩) (fun _ => ?_)
    simp only [wrapK_succ hi (by omega)]
    exact Ok.pure ⟨_, rfl⟩
  · rintro v ⟨z, rfl⟩
    dsimp only
    rw [geb (Nat.le_refl _), cond_false]
    exact Ok.pure (Ok.pure trivial)

/-- Types -/
theorem w37_ok (l : List Col) (hl : l.length ≤ 2097152) : Ok (W 37 [.lst 50 l]) (fun (r : List Int × Unit) => r.1.length = l.length) := by
  rw [w37 l]
  unfold t37
  rw [E0_lp]
  refine Ok.after (Ok.range l.length (fun i v => ∃ z, ∃ out : List Int, out.length = i ∧ v = ((l, (i : Int), ()), (z, out, ()))) ?_ ?_ _ ⟨_, [], rfl, rfl⟩)
  · rintro i v hi ⟨z, out, ho, rfl⟩
    dsimp only
    simp only [ltb hi, nnb, Bool.and_true, cond_true]
    rw [room (by simp only [List.length_singleton]; omega), cond_true]
    simp only [wrapK_succ hi (by omega)]
    exact Ok.pure ⟨_, _, by simp [ho], rfl⟩
  · rintro v ⟨z, out, ho, rfl⟩
    dsimp only
    rw [geb (Nat.le_refl _), cond_false]
    exact Ok.pure (Ok.pure ho)

theorem imp_nn {b c : Bool} (h : b = true) : impB b c = true := by rw [h]; rfl

/-- within: numbers are indices -/
theorem w83_ok (l t : List Int) (hl : l.length ≤ 2097152) : Ok (W 83 [.lst 3 l, .lst 3 t]) (fun (r : Bool × Unit) => r.1 = true → ∀ x, x ∈ l → 0 ≤ x ∧ x < (t.length : Int)) := by
  rw [w83 l t]
  unfold t83
  rw [E0_lp]
  refine Ok.after (Ok.range l.length (fun i v => ∃ z, (∀ j (h : j < l.length), j < i → 0 ≤ l[j] ∧ l[j] < (t.length : Int)) ∧ v = ((l, t, z, (i : Int), ()), ())) ?_ ?_ _ ⟨_, fun j _ hj => by omega, rfl⟩)
  · rintro i v hi ⟨z, hj, rfl⟩
    dsimp only
    simp only [ltb hi, nnb, Bool.and_true, cond_true, rd3_get hi]
    rw [imp_nn rfl, cond_true]
    refine Ok.bif (fun _ => ⟨_, rfl, fun h => by cases h⟩) (fun hh => ?_)
    obtain ⟨h1, h2⟩ := norb hh
    simp only [decide_eq_false_iff_not] at h1 h2
    simp only [wrapK_succ hi (by omega)]
    refine Ok.pure ⟨_, fun j h hji => ?_, rfl⟩
    rcases Nat.lt_or_ge j i with h' | h'
    · exact hj j h h'
    · have : j = i := by omega
      subst this
      omega
  · rintro v ⟨z, hj, rfl⟩
    dsimp only
    rw [geb (Nat.le_refl _), cond_false]
    refine Ok.pure (Ok.pure fun _ x hx => ?_)
    obtain ⟨j, hj', rfl⟩ := List.getElem_of_mem hx
    exact hj j hj' hj'

/-- pick -/
theorem w84_ok (t l : List Int) (hl : l.length ≤ 2097152) (hin : ∀ x, x ∈ l → 0 ≤ x ∧ x < (t.length : Int)) : Ok (W 84 [.lst 3 t, .lst 3 l]) (fun (r : List Int × Unit) => r.1.length = l.length) := by
  rw [w84 t l]
  unfold t84
  rw [E0_lp]
  refine Ok.after (Ok.range l.length (fun i v => ∃ z, ∃ out : List Int, out.length = i ∧ v = ((t, l, (i : Int), ()), (z, out, ()))) ?_ ?_ _ ⟨_, [], rfl, rfl⟩)
  · rintro i v hi ⟨z, out, ho, rfl⟩
    dsimp only
    simp only [ltb hi, nnb, Bool.and_true, cond_true, rd3_get hi]
    obtain ⟨h0, h1⟩ := hin _ (List.getElem_mem hi)
    rw [show (decide ((0 : Int) ≤ l[i]) && decide (l[i] < (t.length : Int))) = true from by simp only [Bool.and_eq_true, decide_eq_true_eq]; exact ⟨h0, h1⟩, cond_true]
    rw [room (by simp only [List.length_singleton]; omega), cond_true]
    simp only [wrapK_succ hi (by omega)]
    exact Ok.pure ⟨_, _, by simp [ho], rfl⟩
  · rintro v ⟨z, out, ho, rfl⟩
    dsimp only
    rw [geb (Nat.le_refl _), cond_false]
    exact Ok.pure (Ok.pure ho)

end Go.Fw.S1
set_option linter.unusedVariables false
set_option maxHeartbeats 1000000
set_option maxRecDepth 100000
namespace Go.Fw.S1
open Go.Proofs

def inpI (op : Int) : Int := bif (op == (0 : Int)) then 0 else (bif (bif (op == (3 : Int)) then true else (bif (op == (6 : Int)) then true else (op == (7 : Int)))) then 2 else 1)

theorem w38_ok (op : Int) : W 38 [.int .i64 op] = (some (inpI op, ()) : Option (Int × Unit)) := by
  refine (w38 op).trans ?_
  unfold t38 inpI
  cases (op == (0 : Int)) <;> cases (op == (3 : Int)) <;> cases (op == (6 : Int)) <;> cases (op == (7 : Int)) <;> rfl

theorem w56_ok (op : Int) : W 56 [.int .i64 op] = (some (inpI op, ()) : Option (Int × Unit)) := by
  refine (w56 op).trans ?_
  unfold t56 inpI
  cases (op == (0 : Int)) <;> cases (op == (3 : Int)) <;> cases (op == (6 : Int)) <;> cases (op == (7 : Int)) <;> rfl

theorem w39_ok (n f t : Int) : W 39 [.int .i64 n, .int .i64 f, .int .i64 t] = some (withinB n f t, ()) := w39 n f t

/-- a text that is not empty has a letter -/
theorem size_pos {s : ByteArray} (h : (s.toList == (⟨#[]⟩ : ByteArray).toList) = false) : 0 < s.size := by
  rcases Nat.eq_zero_or_pos s.size with h0 | h0
  · exfalso
    have : s = ⟨#[]⟩ := by
      cases s with
      | mk d =>
        have : d.size = 0 := h0
        have : d = #[] := Array.eq_empty_of_size_eq_zero this
        rw [this]
    rw [this] at h
    simp at h
  · exact h0

/-- Name -/
theorem w79_ok (s : ByteArray) (hs : s.size ≤ 2097152) : Ok (W 79 [.str s]) fun _ => True := by
  rw [w79 s]
  unfold t79
  rw [E0_lp]
  cases he : (s.toList == (⟨#[]⟩ : ByteArray).toList) with
  | true =>
    have i1 : ∀ b : Bool, impB b false = true := fun b => by cases b <;> rfl
    simp only [cond_true, Bool.not_true, Bool.false_and, i1]
    exact Ok.pure trivial
  | false =>
    have hp := size_pos he
    have in0 : (decide ((0 : Int) ≤ (0 : Int)) && decide ((0 : Int) < (s.size : Int))) = true := by simp only [Bool.and_eq_true, decide_eq_true_eq]; omega
    rw [in0, imp_nn rfl, imp_nn rfl]
    simp only [cond_true]
    refine Ok.bif (fun _ => Ok.pure trivial) (fun _ => ?_)
    refine Ok.after (Ok.range s.size (fun i v => ∃ z, v = ((s, z, (i : Int), ()), ())) ?_ ?_ _ ⟨_, rfl⟩)
    · rintro i v hi ⟨z, rfl⟩
      dsimp only
      simp only [ltb hi, nnb, Bool.and_true, cond_true]
      refine Ok.bif (fun _ => ⟨_, rfl, trivial⟩) (fun _ => ?_)
      simp only [wrapK_succ hi (by omega)]
      exact Ok.pure ⟨_, rfl⟩
    · rintro v ⟨z, rfl⟩
      dsimp only
      rw [geb (Nat.le_refl _), cond_false]
      exact Ok.pure (Ok.pure trivial)

theorem w90_ok (n : Int) : Ok (W 90 [.int .i64 n]) fun _ => True := by
  rw [w90 n]
  unfold t90
  exact Ok.bif (fun _ => Ok.pure trivial) fun _ => Ok.bif (fun _ => Ok.pure trivial) fun _ => Ok.bif (fun _ => Ok.pure trivial) fun _ => Ok.pure trivial

theorem w97_ok (s : ByteArray) : Ok (W 97 [.str s]) fun _ => True := by
  rw [w97 s]
  unfold t97
  rw [E0_C, E0_lp]
  refine Ok.after (Ok.range 3 (fun i v => ∃ z1 z2, v = ((s, z1, z2, (i : Int), ()), ())) ?_ ?_ _ ⟨_, _, rfl⟩)
  · rintro i v hi ⟨z1, z2, rfl⟩
    dsimp only
    rw [show decide ((i : Int) < (3 : Int)) = true from by simp only [decide_eq_true_eq]; omega]
    simp only [cond_true]
    refine Ok.bind (w90_ok _) fun r _ => ?_
    refine Ok.bif (fun _ => ⟨_, rfl, trivial⟩) (fun _ => ?_)
    simp only [wrapK_succ hi (by omega)]
    exact Ok.pure ⟨_, _, rfl⟩
  · rintro v ⟨z1, z2, rfl⟩
    dsimp only
    rw [show decide (((3 : Nat) : Int) < (3 : Int)) = false from by simp, cond_false]
    exact Ok.pure (Ok.pure trivial)

theorem w88_ok (s : ByteArray) (hs : s.size ≤ 2097152) : Ok (W 88 [.str s]) fun _ => True := by
  rw [w88 s]
  unfold t88
  rw [E0_C]
  refine Ok.bind (w97_ok s) fun r _ => ?_
  refine Ok.bind (w79_ok s hs) fun r _ => ?_
  exact Ok.pure trivial

theorem w89_ok (l : List Col) (hl : l.length ≤ 2097152) (s : ByteArray) : Ok (W 89 [.lst 50 l, .str s]) fun _ => True := by
  rw [w89 l s]
  unfold t89
  rw [E0_lp]
  refine Ok.after (Ok.range l.length (fun i v => ∃ z, v = ((l, s, z, (i : Int), ()), ())) ?_ ?_ _ ⟨_, rfl⟩)
  · rintro i v hi ⟨z, rfl⟩
    dsimp only
    simp only [ltb hi, nnb, Bool.and_true, cond_true]
    refine Ok.bif (fun _ => ⟨_, rfl, trivial⟩) (fun _ => ?_)
    simp only [wrapK_succ hi (by omega)]
    exact Ok.pure ⟨_, rfl⟩
  · rintro v ⟨z, rfl⟩
    dsimp only
    rw [geb (Nat.le_refl _), cond_false]
    exact Ok.pure (Ok.pure trivial)

theorem Ok.gd {α : Type} {b : Bool} {x : Option α} {d : α} (h : Ok x fun _ => True) : Ok (bif b then x else some d) fun _ => True := by
  cases b with
  | true => exact h
  | false => exact Ok.pure trivial

/-- columns of limited size -/
structure SzC (l : List Col) : Prop where
  len : l.length ≤ 2097152
  name : ∀ c, c ∈ l → c.f0.size ≤ 2097152
  unit : ∀ c, c ∈ l → c.f2.size ≤ 2097152

theorem w80_ok (l : List Col) (hl : SzC l) : Ok (W 80 [.lst 50 l]) fun _ => True := by
  rw [w80 l]
  unfold t80
  rw [E0_C, E0_lp]
  have hlen := hl.len
  refine Ok.after (Ok.range l.length (fun i v => ∃ z, v = ((l, z, (i : Int), ()), ())) ?_ ?_ _ ⟨_, rfl⟩)
  · rintro i v hi ⟨z, rfl⟩
    dsimp only
    simp only [ltb hi, nnb, Bool.and_true, cond_true, rd50_get hi]
    have hm : l[i] ∈ l := List.getElem_mem hi
    refine Ok.bind (w88_ok _ (hl.name _ hm)) fun r2 _ => ?_
    refine Ok.bind (Ok.gd (w89_ok l hlen _)) fun r3 _ => ?_
    refine Ok.bind (Ok.gd (w90_ok _)) fun r4 _ => ?_
    refine Ok.bif (fun _ => ⟨_, rfl, trivial⟩) (fun _ => ?_)
    refine Ok.bind (Ok.gd (w88_ok _ (hl.unit _ hm))) fun r5 _ => ?_
    refine Ok.bif (fun _ => ⟨_, rfl, trivial⟩) (fun _ => ?_)
    simp only [wrapK_succ hi (by omega)]
    exact Ok.pure ⟨_, rfl⟩
  · rintro v ⟨z, rfl⟩
    dsimp only
    rw [geb (Nat.le_refl _), cond_false]
    exact Ok.pure (Ok.pure trivial)

theorem nez' {a b : Int} (h : (a != b) = true) : a ≠ b := by simpa using h
theorem eqz' {a b : Int} (h : (a != b) = false) : a = b := by simpa using h

/-- bare: what is unused is empty -/
theorem w57_ok (a : Node) : Ok (W 57 [vN a]) (fun (r : Bool × Unit) => r.1 = true → (a.f0 ≠ 1 ∧ a.f0 ≠ 2 → a.f4 = []) ∧ (a.f0 ≠ 8 → a.f14 = [])) := by
  rw [show W 57 [vN a] = t57 E0 a from w57 a]
  unfold t57
  refine Ok.bif (fun _ => Ok.pure fun h => by cases h) (fun _ => ?_)
  refine Ok.bif (fun _ => Ok.pure fun h => by cases h) (fun h1 => ?_)
  refine Ok.bif (fun _ => Ok.pure fun h => by cases h) (fun _ => ?_)
  refine Ok.bif (fun _ => Ok.pure fun h => by cases h) (fun _ => ?_)
  refine Ok.pure fun h => ⟨fun hne => ?_, fun hne => ?_⟩
  · obtain ⟨h1, _⟩ := norb h1
    rw [show (a.f0 != (1 : Int)) = true from by simpa using hne.1, show (a.f0 != (2 : Int)) = true from by simpa using hne.2] at h1
    simp only [cond_true, decide_eq_false_iff_not] at h1
    cases hh : a.f4 with
    | nil => rfl
    | cons x r => rw [hh] at h1; simp at h1
  · have h : (bif (a.f0 == (8 : Int)) then true else ((a.f14.length : Int) == (0 : Int))) = true := h
    rcases orb h with h | h
    · exact absurd (eqz h) hne
    · have := eqz h
      cases hh : a.f14 with
      | nil => rfl
      | cons x r => rw [hh] at this; simp at this; omega

/-- digits of a small number -/
theorem w59_ok (n : Nat) (hn : n < 100) : Ok (W 59 [.int .i64 (n : Int)]) (fun (r : ByteArray × Unit) => r.1.size ≤ 10) := by
  have base : ∀ k : Nat, k < 10 → Ok (W 59 [.int .i64 (k : Int)]) (fun (r : ByteArray × Unit) => r.1.size ≤ 1) := fun k hk => by
    rw [w59 (k : Int)]
    unfold t59
    rw [nnb, show decide ((k : Int) < (10 : Int)) = true from by simp only [decide_eq_true_eq]; omega]
    simp only [cond_true]
    refine Ok.pure ?_
    show (byteStr _).size ≤ 1
    simp [byteStr, ByteArray.size]
  by_cases h10 : n < 10
  · exact (base n h10).mono fun r h => by omega
  · rw [w59 (n : Int)]
    unfold t59
    rw [E0_C, nnb, show decide ((n : Int) < (10 : Int)) = false from by simp only [decide_eq_false_iff_not]; omega, show decide ((0 : Int) < (n : Int)) = true from by simp only [decide_eq_true_eq]; omega]
    simp only [cond_true, cond_false]
    have e1 : wrapK .i64 ((n : Int).tdiv (10 : Int)) = ((n / 10 : Nat) : Int) := by
      have : (n : Int).tdiv (10 : Int) = ((n / 10 : Nat) : Int) := rfl
      rw [this, wrapK_id (by omega) (by omega)]
    have e2 : (n : Int).tmod (10 : Int) = ((n % 10 : Nat) : Int) := rfl
    rw [e1, e2]
    refine Ok.bind (base (n / 10) (by omega)) ?_
    intro r1 h1
    refine Ok.bind (base (n % 10) (by omega)) ?_
    intro r2 h2
    rw [show decide (ByteArray.size r1.1 + ByteArray.size r2.1 ≤ 9223372036854775807) = true from by simp only [decide_eq_true_eq]; omega, cond_true]
    refine Ok.pure ?_
    show (ByteArray.size (_ ++ _)) ≤ 10
    rw [ByteArray.size_append]
    omega

/-- Bounded: the step of a sliding window -/
theorem w26_ok (a : Node) : Ok (W 26 [vN a]) (fun (r : Bool × Unit) => r.1 = true → a.f0 = 4 → a.f5 = 1 → 1 ≤ a.f7) := by
  rw [show W 26 [vN a] = t26 E0 a from w26 a]
  unfold t26
  rw [E0_C]
  refine Ok.bif (fun h4 => ?_) (fun h4 => ?_)
  · refine Ok.bind ⟨_, w39_ok _ _ _, rfl⟩ ?_
    rintro r rfl
    refine Ok.bif (fun _ => Ok.pure fun h => by cases h) (fun _ => ?_)
    refine Ok.bif (fun h => Ok.pure fun _ _ h5 => by have := eqz h; omega) (fun _ => ?_)
    refine Ok.bif (fun h => ?_) (fun h5 => ?_)
    · refine Ok.bif (fun _ => Ok.pure fun h => by cases h) (fun h7 => ?_)
      simp only [decide_eq_false_iff_not] at h7
      rw [show (a.f7 != 0) = true from by simp; omega, cond_true]
      exact Ok.pure fun _ _ _ => by omega
    · refine Ok.bif (fun _ => ?_) (fun _ => Ok.pure fun h => by cases h)
      refine Ok.bind ⟨_, w39_ok _ _ _, rfl⟩ ?_
      rintro r rfl
      exact Ok.pure fun _ _ h => absurd h (nez h5)
  · have hne := nez h4
    have w : ∀ n f t, Ok (W 39 [.int .i64 n, .int .i64 f, .int .i64 t]) fun _ => True := fun n f t => ⟨_, w39_ok n f t, trivial⟩
    refine Ok.bif (fun _ => Ok.bind (w _ _ _) fun r _ => Ok.bind (Ok.gd (w _ _ _)) fun r _ => Ok.pure fun _ h => absurd h hne) (fun _ => ?_)
    refine Ok.bif (fun _ => Ok.bind (w _ _ _) fun r _ => Ok.bind (Ok.gd (w _ _ _)) fun r _ => Ok.pure fun _ h => absurd h hne) (fun _ => ?_)
    refine Ok.bif (fun _ => Ok.bind (w _ _ _) fun r _ => Ok.pure fun _ h => absurd h hne) (fun _ => ?_)
    refine Ok.bif (fun _ => Ok.bind (w _ _ _) fun r _ => Ok.bind (Ok.gd (w _ _ _)) fun r _ => Ok.pure fun _ h => absurd h hne) (fun _ => ?_)
    exact Ok.bind (w _ _ _) fun r _ => Ok.pure fun _ h => absurd h hne

end Go.Fw.S1
set_option linter.unusedVariables false
set_option maxHeartbeats 1000000
set_option maxRecDepth 100000
namespace Go.Fw.S1
open Go.Proofs

/-- a node of limited size -/
structure SzN (a : Node) : Prop where
  l1 : a.f1.length ≤ 2097152
  s2 : a.f2.size ≤ 2097152
  l4 : a.f4.length ≤ 2097152
  e4 : ∀ e, e ∈ a.f4 → sz e ≤ 2097152
  l8 : a.f8.length ≤ 2097152
  l9 : a.f9.length ≤ 2097152
  l13 : a.f13.length ≤ 2097152
  l14 : a.f14.length ≤ 2097152
  e14 : ∀ p, p ∈ a.f14 → sz p.f0 ≤ 2097152
  c15 : SzC a.f15

def FollowPost (F : List Go.Fw.S1.Func) (a : Node) (r : (List Int × Bool) × Unit) : Prop :=
  r.1.2 = true → (a.f0 = 1 ∨ a.f0 = 2 → ∀ e, e ∈ a.f4 → calls F.length e) ∧ (a.f0 = 8 → ∀ p, p ∈ a.f14 → calls F.length p.f0)

theorem w58_ok (F : List Go.Fw.S1.Func) (hF : SzF F) (a : Node) (ha : SzN a) (t u : List Int) (ht : t.length ≤ 2097152) (hu : u.length ≤ 2097152) : Ok (W 58 [.lst 42 F, vN a, .lst 3 t, .lst 3 u]) (FollowPost F a) := by
  rw [show W 58 [.lst 42 F, vN a, .lst 3 t, .lst 3 u] = t58 E0 F a t u from w58 F a t u]
  unfold t58
  rw [E0_C, E0_lp]
  have ff : ∀ (l : List Int) (b : Bool) (h : ¬ (a.f0 = 1 ∨ a.f0 = 2)) (h8 : a.f0 ≠ 8), FollowPost F a ((l, b), ()) := fun l b h h8 _ => ⟨fun hh => absurd hh h, fun hh => absurd hh h8⟩
  have fz : ∀ (l : List Int), FollowPost F a ((l, false), ()) := fun l h => by cases h
  refine Ok.bif (fun h0 => ?_) (fun h0 => ?_)
  · have h0 := eqz h0
    refine Ok.bind (w37_ok a.f15 ha.c15.len) fun r1 _ => ?_
    refine Ok.bind (w79_ok a.f2 ha.s2) fun r2 _ => ?_
    refine Ok.bind (Ok.gd (w80_ok a.f15 ha.c15)) fun r3 _ => ?_
    exact Ok.pure (ff _ _ (by omega) (by omega))
  have h0 := nez h0
  refine Ok.bif (fun h1 => ?_) (fun h1 => ?_)
  · have h1 := eqz h1
    refine Ok.bif (fun _ => Ok.pure (fz _)) (fun hl => ?_)
    have hl : a.f4.length = 1 := by
      have := eqz' hl
      omega
    rw [show (decide ((0 : Int) ≤ (0 : Int)) && decide ((0 : Int) < (a.f4.length : Int))) = true from by simp only [Bool.and_eq_true, decide_eq_true_eq]; omega, cond_true]
    have hr : rd40 a.f4 (0 : Int) = a.f4[0] := rd40_get (xs := a.f4) (i := 0) (by omega)
    rw [hr]
    refine Ok.bind (w81_ok F hF t _ (ha.e4 _ (List.getElem_mem (by omega)))) ?_
    intro r hr
    refine Ok.pure fun h => ⟨fun _ e he => ?_, fun hh => by omega⟩
    obtain ⟨j, hj, rfl⟩ := List.getElem_of_mem he
    have : j = 0 := by omega
    subst this
    exact hr h
  have h1 := nez h1
  refine Ok.bif (fun h2 => ?_) (fun h2 => ?_)
  · have h2 := eqz h2
    have hl4 := ha.l4
    refine Ok.after (Ok.range a.f4.length (fun i v => ∃ z1 z2, ∃ out : List Int, out.length = i ∧ (∀ j (h : j < a.f4.length), j < i → calls F.length a.f4[j]) ∧ v = ((F, t, u, z1, (i : Int), a.f0, ()), ((a.f0, a.f1, a.f2, a.f3, a.f4, a.f5, a.f6, a.f7, a.f8, a.f9, a.f10, a.f11, a.f12, a.f13, a.f14, a.f15, ()), z2, out, ()))) ?_ ?_ _ ⟨_, _, [], rfl, fun j _ hj => by omega, rfl⟩)
    · rintro i v hi ⟨z1, z2, out, ho, hc, rfl⟩
      dsimp only
      simp only [ltb hi, nnb, Bool.and_true, cond_true, rd40_get hi]
      refine Ok.bind (w82_ok F hF t [] _ (ha.e4 _ (List.getElem_mem hi))) ?_
      rintro ⟨⟨(k : Int), (b : Bool)⟩, w⟩ hb
      dsimp only at hb ⊢
      cases b with
      | false => exact ⟨_, rfl, fz _⟩
      | true =>
        simp only [Bool.not_true, cond_false]
        rw [room (by simp only [List.length_singleton]; omega), cond_true]
        simp only [wrapK_succ hi (by omega)]
        refine Ok.pure ⟨_, _, _, by simp [ho], fun j h hj => ?_, rfl⟩
        rcases Nat.lt_or_ge j i with h' | h'
        · exact hc j h h'
        · have : j = i := by omega
          subst this
          exact hb rfl
    · rintro v ⟨z1, z2, out, ho, hc, rfl⟩
      dsimp only
      rw [geb (Nat.le_refl _), cond_false]
      refine Ok.pure (Ok.pure fun _ => ⟨fun _ e he => ?_, fun hh => by omega⟩)
      obtain ⟨j, hj, rfl⟩ := List.getElem_of_mem he
      exact hc j hj hj
  have h2 := nez h2
  have hn12 : ¬ (a.f0 = 1 ∨ a.f0 = 2) := by omega
  refine Ok.bif (fun h3 => ?_) (fun h3 => ?_)
  · have h3 := eqz h3
    refine Ok.bind (w36_ok t u ht) fun r8 _ => ?_
    exact Ok.pure (ff _ _ hn12 (by omega))
  refine Ok.bif (fun h5 => ?_) (fun h5 => ?_)
  · have h5 := eqz h5
    refine Ok.bind (w83_ok a.f8 t ha.l8) fun r9 _ => ?_
    exact Ok.pure (ff _ _ hn12 (by omega))
  refine Ok.bind (w83_ok a.f8 t ha.l8) ?_
  rintro ⟨(b10 : Bool), u10⟩ hb10
  dsimp only at hb10 ⊢
  cases b10 with
  | false =>
    refine Ok.bind (Q := fun _ => True) ⟨_, rfl, trivial⟩ fun r _ => ?_
    exact Ok.pure (fz _)
  | true =>
  have hb10 := hb10 rfl
  simp only [Bool.not_true, Bool.not_false, cond_true, cond_false]
  refine Ok.bind (w83_ok a.f9 u ha.l9) ?_
  rintro ⟨(b11 : Bool), u11⟩ hb11
  dsimp only at hb11 ⊢
  cases b11 with
  | false => exact Ok.pure (fz _)
  | true =>
  have hb11 := hb11 rfl
  simp only [Bool.not_true, cond_false]
  have hl8 := ha.l8
  refine Ok.bind (w84_ok t a.f8 ha.l8 hb10) ?_
  rintro ⟨(r12 : List Int), u12⟩ hr12
  dsimp only at hr12 ⊢
  refine Ok.bif (fun h67 => ?_) (fun h67 => ?_)
  · have hn8 : a.f0 ≠ 8 := by
      rcases orb h67 with h | h
      · have := eqz h; omega
      · have := eqz h; omega
    rw [room (by simp only [List.length_nil]; omega), cond_true, room (by simp only [List.length_nil, List.nil_append]; omega), cond_true]
    refine Ok.bind (w84_ok u a.f9 ha.l9 hb11) fun r13 _ => ?_
    refine Ok.bind (w36_ok r12 r13.1 (by omega)) fun r14 _ => ?_
    exact Ok.pure (ff _ _ hn12 hn8)
  refine Ok.bif (fun h8 => ?_) (fun h8 => ?_)
  · have h8 := eqz h8
    have hl14 := ha.l14
    refine Ok.after (Ok.range a.f14.length (fun i v => ∃ z1 z2, (∀ j (h : j < a.f14.length), j < i → calls F.length a.f14[j].f0) ∧ v = ((F, t, u, z1, (i : Int), a.f0, ()), ((a.f0, a.f1, a.f2, a.f3, a.f4, a.f5, a.f6, a.f7, a.f8, a.f9, a.f10, a.f11, a.f12, a.f13, a.f14, a.f15, ()), z2, r12, ()))) ?_ ?_ _ ⟨_, _, fun j _ hj => by omega, rfl⟩)
    · rintro i v hi ⟨z1, z2, hc, rfl⟩
      dsimp only
      simp only [ltb hi, nnb, Bool.and_true, cond_true, rd58_get hi]
      rw [imp_nn rfl, imp_nn rfl]
      simp only [cond_true]
      have hp := ha.e14 _ (List.getElem_mem hi)
      generalize hbad : (bif decide (a.f14[i].f1 < (0 : Int)) then true else decide ((2 : Int) < a.f14[i].f1)) = bad
      cases bad with
      | true =>
        refine Ok.bind (Q := fun _ => True) ⟨_, rfl, trivial⟩ fun r _ => ?_
        exact ⟨_, rfl, fz _⟩
      | false =>
        simp only [Bool.not_false, cond_true, cond_false]
        refine Ok.bind (w81_ok F hF t _ hp) ?_
        rintro ⟨(b : Bool), w⟩ hb
        dsimp only at hb ⊢
        cases b with
        | false => exact ⟨_, rfl, fz _⟩
        | true =>
          simp only [Bool.not_true, cond_false, wrapK_succ hi (by omega)]
          refine Ok.pure ⟨_, _, fun j h hj => ?_, rfl⟩
          rcases Nat.lt_or_ge j i with h' | h'
          · exact hc j h h'
          · have : j = i := by omega
            subst this
            exact hb rfl
    · rintro v ⟨z1, z2, hc, rfl⟩
      dsimp only
      rw [geb (Nat.le_refl _), cond_false]
      refine Ok.pure ?_
      dsimp only
      rw [room (by simp only [List.length_cons, List.length_nil]; omega), cond_true]
      refine Ok.pure fun _ => ⟨fun hh => absurd hh hn12, fun _ p hp => ?_⟩
      obtain ⟨j, hj, rfl⟩ := List.getElem_of_mem hp
      exact hc j hj hj
  have h8 := nez h8
  rw [room (by simp only [List.length_singleton]; omega), cond_true]
  have hl13 := ha.l13
  refine Ok.after (Ok.range a.f13.length (fun i v => ∃ z1 z2, ∃ out : List Int, out.length ≤ 2097153 + i ∧ v = ((F, t, u, z1, (i : Int), a.f0, ()), ((a.f0, a.f1, a.f2, a.f3, a.f4, a.f5, a.f6, a.f7, a.f8, a.f9, a.f10, a.f11, a.f12, a.f13, a.f14, a.f15, ()), z2, out, ()))) ?_ ?_ _ ⟨_, _, r12 ++ [0], by simp; omega, rfl⟩)
  · rintro i v hi ⟨z1, z2, out, ho, rfl⟩
    dsimp only
    simp only [ltb hi, nnb, Bool.and_true, cond_true, rd52_get hi]
    refine Ok.bif (fun _ => ⟨_, rfl, fz _⟩) (fun hbad => ?_)
    obtain ⟨_, hcol⟩ := norb hbad
    refine Ok.bif (fun hk => ?_) (fun hk => ?_)
    · rw [room (by simp only [List.length_singleton]; omega), cond_true]
      simp only [wrapK_succ hi (by omega)]
      exact Ok.pure ⟨_, _, _, by simp; omega, rfl⟩
    · rw [show (a.f13[i].f0 != (0 : Int)) = true from by simpa using nez hk, cond_true] at hcol
      obtain ⟨c1, c2⟩ := norb hcol
      simp only [decide_eq_false_iff_not] at c1 c2
      have hin : (decide ((0 : Int) ≤ a.f13[i].f1) && decide (a.f13[i].f1 < (t.length : Int))) = true := by simp only [Bool.and_eq_true, decide_eq_true_eq]; omega
      rw [hin, imp_nn rfl]
      simp only [cond_true]
      refine Ok.bif (fun _ => ⟨_, rfl, fz _⟩) (fun _ => ?_)
      rw [room (by simp only [List.length_singleton]; omega), cond_true]
      simp only [wrapK_succ hi (by omega)]
      exact Ok.pure ⟨_, _, _, by simp; omega, rfl⟩
  · rintro v ⟨z1, z2, out, ho, rfl⟩
    dsimp only
    rw [geb (Nat.le_refl _), cond_false]
    exact Ok.pure (Ok.pure (ff _ _ hn12 h8))

end Go.Fw.S1
set_option linter.unusedVariables false
set_option maxHeartbeats 1000000
set_option maxRecDepth 100000
namespace Go.Fw.S1
open Go.Proofs

/-- what is checked of a node -/
structure Chk (F : List Go.Fw.S1.Func) (i : Nat) (a : Node) : Prop where
  op : OpIn a
  ins : (a.f1.length : Int) = inpI a.f0
  inb : ∀ j, j ∈ a.f1 → 0 ≤ j ∧ j < (i : Int)
  exprs : ∀ e, e ∈ a.f4 → calls F.length e
  pats : ∀ p, p ∈ a.f14 → calls F.length p.f0

/-- a plan of limited size -/
structure SzP (F : List Go.Fw.S1.Func) (N : List Node) : Prop where
  funcs : SzF F
  len : N.length ≤ 2097152
  nodes : ∀ a, a ∈ N → SzN a

structure Post35 (F : List Go.Fw.S1.Func) (N : List Node) (q : Program) : Prop where
  funcs : callsF F
  len : N.length ≤ 40
  chk : ∀ (i : Nat) (h : i < N.length), Chk F i N[i]
  same : q.f1.length = N.length
  cols : ∀ a, a ∈ q.f1 → a.f15.length ≤ 12

theorem w35_ok (F : List Go.Fw.S1.Func) (N : List Node) (hP : SzP F N) : Ok (W 35 [.agg [.lst 42 F, .lst 47 N]]) (fun (r : (Program × Bool) × Unit) => r.1.2 = true → Post35 F N r.1.1) := by
  rw [show W 35 [.agg [.lst 42 F, .lst 47 N]] = t35 E0 ⟨F, N⟩ from w35 ⟨F, N⟩]
  unfold t35
  rw [E0_C, E0_lp]
  generalize hb : (bif decide ((N.length : Int) < (1 : Int)) then true else decide ((40 : Int) < (N.length : Int))) = bad
  cases bad with
  | true =>
    refine Ok.bind (Q := fun _ => True) ⟨_, rfl, trivial⟩ fun r _ => ?_
    exact Ok.pure fun h => by cases h
  | false =>
  simp only [Bool.not_false, cond_true, cond_false]
  have hlen : N.length ≤ 40 := by
    obtain ⟨_, h⟩ := norb hb
    simp only [decide_eq_false_iff_not] at h
    omega
  refine Ok.bind (w55_ok F hP.funcs) ?_
  rintro ⟨(b : Bool), u⟩ hF
  dsimp only at hF ⊢
  cases b with
  | false => exact Ok.pure fun h => by cases h
  | true =>
  have hF := hF rfl
  simp only [Bool.not_true, cond_false]
  refine Ok.after (Ok.range N.length (fun i v => ∃ z za zb, ∃ all : List (List Int), ∃ out : List Node, all.length = i ∧ (∀ x, x ∈ all → x.length ≤ 12) ∧ out.length = i ∧ (∀ a, a ∈ out → a.f15.length ≤ 12) ∧ (∀ j (h : j < N.length), j < i → Chk F j N[j]) ∧
      v = ((z, (i : Int), ()), ((F, N, ()), (za, zb, ()), (F, ()), all, out, ()))) ?_ ?_ _ ⟨_, _, _, [], [], rfl, (fun x hx => by cases hx), rfl, (fun x hx => by cases hx), (fun j _ hj => by omega), rfl⟩)
  · rintro i v hi ⟨z, za, zb, all, out, hall, hall2, hout, hout2, hchk, rfl⟩
    dsimp only
    simp only [ltb hi, nnb, Bool.and_true, cond_true, rd47_get hi]
    have hm : N[i] ∈ N := List.getElem_mem hi
    have ha := hP.nodes _ hm
    generalize hai : N[i] = a at ha hm ⊢
    generalize hbo : (bif decide (a.f0 < (0 : Int)) then true else decide ((8 : Int) < a.f0)) = bo
    cases bo with
    | true =>
      refine Ok.bind (Q := fun _ => True) ⟨_, rfl, trivial⟩ fun r3 _ => ?_
      refine Ok.bind (Q := fun _ => True) ⟨_, rfl, trivial⟩ fun r4 _ => ?_
      exact ⟨_, rfl, fun h => by cases h⟩
    | false =>
    have hop : OpIn a := by
      obtain ⟨q1, q2⟩ := norb hbo
      simp only [decide_eq_false_iff_not] at q1 q2
      exact ⟨by omega, by omega⟩
    simp only [Bool.not_false, cond_true, cond_false]
    refine Ok.bind ⟨_, w56_ok a.f0, rfl⟩ ?_
    rintro r rfl
    dsimp only
    generalize hbl : ((a.f1.length : Int) != inpI a.f0) = bl
    cases bl with
    | true =>
      refine Ok.bind (Q := fun _ => True) ⟨_, rfl, trivial⟩ fun r4 _ => ?_
      exact ⟨_, rfl, fun h => by cases h⟩
    | false =>
    have hins := eqz' hbl
    simp only [Bool.not_false, cond_true, cond_false]
    refine Ok.bind (w57_ok a) ?_
    rintro ⟨(b4 : Bool), u4⟩ hb4
    dsimp only at hb4 ⊢
    cases b4 with
    | false => exact ⟨_, rfl, fun h => by cases h⟩
    | true =>
    have hbare := hb4 rfl
    simp only [Bool.not_true, cond_false]
    have hl1 := ha.l1
    refine Ok.after (Ok.range a.f1.length (fun k v => ∃ z, ∃ t u : List Int, t.length ≤ 12 ∧ u.length ≤ 12 ∧ (∀ j (h : j < a.f1.length), j < k → 0 ≤ a.f1[j] ∧ a.f1[j] < (i : Int)) ∧
        v = ((z, (i : Int), t, u, (k : Int), ()), ((F, N, ()), (za, zb, ()), (F, ()), all, (a.f0, a.f1, a.f2, a.f3, a.f4, a.f5, a.f6, a.f7, a.f8, a.f9, a.f10, a.f11, a.f12, a.f13, a.f14, a.f15, ()), out, ()))) ?_ ?_ _ ⟨_, [], [], by simp, by simp, fun j _ hj => by omega, rfl⟩)
    · rintro k v hk ⟨z, t, u, ht, hu, hj, rfl⟩
      dsimp only
      simp only [ltb hk, nnb, Bool.and_true, cond_true, rd3_get hk]
      rw [imp_nn rfl, cond_true]
      refine Ok.bif (fun _ => ⟨_, rfl, fun h => by cases h⟩) (fun hg => ?_)
      obtain ⟨g1, g2⟩ := norb hg
      simp only [decide_eq_false_iff_not] at g1 g2
      have hin : (decide ((0 : Int) ≤ a.f1[k]) && decide (a.f1[k] < (all.length : Int))) = true := by simp only [Bool.and_eq_true, decide_eq_true_eq]; omega
      rw [hin]
      simp only [cond_true]
      have hx : (rd31 all a.f1[k]).length ≤ 12 := by
        have hlt : a.f1[k].toNat < all.length := by omega
        have h1 := rd31_get hlt
        rw [show ((a.f1[k].toNat : Nat) : Int) = a.f1[k] from by omega] at h1
        rw [h1]
        exact hall2 _ (List.getElem_mem hlt)
      have hj' : ∀ j (h : j < a.f1.length), j < k + 1 → 0 ≤ a.f1[j] ∧ a.f1[j] < (i : Int) := fun j h hjk => by
        rcases Nat.lt_or_ge j k with h' | h'
        · exact hj j h h'
        · have : j = k := by omega
          subst this
          exact ⟨by omega, by omega⟩
      simp only [wrapK_succ hk (by omega)]
      refine Ok.bif (fun _ => Ok.pure ⟨_, _, _, hx, hu, hj', rfl⟩) (fun _ => Ok.pure ⟨_, _, _, ht, hx, hj', rfl⟩)
    · rintro v ⟨z, t, u, ht, hu, hj, rfl⟩
      dsimp only
      rw [geb (Nat.le_refl _), cond_false]
      refine Ok.pure ?_
      dsimp only
      refine Ok.bind (w58_ok F hP.funcs a ha t u (by omega) (by omega)) ?_
      rintro ⟨⟨(types : List Int), (ok : Bool)⟩, u7⟩ hfol
      dsimp only
      refine Ok.bif (fun _ => ⟨_, rfl, fun h => by cases h⟩) (fun hg => ?_)
      obtain ⟨hg, g3⟩ := norb hg
      obtain ⟨g1, g2⟩ := norb hg
      simp only [decide_eq_false_iff_not] at g2 g3
      have hok : ok = true := by
        cases ok with
        | true => rfl
        | false => cases g1
      have hcalls := hfol hok
      have hty : types.length ≤ 12 := by omega
      rw [room (by simp only [List.length_singleton]; omega), cond_true]
      refine Ok.after (Ok.range types.length (fun k v => ∃ z5 z6, ∃ cols : List Col, cols.length = k ∧
          v = ((z, (i : Int), t, u, z5, types, z6, (k : Int), ()), ((F, N, ()), (za, zb, ()), (F, ()), all ++ [types], (a.f0, a.f1, a.f2, a.f3, a.f4, a.f5, a.f6, a.f7, a.f8, a.f9, a.f10, a.f11, a.f12, a.f13, a.f14, a.f15, ()), cols, out, ()))) ?_ ?_ _ ⟨_, _, [], rfl, rfl⟩)
      · rintro k v hk ⟨z5, z6, cols, hcols, rfl⟩
        dsimp only
        simp only [ltb hk, nnb, Bool.and_true, cond_true, rd3_get hk]
        refine Ok.bind (w59_ok k (by omega)) ?_
        rintro ⟨(d : ByteArray), u9⟩ hd
        dsimp only at hd ⊢
        rw [show decide ((⟨#[99]⟩ : ByteArray).size + d.size ≤ 9223372036854775807) = true from by simp only [decide_eq_true_eq]; show 1 + d.size ≤ _; omega, cond_true]
        refine Ok.bif (fun heq => ?_) (fun _ => ?_)
        · have hk15 : k < a.f15.length := by have := eqz heq; omega
          simp only [ltb hk15, cond_true]
          rw [room (by simp only [List.length_singleton]; omega), cond_true]
          simp only [wrapK_succ hk (by omega)]
          exact Ok.pure ⟨_, _, _, by simp [hcols], rfl⟩
        · rw [room (by simp only [List.length_singleton]; omega), cond_true]
          simp only [wrapK_succ hk (by omega)]
          exact Ok.pure ⟨_, _, _, by simp [hcols], rfl⟩
      · rintro v ⟨z5, z6, cols, hcols, rfl⟩
        dsimp only
        rw [geb (Nat.le_refl _), cond_false]
        refine Ok.pure ?_
        dsimp only
        rw [room (by simp only [List.length_singleton]; omega), cond_true]
        simp only [wrapK_succ hi (by omega)]
        refine Ok.pure ⟨_, _, _, all ++ [types], _, by simp [hall], fun x hx => ?_, ?_, ?_, ?_, rfl⟩
        · rcases List.mem_append.1 hx with h | h
          · exact hall2 x h
          · simp only [List.mem_singleton] at h; rw [h]; exact hty
        · simp [hout]
        · intro b hb
          rcases List.mem_append.1 hb with h | h
          · exact hout2 b h
          · simp only [List.mem_singleton] at h
            rw [h]
            show cols.length ≤ 12
            omega
        · intro j h hjj
          rcases Nat.lt_or_ge j i with h' | h'
          · exact hchk j h h'
          · have hji : j = i := by omega
            subst hji
            rw [hai]
            refine ⟨hop, hins, fun x hx => ?_, fun e he => ?_, fun p hp => ?_⟩
            · obtain ⟨q, hq, rfl⟩ := List.getElem_of_mem hx
              exact hj q hq hq
            · by_cases h12 : a.f0 = 1 ∨ a.f0 = 2
              · exact hcalls.1 h12 e he
              · rw [hbare.1 ⟨fun h => h12 (.inl h), fun h => h12 (.inr h)⟩] at he
                cases he
            · by_cases h8 : a.f0 = 8
              · exact hcalls.2 h8 p hp
              · rw [hbare.2 h8] at hp
                cases hp
  · rintro v ⟨z, za, zb, all, out, hall, hall2, hout, hout2, hchk, rfl⟩
    dsimp only
    rw [geb (Nat.le_refl _), cond_false]
    exact Ok.pure (Ok.pure fun _ => ⟨hF, hlen, fun i h => hchk i h h, hout, hout2⟩)

end Go.Fw.S1
set_option linter.unusedVariables false
set_option maxHeartbeats 1000000
set_option maxRecDepth 100000
namespace Go.Fw.S1
open Go.Proofs

theorem w24_ok (F : List Go.Fw.S1.Func) (N : List Node) (hP : SzP F N) : Ok (W 24 [.agg [.lst 42 F, .lst 47 N]]) (fun (r : Bool × Unit) => r.1 = true → ∃ q, Post35 F N q) := by
  rw [show W 24 [.agg [.lst 42 F, .lst 47 N]] = t24 E0 ⟨F, N⟩ from w24 ⟨F, N⟩]
  unfold t24
  rw [E0_C, E0_lp]
  refine Ok.bind (w35_ok F N hP) ?_
  rintro ⟨⟨(q : Program), (b : Bool)⟩, u⟩ hq
  dsimp only at hq ⊢
  cases b with
  | false => exact Ok.pure fun h => by cases h
  | true =>
  have hq := hq rfl
  simp only [Bool.not_true, cond_false]
  have hlen := hq.len
  refine Ok.after (Ok.range N.length (fun i v => ∃ z1 z2, v = ((z1, z2, (i : Int), ()), ((F, N, ()), (q.f0, q.f1, ()), ()))) ?_ ?_ _ ⟨_, _, rfl⟩)
  · rintro i v hi ⟨z1, z2, rfl⟩
    dsimp only
    have hi2 : i < q.f1.length := by rw [hq.same]; exact hi
    simp only [ltb hi, ltb hi2, nnb, Bool.and_true, cond_true, rd47_get hi, rd47_get hi2]
    have ha := (hP.nodes _ (List.getElem_mem hi)).c15.len
    have hc := hq.cols _ (List.getElem_mem hi2)
    refine Ok.bind (w37_ok _ ha) ?_
    intro r3 h3
    refine Ok.bind (w37_ok _ (by omega)) ?_
    intro r4 h4
    refine Ok.bind (w36_ok r3.1 r4.1 (by rw [h3]; exact ha)) ?_
    intro r5 _
    refine Ok.bif (fun _ => ⟨_, rfl, fun h => by cases h⟩) (fun _ => ?_)
    simp only [wrapK_succ hi (by omega)]
    exact Ok.pure ⟨_, _, rfl⟩
  · rintro v ⟨z1, z2, rfl⟩
    dsimp only
    rw [geb (Nat.le_refl _), cond_false]
    exact Ok.pure (Ok.pure fun _ => ⟨q, hq⟩)

theorem w25_ok (F : List Go.Fw.S1.Func) (N : List Node) (hP : SzP F N) : Ok (W 25 [.agg [.lst 42 F, .lst 47 N]]) fun _ => True := by
  rw [show W 25 [.agg [.lst 42 F, .lst 47 N]] = t25 E0 ⟨F, N⟩ from w25 ⟨F, N⟩]
  unfold t25
  rw [E0_C, E0_lp]
  have hlen := hP.len
  refine Ok.bif (fun _ => Ok.pure trivial) (fun _ => ?_)
  refine Ok.after (Ok.range N.length (fun i v => ∃ z, v = ((z, (i : Int), ()), ((F, N, ()), ()))) ?_ ?_ _ ⟨_, rfl⟩)
  · rintro i v hi ⟨z, rfl⟩
    dsimp only
    simp only [ltb hi, nnb, Bool.and_true, cond_true, rd47_get hi]
    have ha := (hP.nodes _ (List.getElem_mem hi)).l1
    generalize N[i] = a at ha
    refine Ok.bind (Ok.gd ⟨_, w38_ok a.f0, trivial⟩) fun r2 _ => ?_
    refine Ok.bif (fun _ => ⟨_, rfl, trivial⟩) (fun _ => ?_)
    refine Ok.after (Ok.range a.f1.length (fun k v => ∃ z, v = ((z, (i : Int), (k : Int), ()), ((F, N, ()), (a.f0, a.f1, a.f2, a.f3, a.f4, a.f5, a.f6, a.f7, a.f8, a.f9, a.f10, a.f11, a.f12, a.f13, a.f14, a.f15, ()), ()))) ?_ ?_ _ ⟨_, rfl⟩)
    · rintro k v hk ⟨z, rfl⟩
      dsimp only
      simp only [ltb hk, nnb, Bool.and_true, cond_true]
      rw [imp_nn rfl, cond_true]
      refine Ok.bif (fun _ => ⟨_, rfl, trivial⟩) (fun _ => ?_)
      simp only [wrapK_succ hk (by omega)]
      exact Ok.pure ⟨_, rfl⟩
    · rintro v ⟨z, rfl⟩
      dsimp only
      rw [geb (Nat.le_refl _), cond_false]
      refine Ok.pure ?_
      dsimp only
      simp only [wrapK_succ hi (by omega)]
      exact Ok.pure ⟨_, rfl⟩
  · rintro v ⟨z, rfl⟩
    dsimp only
    rw [geb (Nat.le_refl _), cond_false]
    exact Ok.pure (Ok.pure trivial)

structure Fit (F : List Go.Fw.S1.Func) (N : List Node) : Prop where
  funcs : callsF F
  len : N.length ≤ 40
  chk : ∀ (i : Nat) (h : i < N.length), Chk F i N[i]
  step : ∀ (i : Nat) (h : i < N.length), N[i].f0 = 4 → N[i].f5 = 1 → 1 ≤ N[i].f7

theorem w14_ok (F : List Go.Fw.S1.Func) (N : List Node) (hP : SzP F N) : Ok (W 14 [.agg [.lst 42 F, .lst 47 N]]) (fun (r : Bool × Unit) => r.1 = true → Fit F N) := by
  rw [show W 14 [.agg [.lst 42 F, .lst 47 N]] = t14 E0 ⟨F, N⟩ from w14 ⟨F, N⟩]
  unfold t14
  rw [E0_C, E0_lp]
  refine Ok.bind (w24_ok F N hP) ?_
  rintro ⟨(b : Bool), u⟩ hq
  dsimp only at hq ⊢
  refine Ok.bind (Ok.gd (w25_ok F N hP)) fun r2 _ => ?_
  refine Ok.bif (fun _ => Ok.pure fun h => by cases h) (fun hg => ?_)
  obtain ⟨g1, _⟩ := norb hg
  have hb : b = true := by
    cases b with
    | true => rfl
    | false => cases g1
  obtain ⟨q, hq⟩ := hq hb
  have hlen := hq.len
  refine Ok.after (Ok.range N.length (fun i v => ∃ z, (∀ j (h : j < N.length), j < i → N[j].f0 = 4 → N[j].f5 = 1 → 1 ≤ N[j].f7) ∧ v = ((z, (i : Int), ()), ((F, N, ()), ()))) ?_ ?_ _ ⟨_, (fun j _ hj => by omega), rfl⟩)
  · rintro i v hi ⟨z, hj, rfl⟩
    dsimp only
    simp only [ltb hi, nnb, Bool.and_true, cond_true, rd47_get hi]
    refine Ok.bind (w26_ok N[i]) ?_
    rintro ⟨(b : Bool), u⟩ h26
    dsimp only at h26 ⊢
    cases b with
    | false => exact ⟨_, rfl, fun h => by cases h⟩
    | true =>
      simp only [Bool.not_true, cond_false, wrapK_succ hi (by omega)]
      refine Ok.pure ⟨_, fun j h hji => ?_, rfl⟩
      rcases Nat.lt_or_ge j i with h' | h'
      · exact hj j h h'
      · have : j = i := by omega
        subst this
        exact h26 rfl
  · rintro v ⟨z, hj, rfl⟩
    dsimp only
    rw [geb (Nat.le_refl _), cond_false]
    exact Ok.pure (Ok.pure fun _ => ⟨hq.funcs, hq.len, hq.chk, fun i h => hj i h h⟩)

end Go.Fw.S1
set_option linter.unusedVariables false
set_option maxHeartbeats 1000000
set_option maxRecDepth 100000
namespace Go.Fw.S1
open Go.Proofs

theorem w60_ok (l : List Int) : ∀ e : Expr, sz e ≤ 2097152 → Ok (W 60 [.lst 3 l, vE e]) fun _ => True := by
  refine Expr.ind fun e ih => fun hs => ?_
  rw [show W 60 [.lst 3 l, vE e] = t60 E0 l e from w60 l e]
  unfold t60
  rw [E0_C, E0_lp]
  rw [sz_eq] at hs
  have hle := szL_len e.f3
  refine Ok.after (Ok.range e.f3.length (fun i v => ∃ z1 z2, ∃ k : List Int, k.length = i ∧ v = ((l, z1, z2, (i : Int), ()), ((e.f0, e.f1, e.f2, e.f3, ()), k, ()))) ?_ ?_ _ ⟨_, _, [], rfl, rfl⟩)
  · rintro i v hi ⟨z1, z2, k, hk, rfl⟩
    dsimp only
    simp only [ltb hi, nnb, Bool.and_true, cond_true, rd40_get hi]
    have hm : e.f3[i] ∈ e.f3 := List.getElem_mem hi
    have h1 := szL_mem hm
    refine Ok.bind (ih _ hm (by omega)) fun r _ => ?_
    rw [room (by simp only [List.length_singleton]; omega), cond_true]
    simp only [wrapK_succ hi (by omega)]
    exact Ok.pure ⟨_, _, _, by simp [hk], rfl⟩
  · rintro v ⟨z1, z2, k, hk, rfl⟩
    dsimp only
    rw [geb (Nat.le_refl _), cond_false]
    refine Ok.pure ?_
    dsimp only
    refine Ok.bif (fun h => ?_) (fun _ => ?_)
    · have hk3 : k.length = 3 := by
        cases h21 : (e.f0 == (21 : Int)) with
        | false => rw [h21] at h; cases h
        | true => rw [h21] at h; have := eqz h; omega
      rw [show (decide ((0 : Int) ≤ (0 : Int)) && decide ((0 : Int) < (k.length : Int))) = true from by simp only [Bool.and_eq_true, decide_eq_true_eq]; omega,
        show (decide ((0 : Int) ≤ (1 : Int)) && decide ((1 : Int) < (k.length : Int))) = true from by simp only [Bool.and_eq_true, decide_eq_true_eq]; omega,
        show (decide ((0 : Int) ≤ (2 : Int)) && decide ((2 : Int) < (k.length : Int))) = true from by simp only [Bool.and_eq_true, decide_eq_true_eq]; omega]
      exact Ok.pure trivial
    · refine Ok.after (Ok.range k.length (fun i v => ∃ z1 z2 z3, v = ((l, z1, z2, z3, (i : Int), ()), ((e.f0, e.f1, e.f2, e.f3, ()), k, ()))) ?_ ?_ _ ⟨_, _, _, rfl⟩)
      · rintro i v hi ⟨z1, z2, z3, rfl⟩
        dsimp only
        simp only [ltb hi, nnb, Bool.and_true, cond_true, wrapK_succ hi (by omega)]
        exact Ok.pure ⟨_, _, _, rfl⟩
      · rintro v ⟨z1, z2, z3, rfl⟩
        dsimp only
        rw [geb (Nat.le_refl _), cond_false]
        refine Ok.pure ?_
        dsimp only
        refine Ok.bif (fun h => ?_) (fun _ => Ok.pure trivial)
        have hr : (decide ((0 : Int) ≤ e.f1) && decide (e.f1 < (l.length : Int))) = true := by
          cases h22 : (e.f0 == (22 : Int)) with
          | false => rw [h22] at h; cases h
          | true =>
            rw [h22] at h
            cases h0 : decide ((0 : Int) ≤ e.f1) with
            | false => rw [h0] at h; cases h
            | true => rw [h0] at h; exact h
        rw [hr]
        exact Ok.pure trivial

theorem w41_ok (F : List Go.Fw.S1.Func) (hF : SzF F) (e : Expr) (hs : sz e ≤ 2097152) : Ok (W 41 [.lst 42 F, vE e]) fun _ => True := by
  rw [show W 41 [.lst 42 F, vE e] = t41 E0 F e from w41 F e]
  unfold t41
  rw [E0_C, E0_lp]
  have hlen := hF.len
  refine Ok.after (Ok.range F.length (fun i v => ∃ z, ∃ k : List Int, k.length = i ∧ v = ((F, z, (i : Int), ()), ((e.f0, e.f1, e.f2, e.f3, ()), k, ()))) ?_ ?_ _ ⟨_, [], rfl, rfl⟩)
  · rintro i v hi ⟨z, k, hk, rfl⟩
    dsimp only
    simp only [ltb hi, nnb, Bool.and_true, cond_true, rd42_get hi]
    refine Ok.bind (w60_ok k _ (hF.body _ (List.getElem_mem hi))) fun r _ => ?_
    rw [room (by simp only [List.length_singleton]; omega), cond_true]
    simp only [wrapK_succ hi (by omega)]
    exact Ok.pure ⟨_, _, by simp [hk], rfl⟩
  · rintro v ⟨z, k, hk, rfl⟩
    dsimp only
    rw [geb (Nat.le_refl _), cond_false]
    refine Ok.pure ?_
    dsimp only
    exact Ok.bind (w60_ok k e hs) fun r _ => Ok.pure trivial

theorem andb {a b : Bool} (h : (bif a then b else false) = true) : a = true ∧ b = true := by cases a <;> simp_all

theorem w27_ok (F : List Go.Fw.S1.Func) (hF : SzF F) (a : Node) (ha : SzN a) : Ok (W 27 [.lst 42 F, vN a]) fun _ => True := by
  rw [show W 27 [.lst 42 F, vN a] = t27 E0 F a from w27 F a]
  unfold t27
  rw [E0_C, E0_lp]
  have hlF := hF.len
  have hl4 := ha.l4
  have hl14 := ha.l14
  have p40 : ∀ e : Expr, sz e ≤ 2097152 → Ok (W 40 [vE e]) fun _ => True := fun e h => ⟨_, w40_ok e (by omega), trivial⟩
  have p29 : ∀ e : Expr, sz e ≤ 2097152 → Ok (W 29 [vE e]) fun _ => True := fun e h => ⟨_, w29_ok e (by omega), trivial⟩
  have stop : ∀ (k m : Nat) (c : Bool), (bif decide (((min k m : Nat) : Int) < (k : Int)) then decide (((min k m : Nat) : Int) < (m : Int)) else false) = false := fun k m c => by
    by_cases h : k ≤ m
    · rw [show decide (((min k m : Nat) : Int) < (k : Int)) = false from by simp only [decide_eq_false_iff_not]; omega]; rfl
    · rw [show decide (((min k m : Nat) : Int) < (m : Int)) = false from by simp only [decide_eq_false_iff_not]; omega]
      cases decide (((min k m : Nat) : Int) < (k : Int)) <;> rfl
  refine Ok.after (Ok.range (min F.length 6) (fun i v => ∃ z, v = ((F, z, (i : Int), ()), ((a.f0, a.f1, a.f2, a.f3, a.f4, a.f5, a.f6, a.f7, a.f8, a.f9, a.f10, a.f11, a.f12, a.f13, a.f14, a.f15, ()), ()))) ?_ ?_ _ ⟨_, rfl⟩)
  · rintro i v hi ⟨z, rfl⟩
    dsimp only
    have hi1 : i < F.length := by omega
    rw [ltb hi1, show decide ((i : Int) < (6 : Int)) = true from by simp only [decide_eq_true_eq]; omega]
    simp only [cond_true, nnb, Bool.and_true, rd42_get hi1]
    refine Ok.bind (p40 _ (hF.body _ (List.getElem_mem hi1))) fun r _ => ?_
    rw [imp_nn rfl, cond_true]
    refine Ok.bif (fun _ => ⟨_, rfl, trivial⟩) (fun _ => ?_)
    simp only [wrapK_succ hi (by omega)]
    exact Ok.pure ⟨_, rfl⟩
  · rintro v ⟨z, rfl⟩
    dsimp only
    rw [show (bif decide (((min F.length 6 : Nat) : Int) < (F.length : Int)) then decide (((min F.length 6 : Nat) : Int) < (6 : Int)) else false) = false from stop F.length 6 true, cond_false]
    refine Ok.pure ?_
    dsimp only
    refine Ok.after (Ok.range (min a.f4.length 13) (fun i v => ∃ z1 z2, v = ((F, z1, z2, (i : Int), ()), ((a.f0, a.f1, a.f2, a.f3, a.f4, a.f5, a.f6, a.f7, a.f8, a.f9, a.f10, a.f11, a.f12, a.f13, a.f14, a.f15, ()), ()))) ?_ ?_ _ ⟨_, _, rfl⟩)
    · rintro i v hi ⟨z1, z2, rfl⟩
      dsimp only
      have hi1 : i < a.f4.length := by omega
      rw [ltb hi1, show decide ((i : Int) < (13 : Int)) = true from by simp only [decide_eq_true_eq]; omega]
      simp only [cond_true, nnb, Bool.and_true, rd40_get hi1]
      have he := ha.e4 _ (List.getElem_mem hi1)
      refine Ok.bind (p40 _ he) fun r5 _ => ?_
      rw [imp_nn rfl, cond_true]
      refine Ok.bind (Ok.gd (p29 _ he)) fun r6 _ => ?_
      rw [imp_nn rfl, cond_true]
      refine Ok.bind (Ok.gd (w41_ok F hF _ he)) fun r7 _ => ?_
      refine Ok.bif (fun _ => ⟨_, rfl, trivial⟩) (fun _ => ?_)
      simp only [wrapK_succ hi (by omega)]
      exact Ok.pure ⟨_, _, rfl⟩
    · rintro v ⟨z1, z2, rfl⟩
      dsimp only
      rw [show (bif decide (((min a.f4.length 13 : Nat) : Int) < (a.f4.length : Int)) then decide (((min a.f4.length 13 : Nat) : Int) < (13 : Int)) else false) = false from stop a.f4.length 13 true, cond_false]
      refine Ok.pure ?_
      dsimp only
      refine Ok.after (Ok.range (min a.f14.length 9) (fun i v => ∃ z1 z2 z3, v = ((F, z1, z2, z3, (i : Int), ()), ((a.f0, a.f1, a.f2, a.f3, a.f4, a.f5, a.f6, a.f7, a.f8, a.f9, a.f10, a.f11, a.f12, a.f13, a.f14, a.f15, ()), ()))) ?_ ?_ _ ⟨_, _, _, rfl⟩)
      · rintro i v hi ⟨z1, z2, z3, rfl⟩
        dsimp only
        have hi1 : i < a.f14.length := by omega
        rw [ltb hi1, show decide ((i : Int) < (9 : Int)) = true from by simp only [decide_eq_true_eq]; omega]
        simp only [cond_true, nnb, Bool.and_true, rd58_get hi1]
        have he := ha.e14 _ (List.getElem_mem hi1)
        refine Ok.bind (p40 _ he) fun r5 _ => ?_
        rw [imp_nn rfl, cond_true]
        refine Ok.bind (Ok.gd (p29 _ he)) fun r6 _ => ?_
        rw [imp_nn rfl, cond_true]
        refine Ok.bind (Ok.gd (w41_ok F hF _ he)) fun r7 _ => ?_
        refine Ok.bif (fun _ => ⟨_, rfl, trivial⟩) (fun _ => ?_)
        simp only [wrapK_succ hi (by omega)]
        exact Ok.pure ⟨_, _, _, rfl⟩
      · rintro v ⟨z1, z2, z3, rfl⟩
        dsimp only
        rw [show (bif decide (((min a.f14.length 9 : Nat) : Int) < (a.f14.length : Int)) then decide (((min a.f14.length 9 : Nat) : Int) < (9 : Int)) else false) = false from stop a.f14.length 9 true, cond_false]
        refine Ok.pure ?_
        exact Ok.pure trivial

theorem w15_ok (F : List Go.Fw.S1.Func) (N : List Node) (hP : SzP F N) : Ok (W 15 [.agg [.lst 42 F, .lst 47 N]]) fun _ => True := by
  rw [show W 15 [.agg [.lst 42 F, .lst 47 N]] = t15 E0 ⟨F, N⟩ from w15 ⟨F, N⟩]
  unfold t15
  rw [E0_C, E0_lp]
  have hlen := hP.len
  refine Ok.after (Ok.range N.length (fun i v => ∃ z, v = ((z, (i : Int), ()), ((F, N, ()), ()))) ?_ ?_ _ ⟨_, rfl⟩)
  · rintro i v hi ⟨z, rfl⟩
    dsimp only
    simp only [ltb hi, nnb, Bool.and_true, cond_true, rd47_get hi]
    refine Ok.bind (w27_ok F hP.funcs N[i] (hP.nodes _ (List.getElem_mem hi))) fun r _ => ?_
    refine Ok.bif (fun _ => ⟨_, rfl, trivial⟩) (fun _ => ?_)
    simp only [wrapK_succ hi (by omega)]
    exact Ok.pure ⟨_, rfl⟩
  · rintro v ⟨z, rfl⟩
    dsimp only
    rw [geb (Nat.le_refl _), cond_false]
    exact Ok.pure (Ok.pure trivial)

end Go.Fw.S1
set_option linter.unusedVariables false
set_option maxHeartbeats 1000000
set_option maxRecDepth 100000
namespace Go.Fw.S1
open Go.Proofs

theorem w16_ok (F : List Go.Fw.S1.Func) (N : List Node) (hf : Fit F N) (ev mo : Int) : Ok (W 16 [.agg [.lst 42 F, .lst 47 N], .int .i64 ev, .int .i64 mo]) fun _ => True := by
  rw [show W 16 [.agg [.lst 42 F, .lst 47 N], .int .i64 ev, .int .i64 mo] = t16 E0 ⟨F, N⟩ ev mo from w16 ⟨F, N⟩ ev mo]
  unfold t16
  rw [E0_lp]
  have hlen := hf.len
  refine Ok.after (Ok.range N.length (fun i v => ∃ z, ∃ l : List Int, l.length = i ∧ v = ((ev, mo, z, (i : Int), ()), ((F, N, ()), l, ()))) ?_ ?_ _ ⟨_, [], rfl, rfl⟩)
  · rintro i v hi ⟨z, l, hl, rfl⟩
    dsimp only
    simp only [ltb hi, nnb, Bool.and_true, cond_true, rd47_get hi]
    have hc := hf.chk i hi
    have hst := hf.step i hi
    generalize N[i] = a at hc hst
    have idx : ∀ x, x ∈ a.f1 → (decide ((0 : Int) ≤ x) && decide (x < (l.length : Int))) = true := fun x hx => by
      have := hc.inb x hx
      simp only [Bool.and_eq_true, decide_eq_true_eq]
      omega
    have hroom : ∀ x : Int, decide ((l.length + ([x] : List Int).length) * 8 ≤ maxRoom) = true := fun x => room (by simp only [List.length_singleton]; omega)
    have two : inpI a.f0 = 2 → 1 < a.f1.length := fun h => by have := hc.ins; rw [h] at this; omega
    simp only [hroom, cond_true, wrapK_succ hi (by omega)]
    refine Ok.bif (fun hin => ?_) (fun hin => ?_)
    · have hin : 0 < a.f1.length := by simp only [decide_eq_true_eq] at hin; omega
      have r0 : rd3 a.f1 (0 : Int) = a.f1[0] := rd3_get (xs := a.f1) (i := 0) hin
      rw [show (decide ((0 : Int) ≤ (0 : Int)) && decide ((0 : Int) < (a.f1.length : Int))) = true from by simp only [Bool.and_eq_true, decide_eq_true_eq]; omega, r0, idx _ (List.getElem_mem hin)]
      simp only [cond_true]
      refine Ok.bif (fun h3 => ?_) (fun h3 => ?_)
      · have h2 := two (by rw [eqz h3]; rfl)
        have r1 : rd3 a.f1 (1 : Int) = a.f1[1] := rd3_get (xs := a.f1) (i := 1) h2
        rw [show (decide ((0 : Int) ≤ (1 : Int)) && decide ((1 : Int) < (a.f1.length : Int))) = true from by simp only [Bool.and_eq_true, decide_eq_true_eq]; omega, r1, idx _ (List.getElem_mem h2)]
        simp only [cond_true]
        exact Ok.bif (fun _ => ⟨_, rfl, trivial⟩) (fun _ => Ok.pure ⟨_, _, by simp [hl], rfl⟩)
      refine Ok.bif (fun h6 => ?_) (fun h6 => ?_)
      · have h2 := two (by rw [eqz h6]; rfl)
        have r1 : rd3 a.f1 (1 : Int) = a.f1[1] := rd3_get (xs := a.f1) (i := 1) h2
        rw [show (decide ((0 : Int) ≤ (1 : Int)) && decide ((1 : Int) < (a.f1.length : Int))) = true from by simp only [Bool.and_eq_true, decide_eq_true_eq]; omega, r1, idx _ (List.getElem_mem h2)]
        simp only [cond_true]
        exact Ok.bif (fun _ => ⟨_, rfl, trivial⟩) (fun _ => Ok.pure ⟨_, _, by simp [hl], rfl⟩)
      refine Ok.bif (fun h4 => ?_) (fun h4 => ?_)
      · refine Ok.bif (fun h5 => ?_) (fun h5 => ?_)
        · have h7 := hst (eqz h4) (eqz h5)
          rw [show (a.f7 != 0) = true from by simp; omega]
          simp only [cond_true]
          exact Ok.bif (fun _ => ⟨_, rfl, trivial⟩) (fun _ => Ok.pure ⟨_, _, by simp [hl], rfl⟩)
        · exact Ok.bif (fun _ => ⟨_, rfl, trivial⟩) (fun _ => Ok.pure ⟨_, _, by simp [hl], rfl⟩)
      · exact Ok.bif (fun _ => ⟨_, rfl, trivial⟩) (fun _ => Ok.pure ⟨_, _, by simp [hl], rfl⟩)
    · have hin : ¬ 0 < a.f1.length := by simp only [decide_eq_false_iff_not] at hin; omega
      refine Ok.bif (fun h3 => ?_) (fun h3 => ?_)
      · exact absurd (two (by rw [eqz h3]; rfl)) (by omega)
      refine Ok.bif (fun h6 => ?_) (fun h6 => ?_)
      · exact absurd (two (by rw [eqz h6]; rfl)) (by omega)
      refine Ok.bif (fun h4 => ?_) (fun h4 => ?_)
      · refine Ok.bif (fun h5 => ?_) (fun h5 => ?_)
        · have h7 := hst (eqz h4) (eqz h5)
          rw [show (a.f7 != 0) = true from by simp; omega]
          simp only [cond_true]
          exact Ok.bif (fun _ => ⟨_, rfl, trivial⟩) (fun _ => Ok.pure ⟨_, _, by simp [hl], rfl⟩)
        · exact Ok.bif (fun _ => ⟨_, rfl, trivial⟩) (fun _ => Ok.pure ⟨_, _, by simp [hl], rfl⟩)
      · exact Ok.bif (fun _ => ⟨_, rfl, trivial⟩) (fun _ => Ok.pure ⟨_, _, by simp [hl], rfl⟩)
  · rintro v ⟨z, l, hl, rfl⟩
    dsimp only
    rw [geb (Nat.le_refl _), cond_false]
    exact Ok.pure (Ok.pure trivial)

/-- fair: an answer; where it is yes, the plan is fit -/
theorem w6_ok (F : List Go.Fw.S1.Func) (N : List Node) (hP : SzP F N) (n : Int) : Ok (W 6 [.agg [.lst 42 F, .lst 47 N], .int .i64 n]) (fun (r : Bool × Unit) => r.1 = true → Fit F N) := by
  rw [show W 6 [.agg [.lst 42 F, .lst 47 N], .int .i64 n] = t6 E0 ⟨F, N⟩ n from w6 ⟨F, N⟩ n]
  unfold t6
  rw [E0_C]
  refine Ok.bif (fun _ => Ok.pure fun h => by cases h) (fun _ => ?_)
  refine Ok.bind (w14_ok F N hP) ?_
  rintro ⟨(b : Bool), u⟩ hb
  dsimp only at hb ⊢
  cases b with
  | false =>
    refine Ok.bind (Q := fun _ => True) ⟨_, rfl, trivial⟩ fun r2 _ => ?_
    refine Ok.bind (Q := fun _ => True) ⟨_, rfl, trivial⟩ fun r3 _ => ?_
    exact Ok.pure fun h => by cases h
  | true =>
    have hb := hb rfl
    simp only [cond_true]
    refine Ok.bind (w15_ok F N hP) fun r2 _ => ?_
    refine Ok.bind (Ok.gd (w16_ok F N hb n 1000)) fun r3 _ => ?_
    exact Ok.pure fun _ => hb

/-- plain: all expressions can be inlined -/
def PlainP (F : List Go.Fw.S1.Func) (N : List Node) : Prop := ∀ a, a ∈ N → (∀ e, e ∈ a.f4 → (inlineE F e).isSome = true) ∧ (∀ p, p ∈ a.f14 → (inlineE F p.f0).isSome = true)

theorem w7_ok (F : List Go.Fw.S1.Func) (N : List Node) (hP : SzP F N) : Ok (W 7 [.agg [.lst 42 F, .lst 47 N]]) (fun (r : Bool × Unit) => r.1 = true → PlainP F N) := by
  rw [show W 7 [.agg [.lst 42 F, .lst 47 N]] = t7 E0 ⟨F, N⟩ from w7 ⟨F, N⟩]
  unfold t7
  rw [E0_C, E0_lp]
  have hlen := hP.len
  refine Ok.after (Ok.range N.length (fun i v => ∃ z, (∀ j (h : j < N.length), j < i → (∀ e, e ∈ N[j].f4 → (inlineE F e).isSome = true) ∧ (∀ p, p ∈ N[j].f14 → (inlineE F p.f0).isSome = true)) ∧ v = ((z, (i : Int), ()), ((F, N, ()), ()))) ?_ ?_ _ ⟨_, (fun j _ hj => by omega), rfl⟩)
  · rintro i v hi ⟨z, hj, rfl⟩
    dsimp only
    simp only [ltb hi, nnb, Bool.and_true, cond_true, rd47_get hi]
    have ha := hP.nodes _ (List.getElem_mem hi)
    have hl4 := ha.l4
    have hl14 := ha.l14
    rw [room (by simp only [List.length_nil]; omega), cond_true]
    refine Ok.after (Ok.range N[i].f14.length (fun k v => ∃ z, v = ((z, (i : Int), (k : Int), ()), ((F, N, ()), N[i].f4 ++ (N[i].f14.take k).map (·.f0), ()))) ?_ ?_ _ ⟨_, by simp; rfl⟩)
    · rintro k v hk ⟨z, rfl⟩
      dsimp only
      simp only [ltb hi, nnb, Bool.and_true, cond_true, rd47_get hi, ltb hk, rd58_get hk, Expr.eta]
      rw [room (by simp only [List.length_singleton, List.length_append, List.length_map, List.length_take]; omega), cond_true]
      simp only [wrapK_succ hk (by omega)]
      have q : (N[i].f4 ++ (N[i].f14.take k).map (·.f0)) ++ [N[i].f14[k].f0] = N[i].f4 ++ (N[i].f14.take (k + 1)).map (·.f0) := by rw [take_succ hk, List.map_append, List.append_assoc]; rfl
      rw [q]
      exact Ok.pure ⟨_, rfl⟩
    · rintro v ⟨z, rfl⟩
      dsimp only
      simp only [ltb hi, nnb, Bool.and_true, cond_true, rd47_get hi]
      rw [geb (Nat.le_refl _), cond_false]
      refine Ok.pure ?_
      dsimp only
      rw [List.take_length]
      generalize hl : N[i].f4 ++ N[i].f14.map (·.f0) = l
      have hll : l.length ≤ 4194304 := by rw [← hl]; simp only [List.length_append, List.length_map]; omega
      have hsz : ∀ e, e ∈ l → sz e ≤ 2097152 := fun e he => by
        rw [← hl] at he
        rcases List.mem_append.1 he with h | h
        · exact ha.e4 e h
        · obtain ⟨p, hp, rfl⟩ := List.mem_map.1 h
          exact ha.e14 p hp
      refine Ok.after (Ok.range l.length (fun k v => ∃ z1 z2, (∀ j (h : j < l.length), j < k → (inlineE F l[j]).isSome = true) ∧ v = ((z1, (i : Int), z2, (k : Int), ()), ((F, N, ()), l, ()))) ?_ ?_ _ ⟨_, _, (fun j _ hj => by omega), rfl⟩)
      · rintro k v hk ⟨z1, z2, hin, rfl⟩
        dsimp only
        simp only [ltb hk, nnb, Bool.and_true, cond_true, rd40_get hk]
        refine Ok.bind ⟨_, w17_ok F hP.funcs.len hP.funcs.body _ (hsz _ (List.getElem_mem hk)), rfl⟩ ?_
        rintro r rfl
        simp only [encP]
        cases hx : (inlineE F l[k]).isSome with
        | false => exact ⟨_, rfl, fun h => by cases h⟩
        | true =>
          simp only [Bool.not_true, cond_false, wrapK_succ hk (by omega)]
          refine Ok.pure ⟨_, _, fun j h hjk => ?_, rfl⟩
          rcases Nat.lt_or_ge j k with h' | h'
          · exact hin j h h'
          · have : j = k := by omega
            subst this
            exact hx
      · rintro v ⟨z1, z2, hin, rfl⟩
        dsimp only
        rw [geb (Nat.le_refl _), cond_false]
        refine Ok.pure ?_
        dsimp only
        simp only [wrapK_succ hi (by omega)]
        have hall : ∀ e, e ∈ l → (inlineE F e).isSome = true := fun e he => by
          obtain ⟨j, hj, rfl⟩ := List.getElem_of_mem he
          exact hin j hj hj
        refine Ok.pure ⟨_, fun j h hji => ?_, rfl⟩
        rcases Nat.lt_or_ge j i with h' | h'
        · exact hj j h h'
        · have : j = i := by omega
          subst this
          rw [← hl] at hall
          exact ⟨fun e he => hall e (List.mem_append_left _ he), fun p hp => hall p.f0 (List.mem_append_right _ (List.mem_map_of_mem hp))⟩
  · rintro v ⟨z, hj, rfl⟩
    dsimp only
    rw [geb (Nat.le_refl _), cond_false]
    refine Ok.pure (Ok.pure fun _ a ha => ?_)
    obtain ⟨j, hj', rfl⟩ := List.getElem_of_mem ha
    exact hj j hj' hj'

end Go.Fw.S1
set_option linter.unusedVariables false
set_option maxHeartbeats 1000000
set_option maxRecDepth 100000
namespace Go.Fw.S1
open Go.Proofs

theorem okPl_of {F : List Go.Fw.S1.Func} {N : List Node} (hP : SzP F N) (hf : Fit F N) : OkPl F N := by
  refine ⟨⟨hP.funcs.len, hP.funcs.body, hf.funcs⟩, hP.len, fun i h => ?_⟩
  have ha := hP.nodes _ (List.getElem_mem h)
  have hc := hf.chk i h
  exact ⟨⟨fun e he => ⟨ha.e4 e he, hc.exprs e he⟩, fun p hp => ⟨ha.e14 p hp, hc.pats p hp⟩, ha.l1, ha.l4, ha.l8, ha.l9, ha.l13, ha.l14, ha.c15.len⟩, hc.inb⟩

theorem okPl_take {F : List Go.Fw.S1.Func} {N : List Node} (h : OkPl F N) (n : Nat) : OkPl F (N.take n) := by
  refine ⟨h.funcs, by have := h.len; rw [List.length_take]; omega, fun i hi => ?_⟩
  have hi' : i < N.length := by rw [List.length_take] at hi; omega
  rw [List.getElem_take]
  exact h.nodes i hi'

theorem rd47_take {N : List Node} {n i : Nat} (h : i < n) (hi : i < N.length) : rd47 (N.take n) (i : Int) = rd47 N (i : Int) := by
  rw [rd47_get hi, rd47_get (by rw [List.length_take]; omega), List.getElem_take]

theorem eqf_congr2 {α : Type} {f g : α → α → Bool} : ∀ {l k : List α}, (∀ a, a ∈ l → ∀ b, b ∈ k → f a b = g a b) → eqf f l k = eqf g l k := by
  intro l
  induction l with
  | nil => intro k _; cases k <;> rfl
  | cons a l ih =>
    intro k h
    cases k with
    | nil => rfl
    | cons b k => simp only [eqf]; rw [h a (by simp) b (by simp), ih fun a ha b hb => h a (by simp [ha]) b (by simp [hb])]

theorem SB_take {F : List Go.Fw.S1.Func} {N : List Node} {G : List Go.Fw.S1.Func} {M : List Node} (hN : OkPl F N) (hM : OkPl G M) (n m : Nat) : ∀ (f i k : Nat), i < n → i < N.length → k < m → k < M.length →
    SB F (N.take n) G (M.take m) f (i : Int) (k : Int) = SB F N G M f (i : Int) (k : Int) := by
  intro f
  induction f with
  | zero => intro i k _ _ _ _; rfl
  | succ f ih =>
    intro i k hi hiN hk hkM
    simp only [SB]
    rw [rd47_take hi hiN, rd47_take hk hkM]
    congr 1
    refine eqf_congr2 fun a ha b hb => ?_
    rw [rd47_get hiN] at ha
    rw [rd47_get hkM] at hb
    obtain ⟨a0, a1⟩ := (hN.nodes i hiN).2 a ha
    obtain ⟨b0, b1⟩ := (hM.nodes k hkM).2 b hb
    have ea : a = ((a.toNat : Nat) : Int) := by omega
    have eb : b = ((b.toNat : Nat) : Int) := by omega
    rw [ea, eb]
    exact ih a.toNat b.toNat (by omega) (by omega) (by omega) (by omega)

theorem sameB_take {F : List Go.Fw.S1.Func} {N : List Node} {G : List Go.Fw.S1.Func} {M : List Node} (hN : OkPl F N) (hM : OkPl G M) (n m : Nat) {i k : Nat} (hi : i < n) (hiN : i < N.length) (hk : k < m) (hkM : k < M.length) :
    sameB F (N.take n) G (M.take m) (i : Int) (k : Int) = sameB F N G M (i : Int) (k : Int) := by
  unfold sameB
  rw [SB_take hN hM n m _ i k hi hiN hk hkM]

theorem eqf_self {α : Type} {f : α → α → Bool} : ∀ {l : List α}, (∀ a, a ∈ l → f a a = true) → eqf f l l = true := by
  intro l
  induction l with
  | nil => intro _; rfl
  | cons a l ih => intro h; simp only [eqf]; rw [h a (by simp), ih fun a ha => h a (by simp [ha])]; rfl

theorem fieldsB_self {F : List Go.Fw.S1.Func} {a : Node} (h4 : ∀ e, e ∈ a.f4 → (inlineE F e).isSome = true) (h14 : ∀ p, p ∈ a.f14 → (inlineE F p.f0).isSome = true) : fieldsB F F a a = true := by
  unfold fieldsB
  rw [show intsB a.f8 a.f8 = true from eqf_self fun x _ => by simp, show intsB a.f9 a.f9 = true from eqf_self fun x _ => by simp,
    eqf_self (f := fun a b => alikeB F a F b) fun e he => alikeB_refl (h4 e he), eqf_self (f := aggB) fun x _ => by simp [aggB],
    eqf_self (f := patB F F) fun p hp => by simp [patB, alikeB_refl (h14 p hp)], eqf_self (f := colB) fun x _ => by simp [colB]]
  simp

theorem sameB_self {F : List Go.Fw.S1.Func} {N : List Node} (hN : OkPl F N) (hp : PlainP F N) : ∀ i : Nat, i < N.length → sameB F N F N (i : Int) (i : Int) = true := by
  intro i
  induction i using Nat.strongRecOn with
  | _ i ih =>
    intro hi
    rw [sameB_eq hN hi, rd47_get hi]
    obtain ⟨h4, h14⟩ := hp _ (List.getElem_mem hi)
    rw [fieldsB_self h4 h14, cond_true]
    refine eqf_self fun a ha => ?_
    obtain ⟨a0, a1⟩ := (hN.nodes i hi).2 a ha
    have ea : a = ((a.toNat : Nat) : Int) := by omega
    rw [ea]
    exact ih a.toNat (by omega) (by omega)

/-- there is a least one -/
theorem least_ex {f : Int → Bool} {k : Nat} (h : f (k : Int) = true) : ∃ i : Nat, i ≤ k ∧ f (i : Int) = true ∧ ∀ j : Nat, j < i → f (j : Int) = false := by
  induction k using Nat.strongRecOn with
  | _ k ih =>
    by_cases hh : ∃ j : Nat, j < k ∧ f (j : Int) = true
    · obtain ⟨j, hj, hf⟩ := hh
      obtain ⟨i, hi, h1, h2⟩ := ih j hj hf
      exact ⟨i, by omega, h1, h2⟩
    · refine ⟨k, Nat.le_refl _, h, fun j hj => ?_⟩
      cases hf : f (j : Int) with
      | false => rfl
      | true => exact absurd ⟨j, hj, hf⟩ hh

/-- where two plans begin alike and are equal to themselves, so are the matches -/
theorem match_self {F : List Go.Fw.S1.Func} {N : List Node} (hN : OkPl F N) (hp : PlainP F N) (n m : Nat) {k : Nat} (hk : k < N.length) (hkn : k < n) (hkm : k < m) :
    ∃ i : Nat, i ≤ k ∧ matchB F (N.take n) F (N.take m) k = ⟨(i : Int), (k : Int), 0⟩ ∧ matchB F N F N k = ⟨(i : Int), (k : Int), 0⟩ := by
  obtain ⟨i, hi, h1, h2⟩ := least_ex (f := fun i => sameB F N F N i (k : Int)) (sameB_self hN hp k hk)
  have e1 : leastN (fun i => sameB F N F N i (k : Int)) N.length = (i : Int) := leastN_some (by omega) h1 h2
  have e2 : leastN (fun i => sameB F (N.take n) F (N.take m) i (k : Int)) (N.take n).length = (i : Int) := by
    refine leastN_some (by rw [List.length_take]; omega) ?_ fun j hj => ?_
    · show sameB F (N.take n) F (N.take m) (i : Int) (k : Int) = true
      rw [sameB_take hN hN n m (by omega) (by omega) hkm hk]
      exact h1
    · show sameB F (N.take n) F (N.take m) (j : Int) (k : Int) = false
      rw [sameB_take hN hN n m (by omega) (by omega) hkm hk]
      exact h2 j hj
  refine ⟨i, hi, ?_, ?_⟩
  · unfold matchB
    rw [e2, if_neg (by omega)]
  · unfold matchB
    rw [e1, if_neg (by omega)]

theorem take_all {α : Type} (l : List α) : l.take l.length = l := List.take_length

theorem w3_ok (h5 : W 5 [] = (some (true, ()) : Option (Bool × Unit))) (F : List Go.Fw.S1.Func) (N : List Node) (hP : SzP F N) (n : Int) : W 3 [.agg [.lst 42 F, .lst 47 N], .int .i64 n] = (some (true, ()) : Option (Bool × Unit)) := by
  refine (w3 ⟨F, N⟩ n).trans ?_
  unfold t3
  rw [E0_C, E0_lp]
  have hlen := hP.len
  refine Ok.eq (Ok.bind ⟨_, h5, rfl⟩ ?_)
  rintro r rfl
  refine Ok.bind (w6_ok F N hP 2) ?_
  rintro ⟨(b : Bool), u⟩ hb
  dsimp only at hb ⊢
  cases b with
  | false =>
    refine Ok.bind (Q := fun _ => True) ⟨_, rfl, trivial⟩ fun r3 _ => ?_
    exact Ok.pure rfl
  | true =>
  have hf := hb rfl
  simp only [Bool.not_true, Bool.not_false, cond_true, cond_false]
  refine Ok.bind (w7_ok F N hP) ?_
  rintro ⟨(b : Bool), u⟩ hb
  dsimp only at hb ⊢
  cases b with
  | false => exact Ok.pure rfl
  | true =>
  have hp := hb rfl
  simp only [Bool.not_true, cond_false]
  have hN := okPl_of hP hf
  have hop : ∀ (i : Nat) (h : i < N.length), OpIn N[i] := fun i h => (hf.chk i h).op
  have h40 := hf.len
  refine Ok.bind ⟨_, w8_ok hN hN hop hop, rfl⟩ ?_
  rintro r rfl
  dsimp only
  generalize hl : (List.range N.length).map (matchB F N F N) = l
  have hll : l.length = N.length := by rw [← hl]; simp
  have hget : ∀ k (h : k < l.length), ∃ i : Nat, i ≤ k ∧ l[k] = ⟨(i : Int), (k : Int), 0⟩ := fun k h => by
    obtain ⟨i, hi, _, h2⟩ := match_self hN hp N.length N.length (k := k) (by omega) (by omega) (by omega)
    refine ⟨i, hi, ?_⟩
    subst hl
    simpa using h2
  rw [show ((l.length : Int) != (N.length : Int)) = false from by rw [hll]; simp]
  simp only [Bool.not_false, cond_true, cond_false]
  refine Ok.bind (w9_ok F N (by omega) l (by omega)) ?_
  rintro ⟨(r5 : List Int), u5⟩ h9
  have h9 : r5 = [] := congrArg Prod.fst <| h9 fun k hk => by
    rw [List.any_eq_true]
    obtain ⟨i, _, e⟩ := hget k (by omega)
    refine ⟨l[k], List.getElem_mem _, ?_⟩
    rw [e]
    simp [keepB]
  dsimp only
  rw [show (((r5.length : Nat) : Int) != (0 : Int)) = false from by rw [h9]; rfl]
  simp only [Bool.not_false, cond_true]
  refine Ok.bind ⟨_, w10_ok hN hN hop hop l hl, rfl⟩ ?_
  rintro r rfl
  dsimp only
  rw [show ((0 : Int) != (0 : Int)) = false from rfl]
  simp only [cond_false]
  refine Ok.after (Ok.range l.length (fun k v => ∃ z, v = ((n, z, true, l, (k : Int), ()), ((F, N, ()), ()))) ?_ ?_ _ ⟨_, rfl⟩)
  · rintro k v hk ⟨z, rfl⟩
    dsimp only
    obtain ⟨i, hi, e⟩ := hget k hk
    simp only [ltb hk, nnb, Bool.and_true, cond_true, rd36_get hk]
    rw [imp_nn rfl, imp_nn rfl, e]
    simp only [cond_true]
    rw [show ((0 : Int) != (0 : Int)) = false from rfl, show decide ((k : Int) < (i : Int)) = false from by simp only [decide_eq_false_iff_not]; omega, show ((k : Int) != (k : Int)) = false from by simp]
    simp only [cond_false, wrapK_succ hk (by omega)]
    exact Ok.pure ⟨_, rfl⟩
  · rintro v ⟨z, rfl⟩
    dsimp only
    rw [geb (Nat.le_refl _), cond_false]
    refine Ok.pure ?_
    dsimp only
    refine Ok.bif (fun _ => Ok.pure rfl) (fun hg => ?_)
    obtain ⟨g1, g2⟩ := norb hg
    simp only [decide_eq_false_iff_not] at g1 g2
    obtain ⟨m, rfl⟩ : ∃ m : Nat, n = (m : Int) := ⟨n.toNat, by omega⟩
    have hm : m ≤ N.length := by omega
    have hq : (N.drop 0).take ((m : Int).toNat - 0) = N.take m := by simp
    have hlq : (l.drop 0).take ((m : Int).toNat - 0) = l.take m := by simp
    rw [show (decide ((0 : Int) ≤ (0 : Int)) && (decide ((0 : Int) ≤ (m : Int)) && decide ((m : Int) ≤ (N.length : Int)))) = true from by simp only [Bool.and_eq_true, decide_eq_true_eq]; omega, cond_true]
    have hT := okPl_take hN m
    have hopT : ∀ (i : Nat) (h : i < (N.take m).length), OpIn (N.take m)[i] := fun i h => by
      rw [List.getElem_take]
      exact hop i (by rw [List.length_take] at h; omega)
    have hTl : (N.take m).length = m := by rw [List.length_take]; omega
    have hw8a : ∀ N' : List Node, N' = N.take m → W 8 [.agg [.lst 42 F, .lst 47 N'], .agg [.lst 42 F, .lst 47 N]] = some ((List.range N.length).map (matchB F (N.take m) F N), ()) := by
      rintro _ rfl
      exact w8_ok hT hN hopT hop
    have hw8b : ∀ N' : List Node, N' = N.take m → W 8 [.agg [.lst 42 F, .lst 47 N], .agg [.lst 42 F, .lst 47 N']] = some ((List.range m).map (matchB F N F (N.take m)), ()) := by
      rintro _ rfl
      have := w8_ok hN hT hop hopT
      rw [hTl] at this
      exact this
    have hw11 : ∀ a b : List Match, a = l.take m → b = l.take m → W 11 [.lst 36 a, .lst 36 b] = (some (true, ()) : Option (Bool × Unit)) := by
      rintro _ _ rfl rfl
      have := w11_ok (l.take m) (l.take m) (by rw [List.length_take]; omega)
      rw [eqf_refl matchEq_refl] at this
      exact this
    refine Ok.bind ⟨_, hw8a _ hq, rfl⟩ ?_
    rintro r rfl
    refine Ok.bind ⟨_, hw8b _ hq, rfl⟩ ?_
    rintro r rfl
    dsimp only
    have hlm : l.take m = (List.range m).map (matchB F N F N) := by
      rw [← hl, ← List.map_take, List.take_range]
      congr 2
      omega
    generalize hr9 : (List.range N.length).map (matchB F (N.take m) F N) = r9
    generalize hr10 : (List.range m).map (matchB F N F (N.take m)) = r10
    have h9l : r9.length = N.length := by rw [← hr9]; simp
    have h10l : r10.length = m := by rw [← hr10]; simp
    have e9 : (r9.drop 0).take ((m : Int).toNat - 0) = l.take m := by
      rw [hlm, ← hr9]
      simp only [List.drop_zero, Int.toNat_natCast, Nat.sub_zero, ← List.map_take, List.take_range]
      rw [show min m N.length = m from by omega]
      refine List.map_congr_left fun k hk => ?_
      have hk : k < m := by simpa using hk
      obtain ⟨i, _, h1, h2⟩ := match_self hN hp m N.length (k := k) (by omega) hk (by omega)
      rw [take_all] at h1
      rw [h1, h2]
    have e10 : r10 = l.take m := by
      rw [hlm, ← hr10]
      refine List.map_congr_left fun k hk => ?_
      have hk : k < m := by simpa using hk
      obtain ⟨i, _, h1, h2⟩ := match_self hN hp N.length m (k := k) (by omega) (by omega) hk
      rw [take_all] at h1
      rw [h1, h2]
    have hlen9 : (((r9.length : Nat) : Int) != (N.length : Int)) = false := by rw [h9l]; simp
    have hlen10 : (((r10.length : Nat) : Int) != (m : Int)) = false := by rw [h10l]; simp
    rw [hlen9, hlen10]
    simp only [cond_false]
    have i1 : (decide ((0 : Int) ≤ (0 : Int)) && (decide ((0 : Int) ≤ (m : Int)) && decide ((m : Int) ≤ (r9.length : Int)))) = true := by simp only [Bool.and_eq_true, decide_eq_true_eq]; omega
    have i2 : (decide ((0 : Int) ≤ (0 : Int)) && (decide ((0 : Int) ≤ (m : Int)) && decide ((m : Int) ≤ (l.length : Int)))) = true := by simp only [Bool.and_eq_true, decide_eq_true_eq]; omega
    rw [i1, i2]
    rw [imp_nn rfl]
    simp only [cond_true]
    refine Ok.bind ⟨_, hw11 _ _ e9 hlq, rfl⟩ ?_
    rintro r rfl
    dsimp only
    rw [imp_nn rfl]
    simp only [cond_true]
    refine Ok.bind ⟨_, hw11 _ _ e10 hlq, rfl⟩ ?_
    rintro r rfl
    exact Ok.pure rfl

end Go.Fw.S1
