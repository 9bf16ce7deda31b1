/- Calls by count, by the functions' own equations. -/
import Derived.Test.YtmogfjfdbbggcaaSc
import Derived.Test.YtmogfjfdbbggcaaFwD
set_option linter.unusedVariables false
set_option maxHeartbeats 1000000
set_option maxRecDepth 100000
namespace Go.Fw.S1
open Go.Proofs
abbrev Disp := (g : Nat) × (Env T tb → List (Val T) → Option (Ret T tb g))
theorem evFn_le {m : Nat} {C C' : Calls' tb} (hc : ∀ f args r, C f args = some r → C' f args = some r) (fi : Fi) (rk : List Knd) (xk : List XK) (nt : Nat) (fn : Go.Func) (args : List (Val T)) {r : Tup T rk × XTup T xk} (h : evFn ⟨C, lpM m⟩ fi rk xk nt fn args = some r) : evFn ⟨C', loopW⟩ fi rk xk nt fn args = some r := by
  unfold evFn at h ⊢
  cases hb : fn.body with
  | none => rw [hb] at h; cases h
  | some c =>
    rw [hb] at h
    simp only at h ⊢
    revert h
    split
    · intro h
      exact ev_le hc fi c 1 _ (fun e s r h => h) h
    · intro h; cases h
def Good (p : Disp) : Prop := ∀ (C : Calls' tb), (∀ f args r, C f args = some r → W f args = some r) → ∀ args r, p.2 ⟨C, lpM 60⟩ args = some r → W p.1 args = some r
inductive AllG : List Disp → Prop
  | nil : AllG []
  | cons {p l} : Good p → AllG l → AllG (p :: l)
theorem allG_ok {l : List Disp} (h : AllG l) : ∀ p, p ∈ l → Good p := by
  induction h with
  | nil => intro p hp; cases hp
  | cons hg _ ih =>
    intro p hp
    rcases List.mem_cons.1 hp with rfl | hp
    · exact hg
    · exact ih p hp
theorem g54 : Good ⟨54, fun _ args => of54 args⟩ := fun C hC args r h => (callW_hand Y0 (by rfl) _).trans h
noncomputable def pickD (E : Env T tb) (f : Nat) (args : List (Val T)) : List Disp → Option (Ret T tb f)
  | [] => none
  | p :: r => if h : p.1 = f then (match (h ▸ p.2 E args : Option (Ret T tb f)) with
    | some x => some x
    | none => pickD E f args r) else pickD E f args r
theorem pickD_ok {C : Calls' tb} (hC : ∀ f args r, C f args = some r → W f args = some r) : ∀ {l : List Disp}, (∀ p, p ∈ l → Good p) → ∀ f args r, pickD ⟨C, lpM 60⟩ f args l = some r → W f args = some r := by
  intro l
  induction l with
  | nil => intro _ f args r h; cases h
  | cons p l ih =>
    intro hl f args r h
    unfold pickD at h
    by_cases hp : p.1 = f
    · rw [dif_pos hp] at h
      subst hp
      simp only at h
      split at h
      · rename_i x hx
        cases h
        exact hl p (by simp) C hC args _ hx
      · exact ih (fun q hq => hl q (by simp [hq])) _ args r h
    · rw [dif_neg hp] at h
      exact ih (fun q hq => hl q (by simp [hq])) f args r h

def p3 : List (Val T) → Option (Program × Int × Unit)
  | [.agg [.lst 42 a0_f0, .lst 47 a0_f1], .int .i64 a1] => some ((Program.mk a0_f0 a0_f1), a1, ())
  | _ => none
theorem p3_some {args : List (Val T)} {x : Program × Int × Unit} (h : p3 args = some x) : args = [.agg [.lst 42 x.1.f0, .lst 47 x.1.f1], .int .i64 x.2.1] := by
  unfold p3 at h
  split at h
  · cases h; rfl
  · cases h
noncomputable def d3 (E : Env T tb) (args : List (Val T)) : Option (Ret T tb 3) := (p3 args).bind fun x => t3 E x.1 x.2.1
theorem g3 : Good ⟨3, d3⟩ := fun C hC args r h => by
  obtain ⟨x, h1, h2⟩ := Option.bind_eq_some_iff.1 h
  rw [p3_some h1]
  exact (w3 x.1 x.2.1).trans ((eq3 E0 x.1 x.2.1).symm.trans (evFn_le hC _ _ _ _ _ _ ((eq3 ⟨C, lpM 60⟩ x.1 x.2.1).trans h2)))
def p4 : List (Val T) → Option (Program × Program × Unit)
  | [.agg [.lst 42 a0_f0, .lst 47 a0_f1], .agg [.lst 42 a1_f0, .lst 47 a1_f1]] => some ((Program.mk a0_f0 a0_f1), (Program.mk a1_f0 a1_f1), ())
  | _ => none
theorem p4_some {args : List (Val T)} {x : Program × Program × Unit} (h : p4 args = some x) : args = [.agg [.lst 42 x.1.f0, .lst 47 x.1.f1], .agg [.lst 42 x.2.1.f0, .lst 47 x.2.1.f1]] := by
  unfold p4 at h
  split at h
  · cases h; rfl
  · cases h
noncomputable def d4 (E : Env T tb) (args : List (Val T)) : Option (Ret T tb 4) := (p4 args).bind fun x => t4 E x.1 x.2.1
theorem g4 : Good ⟨4, d4⟩ := fun C hC args r h => by
  obtain ⟨x, h1, h2⟩ := Option.bind_eq_some_iff.1 h
  rw [p4_some h1]
  exact (w4 x.1 x.2.1).trans ((eq4 E0 x.1 x.2.1).symm.trans (evFn_le hC _ _ _ _ _ _ ((eq4 ⟨C, lpM 60⟩ x.1 x.2.1).trans h2)))
def p5 : List (Val T) → Option (Unit)
  | [] => some (())
  | _ => none
theorem p5_some {args : List (Val T)} {x : Unit} (h : p5 args = some x) : args = [] := by
  unfold p5 at h
  split at h
  · cases h; rfl
  · cases h
noncomputable def d5 (E : Env T tb) (args : List (Val T)) : Option (Ret T tb 5) := (p5 args).bind fun x => t5 E 
theorem g5 : Good ⟨5, d5⟩ := fun C hC args r h => by
  obtain ⟨x, h1, h2⟩ := Option.bind_eq_some_iff.1 h
  rw [p5_some h1]
  exact (w5 ).trans ((eq5 E0 ).symm.trans (evFn_le hC _ _ _ _ _ _ ((eq5 ⟨C, lpM 60⟩ ).trans h2)))
def p6 : List (Val T) → Option (Program × Int × Unit)
  | [.agg [.lst 42 a0_f0, .lst 47 a0_f1], .int .i64 a1] => some ((Program.mk a0_f0 a0_f1), a1, ())
  | _ => none
theorem p6_some {args : List (Val T)} {x : Program × Int × Unit} (h : p6 args = some x) : args = [.agg [.lst 42 x.1.f0, .lst 47 x.1.f1], .int .i64 x.2.1] := by
  unfold p6 at h
  split at h
  · cases h; rfl
  · cases h
noncomputable def d6 (E : Env T tb) (args : List (Val T)) : Option (Ret T tb 6) := (p6 args).bind fun x => t6 E x.1 x.2.1
theorem g6 : Good ⟨6, d6⟩ := fun C hC args r h => by
  obtain ⟨x, h1, h2⟩ := Option.bind_eq_some_iff.1 h
  rw [p6_some h1]
  exact (w6 x.1 x.2.1).trans ((eq6 E0 x.1 x.2.1).symm.trans (evFn_le hC _ _ _ _ _ _ ((eq6 ⟨C, lpM 60⟩ x.1 x.2.1).trans h2)))
def p7 : List (Val T) → Option (Program × Unit)
  | [.agg [.lst 42 a0_f0, .lst 47 a0_f1]] => some ((Program.mk a0_f0 a0_f1), ())
  | _ => none
theorem p7_some {args : List (Val T)} {x : Program × Unit} (h : p7 args = some x) : args = [.agg [.lst 42 x.1.f0, .lst 47 x.1.f1]] := by
  unfold p7 at h
  split at h
  · cases h; rfl
  · cases h
noncomputable def d7 (E : Env T tb) (args : List (Val T)) : Option (Ret T tb 7) := (p7 args).bind fun x => t7 E x.1
theorem g7 : Good ⟨7, d7⟩ := fun C hC args r h => by
  obtain ⟨x, h1, h2⟩ := Option.bind_eq_some_iff.1 h
  rw [p7_some h1]
  exact (w7 x.1).trans ((eq7 E0 x.1).symm.trans (evFn_le hC _ _ _ _ _ _ ((eq7 ⟨C, lpM 60⟩ x.1).trans h2)))
def p8 : List (Val T) → Option (Program × Program × Unit)
  | [.agg [.lst 42 a0_f0, .lst 47 a0_f1], .agg [.lst 42 a1_f0, .lst 47 a1_f1]] => some ((Program.mk a0_f0 a0_f1), (Program.mk a1_f0 a1_f1), ())
  | _ => none
theorem p8_some {args : List (Val T)} {x : Program × Program × Unit} (h : p8 args = some x) : args = [.agg [.lst 42 x.1.f0, .lst 47 x.1.f1], .agg [.lst 42 x.2.1.f0, .lst 47 x.2.1.f1]] := by
  unfold p8 at h
  split at h
  · cases h; rfl
  · cases h
noncomputable def d8 (E : Env T tb) (args : List (Val T)) : Option (Ret T tb 8) := (p8 args).bind fun x => t8 E x.1 x.2.1
theorem g8 : Good ⟨8, d8⟩ := fun C hC args r h => by
  obtain ⟨x, h1, h2⟩ := Option.bind_eq_some_iff.1 h
  rw [p8_some h1]
  exact (w8 x.1 x.2.1).trans ((eq8 E0 x.1 x.2.1).symm.trans (evFn_le hC _ _ _ _ _ _ ((eq8 ⟨C, lpM 60⟩ x.1 x.2.1).trans h2)))
def p9 : List (Val T) → Option (Program × List Match × Unit)
  | [.agg [.lst 42 a0_f0, .lst 47 a0_f1], .lst 36 a1] => some ((Program.mk a0_f0 a0_f1), a1, ())
  | _ => none
theorem p9_some {args : List (Val T)} {x : Program × List Match × Unit} (h : p9 args = some x) : args = [.agg [.lst 42 x.1.f0, .lst 47 x.1.f1], .lst 36 x.2.1] := by
  unfold p9 at h
  split at h
  · cases h; rfl
  · cases h
noncomputable def d9 (E : Env T tb) (args : List (Val T)) : Option (Ret T tb 9) := (p9 args).bind fun x => t9 E x.1 x.2.1
theorem g9 : Good ⟨9, d9⟩ := fun C hC args r h => by
  obtain ⟨x, h1, h2⟩ := Option.bind_eq_some_iff.1 h
  rw [p9_some h1]
  exact (w9 x.1 x.2.1).trans ((eq9 E0 x.1 x.2.1).symm.trans (evFn_le hC _ _ _ _ _ _ ((eq9 ⟨C, lpM 60⟩ x.1 x.2.1).trans h2)))
def p10 : List (Val T) → Option (Program × Program × List Match × Unit)
  | [.agg [.lst 42 a0_f0, .lst 47 a0_f1], .agg [.lst 42 a1_f0, .lst 47 a1_f1], .lst 36 a2] => some ((Program.mk a0_f0 a0_f1), (Program.mk a1_f0 a1_f1), a2, ())
  | _ => none
theorem p10_some {args : List (Val T)} {x : Program × Program × List Match × Unit} (h : p10 args = some x) : args = [.agg [.lst 42 x.1.f0, .lst 47 x.1.f1], .agg [.lst 42 x.2.1.f0, .lst 47 x.2.1.f1], .lst 36 x.2.2.1] := by
  unfold p10 at h
  split at h
  · cases h; rfl
  · cases h
noncomputable def d10 (E : Env T tb) (args : List (Val T)) : Option (Ret T tb 10) := (p10 args).bind fun x => t10 E x.1 x.2.1 x.2.2.1
theorem g10 : Good ⟨10, d10⟩ := fun C hC args r h => by
  obtain ⟨x, h1, h2⟩ := Option.bind_eq_some_iff.1 h
  rw [p10_some h1]
  exact (w10 x.1 x.2.1 x.2.2.1).trans ((eq10 E0 x.1 x.2.1 x.2.2.1).symm.trans (evFn_le hC _ _ _ _ _ _ ((eq10 ⟨C, lpM 60⟩ x.1 x.2.1 x.2.2.1).trans h2)))
def p11 : List (Val T) → Option (List Match × List Match × Unit)
  | [.lst 36 a0, .lst 36 a1] => some (a0, a1, ())
  | _ => none
theorem p11_some {args : List (Val T)} {x : List Match × List Match × Unit} (h : p11 args = some x) : args = [.lst 36 x.1, .lst 36 x.2.1] := by
  unfold p11 at h
  split at h
  · cases h; rfl
  · cases h
noncomputable def d11 (E : Env T tb) (args : List (Val T)) : Option (Ret T tb 11) := (p11 args).bind fun x => t11 E x.1 x.2.1
theorem g11 : Good ⟨11, d11⟩ := fun C hC args r h => by
  obtain ⟨x, h1, h2⟩ := Option.bind_eq_some_iff.1 h
  rw [p11_some h1]
  exact (w11 x.1 x.2.1).trans ((eq11 E0 x.1 x.2.1).symm.trans (evFn_le hC _ _ _ _ _ _ ((eq11 ⟨C, lpM 60⟩ x.1 x.2.1).trans h2)))
def p12 : List (Val T) → Option (Unit)
  | [] => some (())
  | _ => none
theorem p12_some {args : List (Val T)} {x : Unit} (h : p12 args = some x) : args = [] := by
  unfold p12 at h
  split at h
  · cases h; rfl
  · cases h
noncomputable def d12 (E : Env T tb) (args : List (Val T)) : Option (Ret T tb 12) := (p12 args).bind fun x => t12 E 
theorem g12 : Good ⟨12, d12⟩ := fun C hC args r h => by
  obtain ⟨x, h1, h2⟩ := Option.bind_eq_some_iff.1 h
  rw [p12_some h1]
  exact (w12 ).trans ((eq12 E0 ).symm.trans (evFn_le hC _ _ _ _ _ _ ((eq12 ⟨C, lpM 60⟩ ).trans h2)))
def p13 : List (Val T) → Option (Int × List Agg × Unit)
  | [.int .i64 a0, .lst 52 a1] => some (a0, a1, ())
  | _ => none
theorem p13_some {args : List (Val T)} {x : Int × List Agg × Unit} (h : p13 args = some x) : args = [.int .i64 x.1, .lst 52 x.2.1] := by
  unfold p13 at h
  split at h
  · cases h; rfl
  · cases h
noncomputable def d13 (E : Env T tb) (args : List (Val T)) : Option (Ret T tb 13) := (p13 args).bind fun x => t13 E x.1 x.2.1
theorem g13 : Good ⟨13, d13⟩ := fun C hC args r h => by
  obtain ⟨x, h1, h2⟩ := Option.bind_eq_some_iff.1 h
  rw [p13_some h1]
  exact (w13 x.1 x.2.1).trans ((eq13 E0 x.1 x.2.1).symm.trans (evFn_le hC _ _ _ _ _ _ ((eq13 ⟨C, lpM 60⟩ x.1 x.2.1).trans h2)))
def p14 : List (Val T) → Option (Program × Unit)
  | [.agg [.lst 42 a0_f0, .lst 47 a0_f1]] => some ((Program.mk a0_f0 a0_f1), ())
  | _ => none
theorem p14_some {args : List (Val T)} {x : Program × Unit} (h : p14 args = some x) : args = [.agg [.lst 42 x.1.f0, .lst 47 x.1.f1]] := by
  unfold p14 at h
  split at h
  · cases h; rfl
  · cases h
noncomputable def d14 (E : Env T tb) (args : List (Val T)) : Option (Ret T tb 14) := (p14 args).bind fun x => t14 E x.1
theorem g14 : Good ⟨14, d14⟩ := fun C hC args r h => by
  obtain ⟨x, h1, h2⟩ := Option.bind_eq_some_iff.1 h
  rw [p14_some h1]
  exact (w14 x.1).trans ((eq14 E0 x.1).symm.trans (evFn_le hC _ _ _ _ _ _ ((eq14 ⟨C, lpM 60⟩ x.1).trans h2)))
def p15 : List (Val T) → Option (Program × Unit)
  | [.agg [.lst 42 a0_f0, .lst 47 a0_f1]] => some ((Program.mk a0_f0 a0_f1), ())
  | _ => none
theorem p15_some {args : List (Val T)} {x : Program × Unit} (h : p15 args = some x) : args = [.agg [.lst 42 x.1.f0, .lst 47 x.1.f1]] := by
  unfold p15 at h
  split at h
  · cases h; rfl
  · cases h
noncomputable def d15 (E : Env T tb) (args : List (Val T)) : Option (Ret T tb 15) := (p15 args).bind fun x => t15 E x.1
theorem g15 : Good ⟨15, d15⟩ := fun C hC args r h => by
  obtain ⟨x, h1, h2⟩ := Option.bind_eq_some_iff.1 h
  rw [p15_some h1]
  exact (w15 x.1).trans ((eq15 E0 x.1).symm.trans (evFn_le hC _ _ _ _ _ _ ((eq15 ⟨C, lpM 60⟩ x.1).trans h2)))
def p16 : List (Val T) → Option (Program × Int × Int × Unit)
  | [.agg [.lst 42 a0_f0, .lst 47 a0_f1], .int .i64 a1, .int .i64 a2] => some ((Program.mk a0_f0 a0_f1), a1, a2, ())
  | _ => none
theorem p16_some {args : List (Val T)} {x : Program × Int × Int × Unit} (h : p16 args = some x) : args = [.agg [.lst 42 x.1.f0, .lst 47 x.1.f1], .int .i64 x.2.1, .int .i64 x.2.2.1] := by
  unfold p16 at h
  split at h
  · cases h; rfl
  · cases h
noncomputable def d16 (E : Env T tb) (args : List (Val T)) : Option (Ret T tb 16) := (p16 args).bind fun x => t16 E x.1 x.2.1 x.2.2.1
theorem g16 : Good ⟨16, d16⟩ := fun C hC args r h => by
  obtain ⟨x, h1, h2⟩ := Option.bind_eq_some_iff.1 h
  rw [p16_some h1]
  exact (w16 x.1 x.2.1 x.2.2.1).trans ((eq16 E0 x.1 x.2.1 x.2.2.1).symm.trans (evFn_le hC _ _ _ _ _ _ ((eq16 ⟨C, lpM 60⟩ x.1 x.2.1 x.2.2.1).trans h2)))
def p17 : List (Val T) → Option (List Func × Expr × Unit)
  | [.lst 42 a0, .agg [.int .i64 a1_f0, .int .i64 a1_f1, .str a1_f2, .lst 40 a1_f3]] => some (a0, (Expr.mk a1_f0 a1_f1 a1_f2 a1_f3), ())
  | _ => none
theorem p17_some {args : List (Val T)} {x : List Func × Expr × Unit} (h : p17 args = some x) : args = [.lst 42 x.1, .agg [.int .i64 x.2.1.f0, .int .i64 x.2.1.f1, .str x.2.1.f2, .lst 40 x.2.1.f3]] := by
  unfold p17 at h
  split at h
  · cases h; rfl
  · cases h
noncomputable def d17 (E : Env T tb) (args : List (Val T)) : Option (Ret T tb 17) := (p17 args).bind fun x => t17 E x.1 x.2.1
theorem g17 : Good ⟨17, d17⟩ := fun C hC args r h => by
  obtain ⟨x, h1, h2⟩ := Option.bind_eq_some_iff.1 h
  rw [p17_some h1]
  exact (w17 x.1 x.2.1).trans ((eq17 E0 x.1 x.2.1).symm.trans (evFn_le hC _ _ _ _ _ _ ((eq17 ⟨C, lpM 60⟩ x.1 x.2.1).trans h2)))
def p2050018 : List (Val T) → Option (Int × List Func × List Node × List Func × List Node × List (Ty75 × Bool) × Unit)
  | [.ptr 23 0 0, .clo 19 [.ptr 23 0 0] [], .int .i64 a0, .agg [.lst 42 a1, .lst 47 a2, .lst 42 a3, .lst 47 a4, .mref 24 0], .mpv 75 4 m5] => some (a0, a1, a2, a3, a4, m5, ())
  | _ => none
theorem p2050018_some {args : List (Val T)} {x : Int × List Func × List Node × List Func × List Node × List (Ty75 × Bool) × Unit} (h : p2050018 args = some x) : args = [.ptr 23 0 0, .clo 19 [.ptr 23 0 0] [], .int .i64 x.1, .agg [.lst 42 x.2.1, .lst 47 x.2.2.1, .lst 42 x.2.2.2.1, .lst 47 x.2.2.2.2.1, .mref 24 0], .mpv 75 4 x.2.2.2.2.2.1] := by
  unfold p2050018 at h
  split at h
  · cases h; rfl
  · cases h
noncomputable def d2050018 (E : Env T tb) (args : List (Val T)) : Option (Ret T tb 2050018) := (p2050018 args).bind fun x => t2050018 E x.1 x.2.1 x.2.2.1 x.2.2.2.1 x.2.2.2.2.1 x.2.2.2.2.2.1
theorem g2050018 : Good ⟨2050018, d2050018⟩ := fun C hC args r h => by
  obtain ⟨x, h1, h2⟩ := Option.bind_eq_some_iff.1 h
  rw [p2050018_some h1]
  exact (w2050018 x.1 x.2.1 x.2.2.1 x.2.2.2.1 x.2.2.2.2.1 x.2.2.2.2.2.1).trans ((eq2050018 E0 x.1 x.2.1 x.2.2.1 x.2.2.2.1 x.2.2.2.2.1 x.2.2.2.2.2.1).symm.trans (evFn_le hC _ _ _ _ _ _ ((eq2050018 ⟨C, lpM 60⟩ x.1 x.2.1 x.2.2.1 x.2.2.2.1 x.2.2.2.2.1 x.2.2.2.2.2.1).trans h2)))
def p2150018 : List (Val T) → Option (Int × List Func × List Node × List Func × List Node × List (Ty75 × Bool) × Unit)
  | [.ptr 23 0 0, .clo 20 [.ptr 23 0 0] [], .int .i64 a0, .agg [.lst 42 a1, .lst 47 a2, .lst 42 a3, .lst 47 a4, .mref 24 0], .mpv 75 4 m5] => some (a0, a1, a2, a3, a4, m5, ())
  | _ => none
theorem p2150018_some {args : List (Val T)} {x : Int × List Func × List Node × List Func × List Node × List (Ty75 × Bool) × Unit} (h : p2150018 args = some x) : args = [.ptr 23 0 0, .clo 20 [.ptr 23 0 0] [], .int .i64 x.1, .agg [.lst 42 x.2.1, .lst 47 x.2.2.1, .lst 42 x.2.2.2.1, .lst 47 x.2.2.2.2.1, .mref 24 0], .mpv 75 4 x.2.2.2.2.2.1] := by
  unfold p2150018 at h
  split at h
  · cases h; rfl
  · cases h
noncomputable def d2150018 (E : Env T tb) (args : List (Val T)) : Option (Ret T tb 2150018) := (p2150018 args).bind fun x => t2150018 E x.1 x.2.1 x.2.2.1 x.2.2.2.1 x.2.2.2.2.1 x.2.2.2.2.2.1
theorem g2150018 : Good ⟨2150018, d2150018⟩ := fun C hC args r h => by
  obtain ⟨x, h1, h2⟩ := Option.bind_eq_some_iff.1 h
  rw [p2150018_some h1]
  exact (w2150018 x.1 x.2.1 x.2.2.1 x.2.2.2.1 x.2.2.2.2.1 x.2.2.2.2.2.1).trans ((eq2150018 E0 x.1 x.2.1 x.2.2.1 x.2.2.2.1 x.2.2.2.2.1 x.2.2.2.2.2.1).symm.trans (evFn_le hC _ _ _ _ _ _ ((eq2150018 ⟨C, lpM 60⟩ x.1 x.2.1 x.2.2.1 x.2.2.2.1 x.2.2.2.2.1 x.2.2.2.2.2.1).trans h2)))
def p2350021 : List (Val T) → Option (List Match × Int × Unit)
  | [.lst 36 a0, .clo 22 [] [.ptr 9 0 0], .agg [.int .i64 a1]] => some (a0, a1, ())
  | _ => none
theorem p2350021_some {args : List (Val T)} {x : List Match × Int × Unit} (h : p2350021 args = some x) : args = [.lst 36 x.1, .clo 22 [] [.ptr 9 0 0], .agg [.int .i64 x.2.1]] := by
  unfold p2350021 at h
  split at h
  · cases h; rfl
  · cases h
noncomputable def d2350021 (E : Env T tb) (args : List (Val T)) : Option (Ret T tb 2350021) := (p2350021 args).bind fun x => t2350021 E x.1 x.2.1
theorem g2350021 : Good ⟨2350021, d2350021⟩ := fun C hC args r h => by
  obtain ⟨x, h1, h2⟩ := Option.bind_eq_some_iff.1 h
  rw [p2350021_some h1]
  exact (w2350021 x.1 x.2.1).trans ((eq2350021 E0 x.1 x.2.1).symm.trans (evFn_le hC _ _ _ _ _ _ ((eq2350021 ⟨C, lpM 60⟩ x.1 x.2.1).trans h2)))
def p23 : List (Val T) → Option (Node × Unit)
  | [.agg [.int .i64 a0_f0, .lst 3 a0_f1, .str a0_f2, .int .i64 a0_f3, .lst 40 a0_f4, .int .i64 a0_f5, .int .i64 a0_f6, .int .i64 a0_f7, .lst 3 a0_f8, .lst 3 a0_f9, .int .i64 a0_f10, .int .i64 a0_f11, .int .i64 a0_f12, .lst 52 a0_f13, .lst 58 a0_f14, .lst 50 a0_f15]] => some ((Node.mk a0_f0 a0_f1 a0_f2 a0_f3 a0_f4 a0_f5 a0_f6 a0_f7 a0_f8 a0_f9 a0_f10 a0_f11 a0_f12 a0_f13 a0_f14 a0_f15), ())
  | _ => none
theorem p23_some {args : List (Val T)} {x : Node × Unit} (h : p23 args = some x) : args = [.agg [.int .i64 x.1.f0, .lst 3 x.1.f1, .str x.1.f2, .int .i64 x.1.f3, .lst 40 x.1.f4, .int .i64 x.1.f5, .int .i64 x.1.f6, .int .i64 x.1.f7, .lst 3 x.1.f8, .lst 3 x.1.f9, .int .i64 x.1.f10, .int .i64 x.1.f11, .int .i64 x.1.f12, .lst 52 x.1.f13, .lst 58 x.1.f14, .lst 50 x.1.f15]] := by
  unfold p23 at h
  split at h
  · cases h; rfl
  · cases h
noncomputable def d23 (E : Env T tb) (args : List (Val T)) : Option (Ret T tb 23) := (p23 args).bind fun x => t23 E x.1
theorem g23 : Good ⟨23, d23⟩ := fun C hC args r h => by
  obtain ⟨x, h1, h2⟩ := Option.bind_eq_some_iff.1 h
  rw [p23_some h1]
  exact (w23 x.1).trans ((eq23 E0 x.1).symm.trans (evFn_le hC _ _ _ _ _ _ ((eq23 ⟨C, lpM 60⟩ x.1).trans h2)))
def p50019 : List (Val T) → Option (Int × Int × List Func × List Node × List Func × List Node × List (Ty75 × Bool) × Unit)
  | [.ptr 59 0 0, .int .i64 a0, .int .i64 a1, .agg [.lst 42 a2, .lst 47 a3, .lst 42 a4, .lst 47 a5, .mref 60 0], .mpv 75 4 m6] => some (a0, a1, a2, a3, a4, a5, m6, ())
  | _ => none
theorem p50019_some {args : List (Val T)} {x : Int × Int × List Func × List Node × List Func × List Node × List (Ty75 × Bool) × Unit} (h : p50019 args = some x) : args = [.ptr 59 0 0, .int .i64 x.1, .int .i64 x.2.1, .agg [.lst 42 x.2.2.1, .lst 47 x.2.2.2.1, .lst 42 x.2.2.2.2.1, .lst 47 x.2.2.2.2.2.1, .mref 60 0], .mpv 75 4 x.2.2.2.2.2.2.1] := by
  unfold p50019 at h
  split at h
  · cases h; rfl
  · cases h
noncomputable def d50019 (E : Env T tb) (args : List (Val T)) : Option (Ret T tb 50019) := (p50019 args).bind fun x => t50019 E x.1 x.2.1 x.2.2.1 x.2.2.2.1 x.2.2.2.2.1 x.2.2.2.2.2.1 x.2.2.2.2.2.2.1
theorem g50019 : Good ⟨50019, d50019⟩ := fun C hC args r h => by
  obtain ⟨x, h1, h2⟩ := Option.bind_eq_some_iff.1 h
  rw [p50019_some h1]
  exact (w50019 x.1 x.2.1 x.2.2.1 x.2.2.2.1 x.2.2.2.2.1 x.2.2.2.2.2.1 x.2.2.2.2.2.2.1).trans ((eq50019 E0 x.1 x.2.1 x.2.2.1 x.2.2.2.1 x.2.2.2.2.1 x.2.2.2.2.2.1 x.2.2.2.2.2.2.1).symm.trans (evFn_le hC _ _ _ _ _ _ ((eq50019 ⟨C, lpM 60⟩ x.1 x.2.1 x.2.2.1 x.2.2.2.1 x.2.2.2.2.1 x.2.2.2.2.2.1 x.2.2.2.2.2.2.1).trans h2)))
def p50020 : List (Val T) → Option (Int × Int × List Func × List Node × List Func × List Node × List (Ty75 × Bool) × Unit)
  | [.ptr 73 0 0, .int .i64 a0, .int .i64 a1, .agg [.lst 42 a2, .lst 47 a3, .lst 42 a4, .lst 47 a5, .mref 74 0], .mpv 75 4 m6] => some (a0, a1, a2, a3, a4, a5, m6, ())
  | _ => none
theorem p50020_some {args : List (Val T)} {x : Int × Int × List Func × List Node × List Func × List Node × List (Ty75 × Bool) × Unit} (h : p50020 args = some x) : args = [.ptr 73 0 0, .int .i64 x.1, .int .i64 x.2.1, .agg [.lst 42 x.2.2.1, .lst 47 x.2.2.2.1, .lst 42 x.2.2.2.2.1, .lst 47 x.2.2.2.2.2.1, .mref 74 0], .mpv 75 4 x.2.2.2.2.2.2.1] := by
  unfold p50020 at h
  split at h
  · cases h; rfl
  · cases h
noncomputable def d50020 (E : Env T tb) (args : List (Val T)) : Option (Ret T tb 50020) := (p50020 args).bind fun x => t50020 E x.1 x.2.1 x.2.2.1 x.2.2.2.1 x.2.2.2.2.1 x.2.2.2.2.2.1 x.2.2.2.2.2.2.1
theorem g50020 : Good ⟨50020, d50020⟩ := fun C hC args r h => by
  obtain ⟨x, h1, h2⟩ := Option.bind_eq_some_iff.1 h
  rw [p50020_some h1]
  exact (w50020 x.1 x.2.1 x.2.2.1 x.2.2.2.1 x.2.2.2.2.1 x.2.2.2.2.2.1 x.2.2.2.2.2.2.1).trans ((eq50020 E0 x.1 x.2.1 x.2.2.1 x.2.2.2.1 x.2.2.2.2.1 x.2.2.2.2.2.1 x.2.2.2.2.2.2.1).symm.trans (evFn_le hC _ _ _ _ _ _ ((eq50020 ⟨C, lpM 60⟩ x.1 x.2.1 x.2.2.1 x.2.2.2.1 x.2.2.2.2.1 x.2.2.2.2.2.1 x.2.2.2.2.2.2.1).trans h2)))
def p24 : List (Val T) → Option (Program × Unit)
  | [.agg [.lst 42 a0_f0, .lst 47 a0_f1]] => some ((Program.mk a0_f0 a0_f1), ())
  | _ => none
theorem p24_some {args : List (Val T)} {x : Program × Unit} (h : p24 args = some x) : args = [.agg [.lst 42 x.1.f0, .lst 47 x.1.f1]] := by
  unfold p24 at h
  split at h
  · cases h; rfl
  · cases h
noncomputable def d24 (E : Env T tb) (args : List (Val T)) : Option (Ret T tb 24) := (p24 args).bind fun x => t24 E x.1
theorem g24 : Good ⟨24, d24⟩ := fun C hC args r h => by
  obtain ⟨x, h1, h2⟩ := Option.bind_eq_some_iff.1 h
  rw [p24_some h1]
  exact (w24 x.1).trans ((eq24 E0 x.1).symm.trans (evFn_le hC _ _ _ _ _ _ ((eq24 ⟨C, lpM 60⟩ x.1).trans h2)))
def p25 : List (Val T) → Option (Program × Unit)
  | [.agg [.lst 42 a0_f0, .lst 47 a0_f1]] => some ((Program.mk a0_f0 a0_f1), ())
  | _ => none
theorem p25_some {args : List (Val T)} {x : Program × Unit} (h : p25 args = some x) : args = [.agg [.lst 42 x.1.f0, .lst 47 x.1.f1]] := by
  unfold p25 at h
  split at h
  · cases h; rfl
  · cases h
noncomputable def d25 (E : Env T tb) (args : List (Val T)) : Option (Ret T tb 25) := (p25 args).bind fun x => t25 E x.1
theorem g25 : Good ⟨25, d25⟩ := fun C hC args r h => by
  obtain ⟨x, h1, h2⟩ := Option.bind_eq_some_iff.1 h
  rw [p25_some h1]
  exact (w25 x.1).trans ((eq25 E0 x.1).symm.trans (evFn_le hC _ _ _ _ _ _ ((eq25 ⟨C, lpM 60⟩ x.1).trans h2)))
def p26 : List (Val T) → Option (Node × Unit)
  | [.agg [.int .i64 a0_f0, .lst 3 a0_f1, .str a0_f2, .int .i64 a0_f3, .lst 40 a0_f4, .int .i64 a0_f5, .int .i64 a0_f6, .int .i64 a0_f7, .lst 3 a0_f8, .lst 3 a0_f9, .int .i64 a0_f10, .int .i64 a0_f11, .int .i64 a0_f12, .lst 52 a0_f13, .lst 58 a0_f14, .lst 50 a0_f15]] => some ((Node.mk a0_f0 a0_f1 a0_f2 a0_f3 a0_f4 a0_f5 a0_f6 a0_f7 a0_f8 a0_f9 a0_f10 a0_f11 a0_f12 a0_f13 a0_f14 a0_f15), ())
  | _ => none
theorem p26_some {args : List (Val T)} {x : Node × Unit} (h : p26 args = some x) : args = [.agg [.int .i64 x.1.f0, .lst 3 x.1.f1, .str x.1.f2, .int .i64 x.1.f3, .lst 40 x.1.f4, .int .i64 x.1.f5, .int .i64 x.1.f6, .int .i64 x.1.f7, .lst 3 x.1.f8, .lst 3 x.1.f9, .int .i64 x.1.f10, .int .i64 x.1.f11, .int .i64 x.1.f12, .lst 52 x.1.f13, .lst 58 x.1.f14, .lst 50 x.1.f15]] := by
  unfold p26 at h
  split at h
  · cases h; rfl
  · cases h
noncomputable def d26 (E : Env T tb) (args : List (Val T)) : Option (Ret T tb 26) := (p26 args).bind fun x => t26 E x.1
theorem g26 : Good ⟨26, d26⟩ := fun C hC args r h => by
  obtain ⟨x, h1, h2⟩ := Option.bind_eq_some_iff.1 h
  rw [p26_some h1]
  exact (w26 x.1).trans ((eq26 E0 x.1).symm.trans (evFn_le hC _ _ _ _ _ _ ((eq26 ⟨C, lpM 60⟩ x.1).trans h2)))
def p27 : List (Val T) → Option (List Func × Node × Unit)
  | [.lst 42 a0, .agg [.int .i64 a1_f0, .lst 3 a1_f1, .str a1_f2, .int .i64 a1_f3, .lst 40 a1_f4, .int .i64 a1_f5, .int .i64 a1_f6, .int .i64 a1_f7, .lst 3 a1_f8, .lst 3 a1_f9, .int .i64 a1_f10, .int .i64 a1_f11, .int .i64 a1_f12, .lst 52 a1_f13, .lst 58 a1_f14, .lst 50 a1_f15]] => some (a0, (Node.mk a1_f0 a1_f1 a1_f2 a1_f3 a1_f4 a1_f5 a1_f6 a1_f7 a1_f8 a1_f9 a1_f10 a1_f11 a1_f12 a1_f13 a1_f14 a1_f15), ())
  | _ => none
theorem p27_some {args : List (Val T)} {x : List Func × Node × Unit} (h : p27 args = some x) : args = [.lst 42 x.1, .agg [.int .i64 x.2.1.f0, .lst 3 x.2.1.f1, .str x.2.1.f2, .int .i64 x.2.1.f3, .lst 40 x.2.1.f4, .int .i64 x.2.1.f5, .int .i64 x.2.1.f6, .int .i64 x.2.1.f7, .lst 3 x.2.1.f8, .lst 3 x.2.1.f9, .int .i64 x.2.1.f10, .int .i64 x.2.1.f11, .int .i64 x.2.1.f12, .lst 52 x.2.1.f13, .lst 58 x.2.1.f14, .lst 50 x.2.1.f15]] := by
  unfold p27 at h
  split at h
  · cases h; rfl
  · cases h
noncomputable def d27 (E : Env T tb) (args : List (Val T)) : Option (Ret T tb 27) := (p27 args).bind fun x => t27 E x.1 x.2.1
theorem g27 : Good ⟨27, d27⟩ := fun C hC args r h => by
  obtain ⟨x, h1, h2⟩ := Option.bind_eq_some_iff.1 h
  rw [p27_some h1]
  exact (w27 x.1 x.2.1).trans ((eq27 E0 x.1 x.2.1).symm.trans (evFn_le hC _ _ _ _ _ _ ((eq27 ⟨C, lpM 60⟩ x.1 x.2.1).trans h2)))
def p28 : List (Val T) → Option (Expr × List Expr × List Bool × Unit)
  | [.agg [.int .i64 a0_f0, .int .i64 a0_f1, .str a0_f2, .lst 40 a0_f3], .lst 40 a1, .lst 4 a2] => some ((Expr.mk a0_f0 a0_f1 a0_f2 a0_f3), a1, a2, ())
  | _ => none
theorem p28_some {args : List (Val T)} {x : Expr × List Expr × List Bool × Unit} (h : p28 args = some x) : args = [.agg [.int .i64 x.1.f0, .int .i64 x.1.f1, .str x.1.f2, .lst 40 x.1.f3], .lst 40 x.2.1, .lst 4 x.2.2.1] := by
  unfold p28 at h
  split at h
  · cases h; rfl
  · cases h
noncomputable def d28 (E : Env T tb) (args : List (Val T)) : Option (Ret T tb 28) := (p28 args).bind fun x => t28 E x.1 x.2.1 x.2.2.1
theorem g28 : Good ⟨28, d28⟩ := fun C hC args r h => by
  obtain ⟨x, h1, h2⟩ := Option.bind_eq_some_iff.1 h
  rw [p28_some h1]
  exact (w28 x.1 x.2.1 x.2.2.1).trans ((eq28 E0 x.1 x.2.1 x.2.2.1).symm.trans (evFn_le hC _ _ _ _ _ _ ((eq28 ⟨C, lpM 60⟩ x.1 x.2.1 x.2.2.1).trans h2)))
def p29 : List (Val T) → Option (Expr × Unit)
  | [.agg [.int .i64 a0_f0, .int .i64 a0_f1, .str a0_f2, .lst 40 a0_f3]] => some ((Expr.mk a0_f0 a0_f1 a0_f2 a0_f3), ())
  | _ => none
theorem p29_some {args : List (Val T)} {x : Expr × Unit} (h : p29 args = some x) : args = [.agg [.int .i64 x.1.f0, .int .i64 x.1.f1, .str x.1.f2, .lst 40 x.1.f3]] := by
  unfold p29 at h
  split at h
  · cases h; rfl
  · cases h
noncomputable def d29 (E : Env T tb) (args : List (Val T)) : Option (Ret T tb 29) := (p29 args).bind fun x => t29 E x.1
theorem g29 : Good ⟨29, d29⟩ := fun C hC args r h => by
  obtain ⟨x, h1, h2⟩ := Option.bind_eq_some_iff.1 h
  rw [p29_some h1]
  exact (w29 x.1).trans ((eq29 E0 x.1).symm.trans (evFn_le hC _ _ _ _ _ _ ((eq29 ⟨C, lpM 60⟩ x.1).trans h2)))
def p2350034 : List (Val T) → Option (List Match × Int × Unit)
  | [.lst 36 a0, .clo 22 [] [.ptr 19 0 0], .agg [.int .i64 a1]] => some (a0, a1, ())
  | _ => none
theorem p2350034_some {args : List (Val T)} {x : List Match × Int × Unit} (h : p2350034 args = some x) : args = [.lst 36 x.1, .clo 22 [] [.ptr 19 0 0], .agg [.int .i64 x.2.1]] := by
  unfold p2350034 at h
  split at h
  · cases h; rfl
  · cases h
noncomputable def d2350034 (E : Env T tb) (args : List (Val T)) : Option (Ret T tb 2350034) := (p2350034 args).bind fun x => t2350034 E x.1 x.2.1
theorem g2350034 : Good ⟨2350034, d2350034⟩ := fun C hC args r h => by
  obtain ⟨x, h1, h2⟩ := Option.bind_eq_some_iff.1 h
  rw [p2350034_some h1]
  exact (w2350034 x.1 x.2.1).trans ((eq2350034 E0 x.1 x.2.1).symm.trans (evFn_le hC _ _ _ _ _ _ ((eq2350034 ⟨C, lpM 60⟩ x.1 x.2.1).trans h2)))
def p50030 : List (Val T) → Option (Node × Node × List Func × List Node × List Func × List Node × List (Ty75 × Bool) × Unit)
  | [.ptr 80 0 0, .agg [.int .i64 a0_f0, .lst 3 a0_f1, .str a0_f2, .int .i64 a0_f3, .lst 40 a0_f4, .int .i64 a0_f5, .int .i64 a0_f6, .int .i64 a0_f7, .lst 3 a0_f8, .lst 3 a0_f9, .int .i64 a0_f10, .int .i64 a0_f11, .int .i64 a0_f12, .lst 52 a0_f13, .lst 58 a0_f14, .lst 50 a0_f15], .agg [.int .i64 a1_f0, .lst 3 a1_f1, .str a1_f2, .int .i64 a1_f3, .lst 40 a1_f4, .int .i64 a1_f5, .int .i64 a1_f6, .int .i64 a1_f7, .lst 3 a1_f8, .lst 3 a1_f9, .int .i64 a1_f10, .int .i64 a1_f11, .int .i64 a1_f12, .lst 52 a1_f13, .lst 58 a1_f14, .lst 50 a1_f15], .agg [.lst 42 a2, .lst 47 a3, .lst 42 a4, .lst 47 a5, .mref 81 0], .mpv 75 4 m6] => some ((Node.mk a0_f0 a0_f1 a0_f2 a0_f3 a0_f4 a0_f5 a0_f6 a0_f7 a0_f8 a0_f9 a0_f10 a0_f11 a0_f12 a0_f13 a0_f14 a0_f15), (Node.mk a1_f0 a1_f1 a1_f2 a1_f3 a1_f4 a1_f5 a1_f6 a1_f7 a1_f8 a1_f9 a1_f10 a1_f11 a1_f12 a1_f13 a1_f14 a1_f15), a2, a3, a4, a5, m6, ())
  | _ => none
theorem p50030_some {args : List (Val T)} {x : Node × Node × List Func × List Node × List Func × List Node × List (Ty75 × Bool) × Unit} (h : p50030 args = some x) : args = [.ptr 80 0 0, .agg [.int .i64 x.1.f0, .lst 3 x.1.f1, .str x.1.f2, .int .i64 x.1.f3, .lst 40 x.1.f4, .int .i64 x.1.f5, .int .i64 x.1.f6, .int .i64 x.1.f7, .lst 3 x.1.f8, .lst 3 x.1.f9, .int .i64 x.1.f10, .int .i64 x.1.f11, .int .i64 x.1.f12, .lst 52 x.1.f13, .lst 58 x.1.f14, .lst 50 x.1.f15], .agg [.int .i64 x.2.1.f0, .lst 3 x.2.1.f1, .str x.2.1.f2, .int .i64 x.2.1.f3, .lst 40 x.2.1.f4, .int .i64 x.2.1.f5, .int .i64 x.2.1.f6, .int .i64 x.2.1.f7, .lst 3 x.2.1.f8, .lst 3 x.2.1.f9, .int .i64 x.2.1.f10, .int .i64 x.2.1.f11, .int .i64 x.2.1.f12, .lst 52 x.2.1.f13, .lst 58 x.2.1.f14, .lst 50 x.2.1.f15], .agg [.lst 42 x.2.2.1, .lst 47 x.2.2.2.1, .lst 42 x.2.2.2.2.1, .lst 47 x.2.2.2.2.2.1, .mref 81 0], .mpv 75 4 x.2.2.2.2.2.2.1] := by
  unfold p50030 at h
  split at h
  · cases h; rfl
  · cases h
noncomputable def d50030 (E : Env T tb) (args : List (Val T)) : Option (Ret T tb 50030) := (p50030 args).bind fun x => t50030 E x.1 x.2.1 x.2.2.1 x.2.2.2.1 x.2.2.2.2.1 x.2.2.2.2.2.1 x.2.2.2.2.2.2.1
theorem g50030 : Good ⟨50030, d50030⟩ := fun C hC args r h => by
  obtain ⟨x, h1, h2⟩ := Option.bind_eq_some_iff.1 h
  rw [p50030_some h1]
  exact (w50030 x.1 x.2.1 x.2.2.1 x.2.2.2.1 x.2.2.2.2.1 x.2.2.2.2.2.1 x.2.2.2.2.2.2.1).trans ((eq50030 E0 x.1 x.2.1 x.2.2.1 x.2.2.2.1 x.2.2.2.2.1 x.2.2.2.2.2.1 x.2.2.2.2.2.2.1).symm.trans (evFn_le hC _ _ _ _ _ _ ((eq50030 ⟨C, lpM 60⟩ x.1 x.2.1 x.2.2.1 x.2.2.2.1 x.2.2.2.2.1 x.2.2.2.2.2.1 x.2.2.2.2.2.2.1).trans h2)))
def p50031 : List (Val T) → Option (Node × Node × List Func × List Node × List Func × List Node × List (Ty75 × Bool) × Unit)
  | [.ptr 14 0 0, .agg [.int .i64 a0_f0, .lst 3 a0_f1, .str a0_f2, .int .i64 a0_f3, .lst 40 a0_f4, .int .i64 a0_f5, .int .i64 a0_f6, .int .i64 a0_f7, .lst 3 a0_f8, .lst 3 a0_f9, .int .i64 a0_f10, .int .i64 a0_f11, .int .i64 a0_f12, .lst 52 a0_f13, .lst 58 a0_f14, .lst 50 a0_f15], .agg [.int .i64 a1_f0, .lst 3 a1_f1, .str a1_f2, .int .i64 a1_f3, .lst 40 a1_f4, .int .i64 a1_f5, .int .i64 a1_f6, .int .i64 a1_f7, .lst 3 a1_f8, .lst 3 a1_f9, .int .i64 a1_f10, .int .i64 a1_f11, .int .i64 a1_f12, .lst 52 a1_f13, .lst 58 a1_f14, .lst 50 a1_f15], .agg [.lst 42 a2, .lst 47 a3, .lst 42 a4, .lst 47 a5, .mref 15 0], .mpv 75 4 m6] => some ((Node.mk a0_f0 a0_f1 a0_f2 a0_f3 a0_f4 a0_f5 a0_f6 a0_f7 a0_f8 a0_f9 a0_f10 a0_f11 a0_f12 a0_f13 a0_f14 a0_f15), (Node.mk a1_f0 a1_f1 a1_f2 a1_f3 a1_f4 a1_f5 a1_f6 a1_f7 a1_f8 a1_f9 a1_f10 a1_f11 a1_f12 a1_f13 a1_f14 a1_f15), a2, a3, a4, a5, m6, ())
  | _ => none
theorem p50031_some {args : List (Val T)} {x : Node × Node × List Func × List Node × List Func × List Node × List (Ty75 × Bool) × Unit} (h : p50031 args = some x) : args = [.ptr 14 0 0, .agg [.int .i64 x.1.f0, .lst 3 x.1.f1, .str x.1.f2, .int .i64 x.1.f3, .lst 40 x.1.f4, .int .i64 x.1.f5, .int .i64 x.1.f6, .int .i64 x.1.f7, .lst 3 x.1.f8, .lst 3 x.1.f9, .int .i64 x.1.f10, .int .i64 x.1.f11, .int .i64 x.1.f12, .lst 52 x.1.f13, .lst 58 x.1.f14, .lst 50 x.1.f15], .agg [.int .i64 x.2.1.f0, .lst 3 x.2.1.f1, .str x.2.1.f2, .int .i64 x.2.1.f3, .lst 40 x.2.1.f4, .int .i64 x.2.1.f5, .int .i64 x.2.1.f6, .int .i64 x.2.1.f7, .lst 3 x.2.1.f8, .lst 3 x.2.1.f9, .int .i64 x.2.1.f10, .int .i64 x.2.1.f11, .int .i64 x.2.1.f12, .lst 52 x.2.1.f13, .lst 58 x.2.1.f14, .lst 50 x.2.1.f15], .agg [.lst 42 x.2.2.1, .lst 47 x.2.2.2.1, .lst 42 x.2.2.2.2.1, .lst 47 x.2.2.2.2.2.1, .mref 15 0], .mpv 75 4 x.2.2.2.2.2.2.1] := by
  unfold p50031 at h
  split at h
  · cases h; rfl
  · cases h
noncomputable def d50031 (E : Env T tb) (args : List (Val T)) : Option (Ret T tb 50031) := (p50031 args).bind fun x => t50031 E x.1 x.2.1 x.2.2.1 x.2.2.2.1 x.2.2.2.2.1 x.2.2.2.2.2.1 x.2.2.2.2.2.2.1
theorem g50031 : Good ⟨50031, d50031⟩ := fun C hC args r h => by
  obtain ⟨x, h1, h2⟩ := Option.bind_eq_some_iff.1 h
  rw [p50031_some h1]
  exact (w50031 x.1 x.2.1 x.2.2.1 x.2.2.2.1 x.2.2.2.2.1 x.2.2.2.2.2.1 x.2.2.2.2.2.2.1).trans ((eq50031 E0 x.1 x.2.1 x.2.2.1 x.2.2.2.1 x.2.2.2.2.1 x.2.2.2.2.2.1 x.2.2.2.2.2.2.1).symm.trans (evFn_le hC _ _ _ _ _ _ ((eq50031 ⟨C, lpM 60⟩ x.1 x.2.1 x.2.2.1 x.2.2.2.1 x.2.2.2.2.1 x.2.2.2.2.2.1 x.2.2.2.2.2.2.1).trans h2)))
def p32 : List (Val T) → Option (Node × Unit)
  | [.agg [.int .i64 a0_f0, .lst 3 a0_f1, .str a0_f2, .int .i64 a0_f3, .lst 40 a0_f4, .int .i64 a0_f5, .int .i64 a0_f6, .int .i64 a0_f7, .lst 3 a0_f8, .lst 3 a0_f9, .int .i64 a0_f10, .int .i64 a0_f11, .int .i64 a0_f12, .lst 52 a0_f13, .lst 58 a0_f14, .lst 50 a0_f15]] => some ((Node.mk a0_f0 a0_f1 a0_f2 a0_f3 a0_f4 a0_f5 a0_f6 a0_f7 a0_f8 a0_f9 a0_f10 a0_f11 a0_f12 a0_f13 a0_f14 a0_f15), ())
  | _ => none
theorem p32_some {args : List (Val T)} {x : Node × Unit} (h : p32 args = some x) : args = [.agg [.int .i64 x.1.f0, .lst 3 x.1.f1, .str x.1.f2, .int .i64 x.1.f3, .lst 40 x.1.f4, .int .i64 x.1.f5, .int .i64 x.1.f6, .int .i64 x.1.f7, .lst 3 x.1.f8, .lst 3 x.1.f9, .int .i64 x.1.f10, .int .i64 x.1.f11, .int .i64 x.1.f12, .lst 52 x.1.f13, .lst 58 x.1.f14, .lst 50 x.1.f15]] := by
  unfold p32 at h
  split at h
  · cases h; rfl
  · cases h
noncomputable def d32 (E : Env T tb) (args : List (Val T)) : Option (Ret T tb 32) := (p32 args).bind fun x => t32 E x.1
theorem g32 : Good ⟨32, d32⟩ := fun C hC args r h => by
  obtain ⟨x, h1, h2⟩ := Option.bind_eq_some_iff.1 h
  rw [p32_some h1]
  exact (w32 x.1).trans ((eq32 E0 x.1).symm.trans (evFn_le hC _ _ _ _ _ _ ((eq32 ⟨C, lpM 60⟩ x.1).trans h2)))
def p33 : List (Val T) → Option (List Int × List Int × Unit)
  | [.lst 3 a0, .lst 3 a1] => some (a0, a1, ())
  | _ => none
theorem p33_some {args : List (Val T)} {x : List Int × List Int × Unit} (h : p33 args = some x) : args = [.lst 3 x.1, .lst 3 x.2.1] := by
  unfold p33 at h
  split at h
  · cases h; rfl
  · cases h
noncomputable def d33 (E : Env T tb) (args : List (Val T)) : Option (Ret T tb 33) := (p33 args).bind fun x => t33 E x.1 x.2.1
theorem g33 : Good ⟨33, d33⟩ := fun C hC args r h => by
  obtain ⟨x, h1, h2⟩ := Option.bind_eq_some_iff.1 h
  rw [p33_some h1]
  exact (w33 x.1 x.2.1).trans ((eq33 E0 x.1 x.2.1).symm.trans (evFn_le hC _ _ _ _ _ _ ((eq33 ⟨C, lpM 60⟩ x.1 x.2.1).trans h2)))
def p35 : List (Val T) → Option (Program × Unit)
  | [.agg [.lst 42 a0_f0, .lst 47 a0_f1]] => some ((Program.mk a0_f0 a0_f1), ())
  | _ => none
theorem p35_some {args : List (Val T)} {x : Program × Unit} (h : p35 args = some x) : args = [.agg [.lst 42 x.1.f0, .lst 47 x.1.f1]] := by
  unfold p35 at h
  split at h
  · cases h; rfl
  · cases h
noncomputable def d35 (E : Env T tb) (args : List (Val T)) : Option (Ret T tb 35) := (p35 args).bind fun x => t35 E x.1
theorem g35 : Good ⟨35, d35⟩ := fun C hC args r h => by
  obtain ⟨x, h1, h2⟩ := Option.bind_eq_some_iff.1 h
  rw [p35_some h1]
  exact (w35 x.1).trans ((eq35 E0 x.1).symm.trans (evFn_le hC _ _ _ _ _ _ ((eq35 ⟨C, lpM 60⟩ x.1).trans h2)))
def p37 : List (Val T) → Option (List Col × Unit)
  | [.lst 50 a0] => some (a0, ())
  | _ => none
theorem p37_some {args : List (Val T)} {x : List Col × Unit} (h : p37 args = some x) : args = [.lst 50 x.1] := by
  unfold p37 at h
  split at h
  · cases h; rfl
  · cases h
noncomputable def d37 (E : Env T tb) (args : List (Val T)) : Option (Ret T tb 37) := (p37 args).bind fun x => t37 E x.1
theorem g37 : Good ⟨37, d37⟩ := fun C hC args r h => by
  obtain ⟨x, h1, h2⟩ := Option.bind_eq_some_iff.1 h
  rw [p37_some h1]
  exact (w37 x.1).trans ((eq37 E0 x.1).symm.trans (evFn_le hC _ _ _ _ _ _ ((eq37 ⟨C, lpM 60⟩ x.1).trans h2)))
def p36 : List (Val T) → Option (List Int × List Int × Unit)
  | [.lst 3 a0, .lst 3 a1] => some (a0, a1, ())
  | _ => none
theorem p36_some {args : List (Val T)} {x : List Int × List Int × Unit} (h : p36 args = some x) : args = [.lst 3 x.1, .lst 3 x.2.1] := by
  unfold p36 at h
  split at h
  · cases h; rfl
  · cases h
noncomputable def d36 (E : Env T tb) (args : List (Val T)) : Option (Ret T tb 36) := (p36 args).bind fun x => t36 E x.1 x.2.1
theorem g36 : Good ⟨36, d36⟩ := fun C hC args r h => by
  obtain ⟨x, h1, h2⟩ := Option.bind_eq_some_iff.1 h
  rw [p36_some h1]
  exact (w36 x.1 x.2.1).trans ((eq36 E0 x.1 x.2.1).symm.trans (evFn_le hC _ _ _ _ _ _ ((eq36 ⟨C, lpM 60⟩ x.1 x.2.1).trans h2)))
def p38 : List (Val T) → Option (Int × Unit)
  | [.int .i64 a0] => some (a0, ())
  | _ => none
theorem p38_some {args : List (Val T)} {x : Int × Unit} (h : p38 args = some x) : args = [.int .i64 x.1] := by
  unfold p38 at h
  split at h
  · cases h; rfl
  · cases h
noncomputable def d38 (E : Env T tb) (args : List (Val T)) : Option (Ret T tb 38) := (p38 args).bind fun x => t38 E x.1
theorem g38 : Good ⟨38, d38⟩ := fun C hC args r h => by
  obtain ⟨x, h1, h2⟩ := Option.bind_eq_some_iff.1 h
  rw [p38_some h1]
  exact (w38 x.1).trans ((eq38 E0 x.1).symm.trans (evFn_le hC _ _ _ _ _ _ ((eq38 ⟨C, lpM 60⟩ x.1).trans h2)))
def p39 : List (Val T) → Option (Int × Int × Int × Unit)
  | [.int .i64 a0, .int .i64 a1, .int .i64 a2] => some (a0, a1, a2, ())
  | _ => none
theorem p39_some {args : List (Val T)} {x : Int × Int × Int × Unit} (h : p39 args = some x) : args = [.int .i64 x.1, .int .i64 x.2.1, .int .i64 x.2.2.1] := by
  unfold p39 at h
  split at h
  · cases h; rfl
  · cases h
noncomputable def d39 (E : Env T tb) (args : List (Val T)) : Option (Ret T tb 39) := (p39 args).bind fun x => t39 E x.1 x.2.1 x.2.2.1
theorem g39 : Good ⟨39, d39⟩ := fun C hC args r h => by
  obtain ⟨x, h1, h2⟩ := Option.bind_eq_some_iff.1 h
  rw [p39_some h1]
  exact (w39 x.1 x.2.1 x.2.2.1).trans ((eq39 E0 x.1 x.2.1 x.2.2.1).symm.trans (evFn_le hC _ _ _ _ _ _ ((eq39 ⟨C, lpM 60⟩ x.1 x.2.1 x.2.2.1).trans h2)))
def p40 : List (Val T) → Option (Expr × Unit)
  | [.agg [.int .i64 a0_f0, .int .i64 a0_f1, .str a0_f2, .lst 40 a0_f3]] => some ((Expr.mk a0_f0 a0_f1 a0_f2 a0_f3), ())
  | _ => none
theorem p40_some {args : List (Val T)} {x : Expr × Unit} (h : p40 args = some x) : args = [.agg [.int .i64 x.1.f0, .int .i64 x.1.f1, .str x.1.f2, .lst 40 x.1.f3]] := by
  unfold p40 at h
  split at h
  · cases h; rfl
  · cases h
noncomputable def d40 (E : Env T tb) (args : List (Val T)) : Option (Ret T tb 40) := (p40 args).bind fun x => t40 E x.1
theorem g40 : Good ⟨40, d40⟩ := fun C hC args r h => by
  obtain ⟨x, h1, h2⟩ := Option.bind_eq_some_iff.1 h
  rw [p40_some h1]
  exact (w40 x.1).trans ((eq40 E0 x.1).symm.trans (evFn_le hC _ _ _ _ _ _ ((eq40 ⟨C, lpM 60⟩ x.1).trans h2)))
def p41 : List (Val T) → Option (List Func × Expr × Unit)
  | [.lst 42 a0, .agg [.int .i64 a1_f0, .int .i64 a1_f1, .str a1_f2, .lst 40 a1_f3]] => some (a0, (Expr.mk a1_f0 a1_f1 a1_f2 a1_f3), ())
  | _ => none
theorem p41_some {args : List (Val T)} {x : List Func × Expr × Unit} (h : p41 args = some x) : args = [.lst 42 x.1, .agg [.int .i64 x.2.1.f0, .int .i64 x.2.1.f1, .str x.2.1.f2, .lst 40 x.2.1.f3]] := by
  unfold p41 at h
  split at h
  · cases h; rfl
  · cases h
noncomputable def d41 (E : Env T tb) (args : List (Val T)) : Option (Ret T tb 41) := (p41 args).bind fun x => t41 E x.1 x.2.1
theorem g41 : Good ⟨41, d41⟩ := fun C hC args r h => by
  obtain ⟨x, h1, h2⟩ := Option.bind_eq_some_iff.1 h
  rw [p41_some h1]
  exact (w41 x.1 x.2.1).trans ((eq41 E0 x.1 x.2.1).symm.trans (evFn_le hC _ _ _ _ _ _ ((eq41 ⟨C, lpM 60⟩ x.1 x.2.1).trans h2)))
def p42 : List (Val T) → Option (Expr × Int × List Expr × Unit)
  | [.agg [.int .i64 a0_f0, .int .i64 a0_f1, .str a0_f2, .lst 40 a0_f3], .int .i64 a1, .lst 40 a2] => some ((Expr.mk a0_f0 a0_f1 a0_f2 a0_f3), a1, a2, ())
  | _ => none
theorem p42_some {args : List (Val T)} {x : Expr × Int × List Expr × Unit} (h : p42 args = some x) : args = [.agg [.int .i64 x.1.f0, .int .i64 x.1.f1, .str x.1.f2, .lst 40 x.1.f3], .int .i64 x.2.1, .lst 40 x.2.2.1] := by
  unfold p42 at h
  split at h
  · cases h; rfl
  · cases h
noncomputable def d42 (E : Env T tb) (args : List (Val T)) : Option (Ret T tb 42) := (p42 args).bind fun x => t42 E x.1 x.2.1 x.2.2.1
theorem g42 : Good ⟨42, d42⟩ := fun C hC args r h => by
  obtain ⟨x, h1, h2⟩ := Option.bind_eq_some_iff.1 h
  rw [p42_some h1]
  exact (w42 x.1 x.2.1 x.2.2.1).trans ((eq42 E0 x.1 x.2.1 x.2.2.1).symm.trans (evFn_le hC _ _ _ _ _ _ ((eq42 ⟨C, lpM 60⟩ x.1 x.2.1 x.2.2.1).trans h2)))
def p50022 : List (Val T) → Option (Match × Int × Unit)
  | [.agg [.int .i64 a0_f0, .int .i64 a0_f1, .int .i64 a0_f2], .ptr 13 0 0, .agg [.int .i64 a1]] => some ((Match.mk a0_f0 a0_f1 a0_f2), a1, ())
  | _ => none
theorem p50022_some {args : List (Val T)} {x : Match × Int × Unit} (h : p50022 args = some x) : args = [.agg [.int .i64 x.1.f0, .int .i64 x.1.f1, .int .i64 x.1.f2], .ptr 13 0 0, .agg [.int .i64 x.2.1]] := by
  unfold p50022 at h
  split at h
  · cases h; rfl
  · cases h
noncomputable def d50022 (E : Env T tb) (args : List (Val T)) : Option (Ret T tb 50022) := (p50022 args).bind fun x => t50022 E x.1 x.2.1
theorem g50022 : Good ⟨50022, d50022⟩ := fun C hC args r h => by
  obtain ⟨x, h1, h2⟩ := Option.bind_eq_some_iff.1 h
  rw [p50022_some h1]
  exact (w50022 x.1 x.2.1).trans ((eq50022 E0 x.1 x.2.1).symm.trans (evFn_le hC _ _ _ _ _ _ ((eq50022 ⟨C, lpM 60⟩ x.1 x.2.1).trans h2)))
def p4650044 : List (Val T) → Option (List Expr × List Expr × List Func × List Node × List Func × List Node × List (Ty75 × Bool) × Unit)
  | [.lst 40 a0, .lst 40 a1, .clo 45 [.ptr 32 0 0] [], .agg [.lst 42 a2, .lst 47 a3, .lst 42 a4, .lst 47 a5, .mref 33 0], .mpv 75 4 m6] => some (a0, a1, a2, a3, a4, a5, m6, ())
  | _ => none
theorem p4650044_some {args : List (Val T)} {x : List Expr × List Expr × List Func × List Node × List Func × List Node × List (Ty75 × Bool) × Unit} (h : p4650044 args = some x) : args = [.lst 40 x.1, .lst 40 x.2.1, .clo 45 [.ptr 32 0 0] [], .agg [.lst 42 x.2.2.1, .lst 47 x.2.2.2.1, .lst 42 x.2.2.2.2.1, .lst 47 x.2.2.2.2.2.1, .mref 33 0], .mpv 75 4 x.2.2.2.2.2.2.1] := by
  unfold p4650044 at h
  split at h
  · cases h; rfl
  · cases h
noncomputable def d4650044 (E : Env T tb) (args : List (Val T)) : Option (Ret T tb 4650044) := (p4650044 args).bind fun x => t4650044 E x.1 x.2.1 x.2.2.1 x.2.2.2.1 x.2.2.2.2.1 x.2.2.2.2.2.1 x.2.2.2.2.2.2.1
theorem g4650044 : Good ⟨4650044, d4650044⟩ := fun C hC args r h => by
  obtain ⟨x, h1, h2⟩ := Option.bind_eq_some_iff.1 h
  rw [p4650044_some h1]
  exact (w4650044 x.1 x.2.1 x.2.2.1 x.2.2.2.1 x.2.2.2.2.1 x.2.2.2.2.2.1 x.2.2.2.2.2.2.1).trans ((eq4650044 E0 x.1 x.2.1 x.2.2.1 x.2.2.2.1 x.2.2.2.2.1 x.2.2.2.2.2.1 x.2.2.2.2.2.2.1).symm.trans (evFn_le hC _ _ _ _ _ _ ((eq4650044 ⟨C, lpM 60⟩ x.1 x.2.1 x.2.2.1 x.2.2.2.1 x.2.2.2.2.1 x.2.2.2.2.2.1 x.2.2.2.2.2.2.1).trans h2)))
def p4800046 : List (Val T) → Option (List Agg × List Agg × Unit)
  | [.lst 52 a0, .lst 52 a1, .clo 47 [] []] => some (a0, a1, ())
  | _ => none
theorem p4800046_some {args : List (Val T)} {x : List Agg × List Agg × Unit} (h : p4800046 args = some x) : args = [.lst 52 x.1, .lst 52 x.2.1, .clo 47 [] []] := by
  unfold p4800046 at h
  split at h
  · cases h; rfl
  · cases h
noncomputable def d4800046 (E : Env T tb) (args : List (Val T)) : Option (Ret T tb 4800046) := (p4800046 args).bind fun x => t4800046 E x.1 x.2.1
theorem g4800046 : Good ⟨4800046, d4800046⟩ := fun C hC args r h => by
  obtain ⟨x, h1, h2⟩ := Option.bind_eq_some_iff.1 h
  rw [p4800046_some h1]
  exact (w4800046 x.1 x.2.1).trans ((eq4800046 E0 x.1 x.2.1).symm.trans (evFn_le hC _ _ _ _ _ _ ((eq4800046 ⟨C, lpM 60⟩ x.1 x.2.1).trans h2)))
def p5050048 : List (Val T) → Option (List Pat × List Pat × List Func × List Node × List Func × List Node × List (Ty75 × Bool) × Unit)
  | [.lst 58 a0, .lst 58 a1, .clo 49 [] [.ptr 32 0 0], .agg [.ptr 33 0 0], .agg [.lst 42 a2, .lst 47 a3, .lst 42 a4, .lst 47 a5, .mref 34 0], .mpv 75 4 m6] => some (a0, a1, a2, a3, a4, a5, m6, ())
  | _ => none
theorem p5050048_some {args : List (Val T)} {x : List Pat × List Pat × List Func × List Node × List Func × List Node × List (Ty75 × Bool) × Unit} (h : p5050048 args = some x) : args = [.lst 58 x.1, .lst 58 x.2.1, .clo 49 [] [.ptr 32 0 0], .agg [.ptr 33 0 0], .agg [.lst 42 x.2.2.1, .lst 47 x.2.2.2.1, .lst 42 x.2.2.2.2.1, .lst 47 x.2.2.2.2.2.1, .mref 34 0], .mpv 75 4 x.2.2.2.2.2.2.1] := by
  unfold p5050048 at h
  split at h
  · cases h; rfl
  · cases h
noncomputable def d5050048 (E : Env T tb) (args : List (Val T)) : Option (Ret T tb 5050048) := (p5050048 args).bind fun x => t5050048 E x.1 x.2.1 x.2.2.1 x.2.2.2.1 x.2.2.2.2.1 x.2.2.2.2.2.1 x.2.2.2.2.2.2.1
theorem g5050048 : Good ⟨5050048, d5050048⟩ := fun C hC args r h => by
  obtain ⟨x, h1, h2⟩ := Option.bind_eq_some_iff.1 h
  rw [p5050048_some h1]
  exact (w5050048 x.1 x.2.1 x.2.2.1 x.2.2.2.1 x.2.2.2.2.1 x.2.2.2.2.2.1 x.2.2.2.2.2.2.1).trans ((eq5050048 E0 x.1 x.2.1 x.2.2.1 x.2.2.2.1 x.2.2.2.2.1 x.2.2.2.2.2.1 x.2.2.2.2.2.2.1).symm.trans (evFn_le hC _ _ _ _ _ _ ((eq5050048 ⟨C, lpM 60⟩ x.1 x.2.1 x.2.2.1 x.2.2.2.1 x.2.2.2.2.1 x.2.2.2.2.2.1 x.2.2.2.2.2.2.1).trans h2)))
def p5200050 : List (Val T) → Option (List Col × List Col × Unit)
  | [.lst 50 a0, .lst 50 a1, .clo 51 [] []] => some (a0, a1, ())
  | _ => none
theorem p5200050_some {args : List (Val T)} {x : List Col × List Col × Unit} (h : p5200050 args = some x) : args = [.lst 50 x.1, .lst 50 x.2.1, .clo 51 [] []] := by
  unfold p5200050 at h
  split at h
  · cases h; rfl
  · cases h
noncomputable def d5200050 (E : Env T tb) (args : List (Val T)) : Option (Ret T tb 5200050) := (p5200050 args).bind fun x => t5200050 E x.1 x.2.1
theorem g5200050 : Good ⟨5200050, d5200050⟩ := fun C hC args r h => by
  obtain ⟨x, h1, h2⟩ := Option.bind_eq_some_iff.1 h
  rw [p5200050_some h1]
  exact (w5200050 x.1 x.2.1).trans ((eq5200050 E0 x.1 x.2.1).symm.trans (evFn_le hC _ _ _ _ _ _ ((eq5200050 ⟨C, lpM 60⟩ x.1 x.2.1).trans h2)))
def p43 : List (Val T) → Option (Node × Unit)
  | [.agg [.int .i64 a0_f0, .lst 3 a0_f1, .str a0_f2, .int .i64 a0_f3, .lst 40 a0_f4, .int .i64 a0_f5, .int .i64 a0_f6, .int .i64 a0_f7, .lst 3 a0_f8, .lst 3 a0_f9, .int .i64 a0_f10, .int .i64 a0_f11, .int .i64 a0_f12, .lst 52 a0_f13, .lst 58 a0_f14, .lst 50 a0_f15]] => some ((Node.mk a0_f0 a0_f1 a0_f2 a0_f3 a0_f4 a0_f5 a0_f6 a0_f7 a0_f8 a0_f9 a0_f10 a0_f11 a0_f12 a0_f13 a0_f14 a0_f15), ())
  | _ => none
theorem p43_some {args : List (Val T)} {x : Node × Unit} (h : p43 args = some x) : args = [.agg [.int .i64 x.1.f0, .lst 3 x.1.f1, .str x.1.f2, .int .i64 x.1.f3, .lst 40 x.1.f4, .int .i64 x.1.f5, .int .i64 x.1.f6, .int .i64 x.1.f7, .lst 3 x.1.f8, .lst 3 x.1.f9, .int .i64 x.1.f10, .int .i64 x.1.f11, .int .i64 x.1.f12, .lst 52 x.1.f13, .lst 58 x.1.f14, .lst 50 x.1.f15]] := by
  unfold p43 at h
  split at h
  · cases h; rfl
  · cases h
noncomputable def d43 (E : Env T tb) (args : List (Val T)) : Option (Ret T tb 43) := (p43 args).bind fun x => t43 E x.1
theorem g43 : Good ⟨43, d43⟩ := fun C hC args r h => by
  obtain ⟨x, h1, h2⟩ := Option.bind_eq_some_iff.1 h
  rw [p43_some h1]
  exact (w43 x.1).trans ((eq43 E0 x.1).symm.trans (evFn_le hC _ _ _ _ _ _ ((eq43 ⟨C, lpM 60⟩ x.1).trans h2)))
def p2050052 : List (Val T) → Option (List Int × List Int × List Func × List Node × List Func × List Node × List (Ty75 × Bool) × Unit)
  | [.lst 3 a0, .lst 3 a1, .clo 19 [.ptr 32 0 0] [], .agg [.lst 42 a2, .lst 47 a3, .lst 42 a4, .lst 47 a5, .mref 33 0], .mpv 75 4 m6] => some (a0, a1, a2, a3, a4, a5, m6, ())
  | _ => none
theorem p2050052_some {args : List (Val T)} {x : List Int × List Int × List Func × List Node × List Func × List Node × List (Ty75 × Bool) × Unit} (h : p2050052 args = some x) : args = [.lst 3 x.1, .lst 3 x.2.1, .clo 19 [.ptr 32 0 0] [], .agg [.lst 42 x.2.2.1, .lst 47 x.2.2.2.1, .lst 42 x.2.2.2.2.1, .lst 47 x.2.2.2.2.2.1, .mref 33 0], .mpv 75 4 x.2.2.2.2.2.2.1] := by
  unfold p2050052 at h
  split at h
  · cases h; rfl
  · cases h
noncomputable def d2050052 (E : Env T tb) (args : List (Val T)) : Option (Ret T tb 2050052) := (p2050052 args).bind fun x => t2050052 E x.1 x.2.1 x.2.2.1 x.2.2.2.1 x.2.2.2.2.1 x.2.2.2.2.2.1 x.2.2.2.2.2.2.1
theorem g2050052 : Good ⟨2050052, d2050052⟩ := fun C hC args r h => by
  obtain ⟨x, h1, h2⟩ := Option.bind_eq_some_iff.1 h
  rw [p2050052_some h1]
  exact (w2050052 x.1 x.2.1 x.2.2.1 x.2.2.2.1 x.2.2.2.2.1 x.2.2.2.2.2.1 x.2.2.2.2.2.2.1).trans ((eq2050052 E0 x.1 x.2.1 x.2.2.1 x.2.2.2.1 x.2.2.2.2.1 x.2.2.2.2.2.1 x.2.2.2.2.2.2.1).symm.trans (evFn_le hC _ _ _ _ _ _ ((eq2050052 ⟨C, lpM 60⟩ x.1 x.2.1 x.2.2.1 x.2.2.2.1 x.2.2.2.2.1 x.2.2.2.2.2.1 x.2.2.2.2.2.2.1).trans h2)))
def p53 : List (Val T) → Option (Node × Unit)
  | [.agg [.int .i64 a0_f0, .lst 3 a0_f1, .str a0_f2, .int .i64 a0_f3, .lst 40 a0_f4, .int .i64 a0_f5, .int .i64 a0_f6, .int .i64 a0_f7, .lst 3 a0_f8, .lst 3 a0_f9, .int .i64 a0_f10, .int .i64 a0_f11, .int .i64 a0_f12, .lst 52 a0_f13, .lst 58 a0_f14, .lst 50 a0_f15]] => some ((Node.mk a0_f0 a0_f1 a0_f2 a0_f3 a0_f4 a0_f5 a0_f6 a0_f7 a0_f8 a0_f9 a0_f10 a0_f11 a0_f12 a0_f13 a0_f14 a0_f15), ())
  | _ => none
theorem p53_some {args : List (Val T)} {x : Node × Unit} (h : p53 args = some x) : args = [.agg [.int .i64 x.1.f0, .lst 3 x.1.f1, .str x.1.f2, .int .i64 x.1.f3, .lst 40 x.1.f4, .int .i64 x.1.f5, .int .i64 x.1.f6, .int .i64 x.1.f7, .lst 3 x.1.f8, .lst 3 x.1.f9, .int .i64 x.1.f10, .int .i64 x.1.f11, .int .i64 x.1.f12, .lst 52 x.1.f13, .lst 58 x.1.f14, .lst 50 x.1.f15]] := by
  unfold p53 at h
  split at h
  · cases h; rfl
  · cases h
noncomputable def d53 (E : Env T tb) (args : List (Val T)) : Option (Ret T tb 53) := (p53 args).bind fun x => t53 E x.1
theorem g53 : Good ⟨53, d53⟩ := fun C hC args r h => by
  obtain ⟨x, h1, h2⟩ := Option.bind_eq_some_iff.1 h
  rw [p53_some h1]
  exact (w53 x.1).trans ((eq53 E0 x.1).symm.trans (evFn_le hC _ _ _ _ _ _ ((eq53 ⟨C, lpM 60⟩ x.1).trans h2)))
def p65 : List (Val T) → Option (Node × Unit)
  | [.agg [.int .i64 a0_f0, .lst 3 a0_f1, .str a0_f2, .int .i64 a0_f3, .lst 40 a0_f4, .int .i64 a0_f5, .int .i64 a0_f6, .int .i64 a0_f7, .lst 3 a0_f8, .lst 3 a0_f9, .int .i64 a0_f10, .int .i64 a0_f11, .int .i64 a0_f12, .lst 52 a0_f13, .lst 58 a0_f14, .lst 50 a0_f15]] => some ((Node.mk a0_f0 a0_f1 a0_f2 a0_f3 a0_f4 a0_f5 a0_f6 a0_f7 a0_f8 a0_f9 a0_f10 a0_f11 a0_f12 a0_f13 a0_f14 a0_f15), ())
  | _ => none
theorem p65_some {args : List (Val T)} {x : Node × Unit} (h : p65 args = some x) : args = [.agg [.int .i64 x.1.f0, .lst 3 x.1.f1, .str x.1.f2, .int .i64 x.1.f3, .lst 40 x.1.f4, .int .i64 x.1.f5, .int .i64 x.1.f6, .int .i64 x.1.f7, .lst 3 x.1.f8, .lst 3 x.1.f9, .int .i64 x.1.f10, .int .i64 x.1.f11, .int .i64 x.1.f12, .lst 52 x.1.f13, .lst 58 x.1.f14, .lst 50 x.1.f15]] := by
  unfold p65 at h
  split at h
  · cases h; rfl
  · cases h
noncomputable def d65 (E : Env T tb) (args : List (Val T)) : Option (Ret T tb 65) := (p65 args).bind fun x => t65 E x.1
theorem g65 : Good ⟨65, d65⟩ := fun C hC args r h => by
  obtain ⟨x, h1, h2⟩ := Option.bind_eq_some_iff.1 h
  rw [p65_some h1]
  exact (w65 x.1).trans ((eq65 E0 x.1).symm.trans (evFn_le hC _ _ _ _ _ _ ((eq65 ⟨C, lpM 60⟩ x.1).trans h2)))
def p67 : List (Val T) → Option (Node × Unit)
  | [.agg [.int .i64 a0_f0, .lst 3 a0_f1, .str a0_f2, .int .i64 a0_f3, .lst 40 a0_f4, .int .i64 a0_f5, .int .i64 a0_f6, .int .i64 a0_f7, .lst 3 a0_f8, .lst 3 a0_f9, .int .i64 a0_f10, .int .i64 a0_f11, .int .i64 a0_f12, .lst 52 a0_f13, .lst 58 a0_f14, .lst 50 a0_f15]] => some ((Node.mk a0_f0 a0_f1 a0_f2 a0_f3 a0_f4 a0_f5 a0_f6 a0_f7 a0_f8 a0_f9 a0_f10 a0_f11 a0_f12 a0_f13 a0_f14 a0_f15), ())
  | _ => none
theorem p67_some {args : List (Val T)} {x : Node × Unit} (h : p67 args = some x) : args = [.agg [.int .i64 x.1.f0, .lst 3 x.1.f1, .str x.1.f2, .int .i64 x.1.f3, .lst 40 x.1.f4, .int .i64 x.1.f5, .int .i64 x.1.f6, .int .i64 x.1.f7, .lst 3 x.1.f8, .lst 3 x.1.f9, .int .i64 x.1.f10, .int .i64 x.1.f11, .int .i64 x.1.f12, .lst 52 x.1.f13, .lst 58 x.1.f14, .lst 50 x.1.f15]] := by
  unfold p67 at h
  split at h
  · cases h; rfl
  · cases h
noncomputable def d67 (E : Env T tb) (args : List (Val T)) : Option (Ret T tb 67) := (p67 args).bind fun x => t67 E x.1
theorem g67 : Good ⟨67, d67⟩ := fun C hC args r h => by
  obtain ⟨x, h1, h2⟩ := Option.bind_eq_some_iff.1 h
  rw [p67_some h1]
  exact (w67 x.1).trans ((eq67 E0 x.1).symm.trans (evFn_le hC _ _ _ _ _ _ ((eq67 ⟨C, lpM 60⟩ x.1).trans h2)))
def p72 : List (Val T) → Option (Node × Unit)
  | [.agg [.int .i64 a0_f0, .lst 3 a0_f1, .str a0_f2, .int .i64 a0_f3, .lst 40 a0_f4, .int .i64 a0_f5, .int .i64 a0_f6, .int .i64 a0_f7, .lst 3 a0_f8, .lst 3 a0_f9, .int .i64 a0_f10, .int .i64 a0_f11, .int .i64 a0_f12, .lst 52 a0_f13, .lst 58 a0_f14, .lst 50 a0_f15]] => some ((Node.mk a0_f0 a0_f1 a0_f2 a0_f3 a0_f4 a0_f5 a0_f6 a0_f7 a0_f8 a0_f9 a0_f10 a0_f11 a0_f12 a0_f13 a0_f14 a0_f15), ())
  | _ => none
theorem p72_some {args : List (Val T)} {x : Node × Unit} (h : p72 args = some x) : args = [.agg [.int .i64 x.1.f0, .lst 3 x.1.f1, .str x.1.f2, .int .i64 x.1.f3, .lst 40 x.1.f4, .int .i64 x.1.f5, .int .i64 x.1.f6, .int .i64 x.1.f7, .lst 3 x.1.f8, .lst 3 x.1.f9, .int .i64 x.1.f10, .int .i64 x.1.f11, .int .i64 x.1.f12, .lst 52 x.1.f13, .lst 58 x.1.f14, .lst 50 x.1.f15]] := by
  unfold p72 at h
  split at h
  · cases h; rfl
  · cases h
noncomputable def d72 (E : Env T tb) (args : List (Val T)) : Option (Ret T tb 72) := (p72 args).bind fun x => t72 E x.1
theorem g72 : Good ⟨72, d72⟩ := fun C hC args r h => by
  obtain ⟨x, h1, h2⟩ := Option.bind_eq_some_iff.1 h
  rw [p72_some h1]
  exact (w72 x.1).trans ((eq72 E0 x.1).symm.trans (evFn_le hC _ _ _ _ _ _ ((eq72 ⟨C, lpM 60⟩ x.1).trans h2)))
def p74 : List (Val T) → Option (Node × Unit)
  | [.agg [.int .i64 a0_f0, .lst 3 a0_f1, .str a0_f2, .int .i64 a0_f3, .lst 40 a0_f4, .int .i64 a0_f5, .int .i64 a0_f6, .int .i64 a0_f7, .lst 3 a0_f8, .lst 3 a0_f9, .int .i64 a0_f10, .int .i64 a0_f11, .int .i64 a0_f12, .lst 52 a0_f13, .lst 58 a0_f14, .lst 50 a0_f15]] => some ((Node.mk a0_f0 a0_f1 a0_f2 a0_f3 a0_f4 a0_f5 a0_f6 a0_f7 a0_f8 a0_f9 a0_f10 a0_f11 a0_f12 a0_f13 a0_f14 a0_f15), ())
  | _ => none
theorem p74_some {args : List (Val T)} {x : Node × Unit} (h : p74 args = some x) : args = [.agg [.int .i64 x.1.f0, .lst 3 x.1.f1, .str x.1.f2, .int .i64 x.1.f3, .lst 40 x.1.f4, .int .i64 x.1.f5, .int .i64 x.1.f6, .int .i64 x.1.f7, .lst 3 x.1.f8, .lst 3 x.1.f9, .int .i64 x.1.f10, .int .i64 x.1.f11, .int .i64 x.1.f12, .lst 52 x.1.f13, .lst 58 x.1.f14, .lst 50 x.1.f15]] := by
  unfold p74 at h
  split at h
  · cases h; rfl
  · cases h
noncomputable def d74 (E : Env T tb) (args : List (Val T)) : Option (Ret T tb 74) := (p74 args).bind fun x => t74 E x.1
theorem g74 : Good ⟨74, d74⟩ := fun C hC args r h => by
  obtain ⟨x, h1, h2⟩ := Option.bind_eq_some_iff.1 h
  rw [p74_some h1]
  exact (w74 x.1).trans ((eq74 E0 x.1).symm.trans (evFn_le hC _ _ _ _ _ _ ((eq74 ⟨C, lpM 60⟩ x.1).trans h2)))
def p76 : List (Val T) → Option (Node × Unit)
  | [.agg [.int .i64 a0_f0, .lst 3 a0_f1, .str a0_f2, .int .i64 a0_f3, .lst 40 a0_f4, .int .i64 a0_f5, .int .i64 a0_f6, .int .i64 a0_f7, .lst 3 a0_f8, .lst 3 a0_f9, .int .i64 a0_f10, .int .i64 a0_f11, .int .i64 a0_f12, .lst 52 a0_f13, .lst 58 a0_f14, .lst 50 a0_f15]] => some ((Node.mk a0_f0 a0_f1 a0_f2 a0_f3 a0_f4 a0_f5 a0_f6 a0_f7 a0_f8 a0_f9 a0_f10 a0_f11 a0_f12 a0_f13 a0_f14 a0_f15), ())
  | _ => none
theorem p76_some {args : List (Val T)} {x : Node × Unit} (h : p76 args = some x) : args = [.agg [.int .i64 x.1.f0, .lst 3 x.1.f1, .str x.1.f2, .int .i64 x.1.f3, .lst 40 x.1.f4, .int .i64 x.1.f5, .int .i64 x.1.f6, .int .i64 x.1.f7, .lst 3 x.1.f8, .lst 3 x.1.f9, .int .i64 x.1.f10, .int .i64 x.1.f11, .int .i64 x.1.f12, .lst 52 x.1.f13, .lst 58 x.1.f14, .lst 50 x.1.f15]] := by
  unfold p76 at h
  split at h
  · cases h; rfl
  · cases h
noncomputable def d76 (E : Env T tb) (args : List (Val T)) : Option (Ret T tb 76) := (p76 args).bind fun x => t76 E x.1
theorem g76 : Good ⟨76, d76⟩ := fun C hC args r h => by
  obtain ⟨x, h1, h2⟩ := Option.bind_eq_some_iff.1 h
  rw [p76_some h1]
  exact (w76 x.1).trans ((eq76 E0 x.1).symm.trans (evFn_le hC _ _ _ _ _ _ ((eq76 ⟨C, lpM 60⟩ x.1).trans h2)))
def p55 : List (Val T) → Option (List Func × Unit)
  | [.lst 42 a0] => some (a0, ())
  | _ => none
theorem p55_some {args : List (Val T)} {x : List Func × Unit} (h : p55 args = some x) : args = [.lst 42 x.1] := by
  unfold p55 at h
  split at h
  · cases h; rfl
  · cases h
noncomputable def d55 (E : Env T tb) (args : List (Val T)) : Option (Ret T tb 55) := (p55 args).bind fun x => t55 E x.1
theorem g55 : Good ⟨55, d55⟩ := fun C hC args r h => by
  obtain ⟨x, h1, h2⟩ := Option.bind_eq_some_iff.1 h
  rw [p55_some h1]
  exact (w55 x.1).trans ((eq55 E0 x.1).symm.trans (evFn_le hC _ _ _ _ _ _ ((eq55 ⟨C, lpM 60⟩ x.1).trans h2)))
def p56 : List (Val T) → Option (Int × Unit)
  | [.int .i64 a0] => some (a0, ())
  | _ => none
theorem p56_some {args : List (Val T)} {x : Int × Unit} (h : p56 args = some x) : args = [.int .i64 x.1] := by
  unfold p56 at h
  split at h
  · cases h; rfl
  · cases h
noncomputable def d56 (E : Env T tb) (args : List (Val T)) : Option (Ret T tb 56) := (p56 args).bind fun x => t56 E x.1
theorem g56 : Good ⟨56, d56⟩ := fun C hC args r h => by
  obtain ⟨x, h1, h2⟩ := Option.bind_eq_some_iff.1 h
  rw [p56_some h1]
  exact (w56 x.1).trans ((eq56 E0 x.1).symm.trans (evFn_le hC _ _ _ _ _ _ ((eq56 ⟨C, lpM 60⟩ x.1).trans h2)))
def p57 : List (Val T) → Option (Node × Unit)
  | [.agg [.int .i64 a0_f0, .lst 3 a0_f1, .str a0_f2, .int .i64 a0_f3, .lst 40 a0_f4, .int .i64 a0_f5, .int .i64 a0_f6, .int .i64 a0_f7, .lst 3 a0_f8, .lst 3 a0_f9, .int .i64 a0_f10, .int .i64 a0_f11, .int .i64 a0_f12, .lst 52 a0_f13, .lst 58 a0_f14, .lst 50 a0_f15]] => some ((Node.mk a0_f0 a0_f1 a0_f2 a0_f3 a0_f4 a0_f5 a0_f6 a0_f7 a0_f8 a0_f9 a0_f10 a0_f11 a0_f12 a0_f13 a0_f14 a0_f15), ())
  | _ => none
theorem p57_some {args : List (Val T)} {x : Node × Unit} (h : p57 args = some x) : args = [.agg [.int .i64 x.1.f0, .lst 3 x.1.f1, .str x.1.f2, .int .i64 x.1.f3, .lst 40 x.1.f4, .int .i64 x.1.f5, .int .i64 x.1.f6, .int .i64 x.1.f7, .lst 3 x.1.f8, .lst 3 x.1.f9, .int .i64 x.1.f10, .int .i64 x.1.f11, .int .i64 x.1.f12, .lst 52 x.1.f13, .lst 58 x.1.f14, .lst 50 x.1.f15]] := by
  unfold p57 at h
  split at h
  · cases h; rfl
  · cases h
noncomputable def d57 (E : Env T tb) (args : List (Val T)) : Option (Ret T tb 57) := (p57 args).bind fun x => t57 E x.1
theorem g57 : Good ⟨57, d57⟩ := fun C hC args r h => by
  obtain ⟨x, h1, h2⟩ := Option.bind_eq_some_iff.1 h
  rw [p57_some h1]
  exact (w57 x.1).trans ((eq57 E0 x.1).symm.trans (evFn_le hC _ _ _ _ _ _ ((eq57 ⟨C, lpM 60⟩ x.1).trans h2)))
def p58 : List (Val T) → Option (List Func × Node × List Int × List Int × Unit)
  | [.lst 42 a0, .agg [.int .i64 a1_f0, .lst 3 a1_f1, .str a1_f2, .int .i64 a1_f3, .lst 40 a1_f4, .int .i64 a1_f5, .int .i64 a1_f6, .int .i64 a1_f7, .lst 3 a1_f8, .lst 3 a1_f9, .int .i64 a1_f10, .int .i64 a1_f11, .int .i64 a1_f12, .lst 52 a1_f13, .lst 58 a1_f14, .lst 50 a1_f15], .lst 3 a2, .lst 3 a3] => some (a0, (Node.mk a1_f0 a1_f1 a1_f2 a1_f3 a1_f4 a1_f5 a1_f6 a1_f7 a1_f8 a1_f9 a1_f10 a1_f11 a1_f12 a1_f13 a1_f14 a1_f15), a2, a3, ())
  | _ => none
theorem p58_some {args : List (Val T)} {x : List Func × Node × List Int × List Int × Unit} (h : p58 args = some x) : args = [.lst 42 x.1, .agg [.int .i64 x.2.1.f0, .lst 3 x.2.1.f1, .str x.2.1.f2, .int .i64 x.2.1.f3, .lst 40 x.2.1.f4, .int .i64 x.2.1.f5, .int .i64 x.2.1.f6, .int .i64 x.2.1.f7, .lst 3 x.2.1.f8, .lst 3 x.2.1.f9, .int .i64 x.2.1.f10, .int .i64 x.2.1.f11, .int .i64 x.2.1.f12, .lst 52 x.2.1.f13, .lst 58 x.2.1.f14, .lst 50 x.2.1.f15], .lst 3 x.2.2.1, .lst 3 x.2.2.2.1] := by
  unfold p58 at h
  split at h
  · cases h; rfl
  · cases h
noncomputable def d58 (E : Env T tb) (args : List (Val T)) : Option (Ret T tb 58) := (p58 args).bind fun x => t58 E x.1 x.2.1 x.2.2.1 x.2.2.2.1
theorem g58 : Good ⟨58, d58⟩ := fun C hC args r h => by
  obtain ⟨x, h1, h2⟩ := Option.bind_eq_some_iff.1 h
  rw [p58_some h1]
  exact (w58 x.1 x.2.1 x.2.2.1 x.2.2.2.1).trans ((eq58 E0 x.1 x.2.1 x.2.2.1 x.2.2.2.1).symm.trans (evFn_le hC _ _ _ _ _ _ ((eq58 ⟨C, lpM 60⟩ x.1 x.2.1 x.2.2.1 x.2.2.2.1).trans h2)))
def p59 : List (Val T) → Option (Int × Unit)
  | [.int .i64 a0] => some (a0, ())
  | _ => none
theorem p59_some {args : List (Val T)} {x : Int × Unit} (h : p59 args = some x) : args = [.int .i64 x.1] := by
  unfold p59 at h
  split at h
  · cases h; rfl
  · cases h
noncomputable def d59 (E : Env T tb) (args : List (Val T)) : Option (Ret T tb 59) := (p59 args).bind fun x => t59 E x.1
theorem g59 : Good ⟨59, d59⟩ := fun C hC args r h => by
  obtain ⟨x, h1, h2⟩ := Option.bind_eq_some_iff.1 h
  rw [p59_some h1]
  exact (w59 x.1).trans ((eq59 E0 x.1).symm.trans (evFn_le hC _ _ _ _ _ _ ((eq59 ⟨C, lpM 60⟩ x.1).trans h2)))
def p60 : List (Val T) → Option (List Int × Expr × Unit)
  | [.lst 3 a0, .agg [.int .i64 a1_f0, .int .i64 a1_f1, .str a1_f2, .lst 40 a1_f3]] => some (a0, (Expr.mk a1_f0 a1_f1 a1_f2 a1_f3), ())
  | _ => none
theorem p60_some {args : List (Val T)} {x : List Int × Expr × Unit} (h : p60 args = some x) : args = [.lst 3 x.1, .agg [.int .i64 x.2.1.f0, .int .i64 x.2.1.f1, .str x.2.1.f2, .lst 40 x.2.1.f3]] := by
  unfold p60 at h
  split at h
  · cases h; rfl
  · cases h
noncomputable def d60 (E : Env T tb) (args : List (Val T)) : Option (Ret T tb 60) := (p60 args).bind fun x => t60 E x.1 x.2.1
theorem g60 : Good ⟨60, d60⟩ := fun C hC args r h => by
  obtain ⟨x, h1, h2⟩ := Option.bind_eq_some_iff.1 h
  rw [p60_some h1]
  exact (w60 x.1 x.2.1).trans ((eq60 E0 x.1 x.2.1).symm.trans (evFn_le hC _ _ _ _ _ _ ((eq60 ⟨C, lpM 60⟩ x.1 x.2.1).trans h2)))
def p61 : List (Val T) → Option (Expr × Unit)
  | [.agg [.int .i64 a0_f0, .int .i64 a0_f1, .str a0_f2, .lst 40 a0_f3]] => some ((Expr.mk a0_f0 a0_f1 a0_f2 a0_f3), ())
  | _ => none
theorem p61_some {args : List (Val T)} {x : Expr × Unit} (h : p61 args = some x) : args = [.agg [.int .i64 x.1.f0, .int .i64 x.1.f1, .str x.1.f2, .lst 40 x.1.f3]] := by
  unfold p61 at h
  split at h
  · cases h; rfl
  · cases h
noncomputable def d61 (E : Env T tb) (args : List (Val T)) : Option (Ret T tb 61) := (p61 args).bind fun x => t61 E x.1
theorem g61 : Good ⟨61, d61⟩ := fun C hC args r h => by
  obtain ⟨x, h1, h2⟩ := Option.bind_eq_some_iff.1 h
  rw [p61_some h1]
  exact (w61 x.1).trans ((eq61 E0 x.1).symm.trans (evFn_le hC _ _ _ _ _ _ ((eq61 ⟨C, lpM 60⟩ x.1).trans h2)))
def p50045 : List (Val T) → Option (Expr × Expr × List Func × List Node × List Func × List Node × List (Ty75 × Bool) × Unit)
  | [.ptr 40 0 0, .agg [.int .i64 a0_f0, .int .i64 a0_f1, .str a0_f2, .lst 40 a0_f3], .agg [.int .i64 a1_f0, .int .i64 a1_f1, .str a1_f2, .lst 40 a1_f3], .agg [.lst 42 a2, .lst 47 a3, .lst 42 a4, .lst 47 a5, .mref 41 0], .mpv 75 4 m6] => some ((Expr.mk a0_f0 a0_f1 a0_f2 a0_f3), (Expr.mk a1_f0 a1_f1 a1_f2 a1_f3), a2, a3, a4, a5, m6, ())
  | _ => none
theorem p50045_some {args : List (Val T)} {x : Expr × Expr × List Func × List Node × List Func × List Node × List (Ty75 × Bool) × Unit} (h : p50045 args = some x) : args = [.ptr 40 0 0, .agg [.int .i64 x.1.f0, .int .i64 x.1.f1, .str x.1.f2, .lst 40 x.1.f3], .agg [.int .i64 x.2.1.f0, .int .i64 x.2.1.f1, .str x.2.1.f2, .lst 40 x.2.1.f3], .agg [.lst 42 x.2.2.1, .lst 47 x.2.2.2.1, .lst 42 x.2.2.2.2.1, .lst 47 x.2.2.2.2.2.1, .mref 41 0], .mpv 75 4 x.2.2.2.2.2.2.1] := by
  unfold p50045 at h
  split at h
  · cases h; rfl
  · cases h
noncomputable def d50045 (E : Env T tb) (args : List (Val T)) : Option (Ret T tb 50045) := (p50045 args).bind fun x => t50045 E x.1 x.2.1 x.2.2.1 x.2.2.2.1 x.2.2.2.2.1 x.2.2.2.2.2.1 x.2.2.2.2.2.2.1
theorem g50045 : Good ⟨50045, d50045⟩ := fun C hC args r h => by
  obtain ⟨x, h1, h2⟩ := Option.bind_eq_some_iff.1 h
  rw [p50045_some h1]
  exact (w50045 x.1 x.2.1 x.2.2.1 x.2.2.2.1 x.2.2.2.2.1 x.2.2.2.2.2.1 x.2.2.2.2.2.2.1).trans ((eq50045 E0 x.1 x.2.1 x.2.2.1 x.2.2.2.1 x.2.2.2.2.1 x.2.2.2.2.2.1 x.2.2.2.2.2.2.1).symm.trans (evFn_le hC _ _ _ _ _ _ ((eq50045 ⟨C, lpM 60⟩ x.1 x.2.1 x.2.2.1 x.2.2.2.1 x.2.2.2.2.1 x.2.2.2.2.2.1 x.2.2.2.2.2.2.1).trans h2)))
def p47 : List (Val T) → Option (Agg × Agg × Unit)
  | [.agg [.int .i64 a0_f0, .int .i64 a0_f1, .str a0_f2], .agg [.int .i64 a1_f0, .int .i64 a1_f1, .str a1_f2]] => some ((Agg.mk a0_f0 a0_f1 a0_f2), (Agg.mk a1_f0 a1_f1 a1_f2), ())
  | _ => none
theorem p47_some {args : List (Val T)} {x : Agg × Agg × Unit} (h : p47 args = some x) : args = [.agg [.int .i64 x.1.f0, .int .i64 x.1.f1, .str x.1.f2], .agg [.int .i64 x.2.1.f0, .int .i64 x.2.1.f1, .str x.2.1.f2]] := by
  unfold p47 at h
  split at h
  · cases h; rfl
  · cases h
noncomputable def d47 (E : Env T tb) (args : List (Val T)) : Option (Ret T tb 47) := (p47 args).bind fun x => t47 E x.1 x.2.1
theorem g47 : Good ⟨47, d47⟩ := fun C hC args r h => by
  obtain ⟨x, h1, h2⟩ := Option.bind_eq_some_iff.1 h
  rw [p47_some h1]
  exact (w47 x.1 x.2.1).trans ((eq47 E0 x.1 x.2.1).symm.trans (evFn_le hC _ _ _ _ _ _ ((eq47 ⟨C, lpM 60⟩ x.1 x.2.1).trans h2)))
def p50049 : List (Val T) → Option (Pat × Pat × List Func × List Node × List Func × List Node × List (Ty75 × Bool) × Unit)
  | [.agg [.int .i64 a0_f0_f0, .int .i64 a0_f0_f1, .str a0_f0_f2, .lst 40 a0_f0_f3, .int .i64 a0_f1], .agg [.int .i64 a1_f0_f0, .int .i64 a1_f0_f1, .str a1_f0_f2, .lst 40 a1_f0_f3, .int .i64 a1_f1], .ptr 19 0 0, .agg [.ptr 20 0 0], .agg [.lst 42 a2, .lst 47 a3, .lst 42 a4, .lst 47 a5, .mref 21 0], .mpv 75 4 m6] => some ((Pat.mk (Expr.mk a0_f0_f0 a0_f0_f1 a0_f0_f2 a0_f0_f3) a0_f1), (Pat.mk (Expr.mk a1_f0_f0 a1_f0_f1 a1_f0_f2 a1_f0_f3) a1_f1), a2, a3, a4, a5, m6, ())
  | _ => none
theorem p50049_some {args : List (Val T)} {x : Pat × Pat × List Func × List Node × List Func × List Node × List (Ty75 × Bool) × Unit} (h : p50049 args = some x) : args = [.agg [.int .i64 x.1.f0.f0, .int .i64 x.1.f0.f1, .str x.1.f0.f2, .lst 40 x.1.f0.f3, .int .i64 x.1.f1], .agg [.int .i64 x.2.1.f0.f0, .int .i64 x.2.1.f0.f1, .str x.2.1.f0.f2, .lst 40 x.2.1.f0.f3, .int .i64 x.2.1.f1], .ptr 19 0 0, .agg [.ptr 20 0 0], .agg [.lst 42 x.2.2.1, .lst 47 x.2.2.2.1, .lst 42 x.2.2.2.2.1, .lst 47 x.2.2.2.2.2.1, .mref 21 0], .mpv 75 4 x.2.2.2.2.2.2.1] := by
  unfold p50049 at h
  split at h
  · cases h; rfl
  · cases h
noncomputable def d50049 (E : Env T tb) (args : List (Val T)) : Option (Ret T tb 50049) := (p50049 args).bind fun x => t50049 E x.1 x.2.1 x.2.2.1 x.2.2.2.1 x.2.2.2.2.1 x.2.2.2.2.2.1 x.2.2.2.2.2.2.1
theorem g50049 : Good ⟨50049, d50049⟩ := fun C hC args r h => by
  obtain ⟨x, h1, h2⟩ := Option.bind_eq_some_iff.1 h
  rw [p50049_some h1]
  exact (w50049 x.1 x.2.1 x.2.2.1 x.2.2.2.1 x.2.2.2.2.1 x.2.2.2.2.2.1 x.2.2.2.2.2.2.1).trans ((eq50049 E0 x.1 x.2.1 x.2.2.1 x.2.2.2.1 x.2.2.2.2.1 x.2.2.2.2.2.1 x.2.2.2.2.2.2.1).symm.trans (evFn_le hC _ _ _ _ _ _ ((eq50049 ⟨C, lpM 60⟩ x.1 x.2.1 x.2.2.1 x.2.2.2.1 x.2.2.2.2.1 x.2.2.2.2.2.1 x.2.2.2.2.2.2.1).trans h2)))
def p51 : List (Val T) → Option (Col × Col × Unit)
  | [.agg [.str a0_f0, .int .i64 a0_f1, .str a0_f2], .agg [.str a1_f0, .int .i64 a1_f1, .str a1_f2]] => some ((Col.mk a0_f0 a0_f1 a0_f2), (Col.mk a1_f0 a1_f1 a1_f2), ())
  | _ => none
theorem p51_some {args : List (Val T)} {x : Col × Col × Unit} (h : p51 args = some x) : args = [.agg [.str x.1.f0, .int .i64 x.1.f1, .str x.1.f2], .agg [.str x.2.1.f0, .int .i64 x.2.1.f1, .str x.2.1.f2]] := by
  unfold p51 at h
  split at h
  · cases h; rfl
  · cases h
noncomputable def d51 (E : Env T tb) (args : List (Val T)) : Option (Ret T tb 51) := (p51 args).bind fun x => t51 E x.1 x.2.1
theorem g51 : Good ⟨51, d51⟩ := fun C hC args r h => by
  obtain ⟨x, h1, h2⟩ := Option.bind_eq_some_iff.1 h
  rw [p51_some h1]
  exact (w51 x.1 x.2.1).trans ((eq51 E0 x.1 x.2.1).symm.trans (evFn_le hC _ _ _ _ _ _ ((eq51 ⟨C, lpM 60⟩ x.1 x.2.1).trans h2)))
def p64 : List (Val T) → Option (Node × Unit)
  | [.agg [.int .i64 a0_f0, .lst 3 a0_f1, .str a0_f2, .int .i64 a0_f3, .lst 40 a0_f4, .int .i64 a0_f5, .int .i64 a0_f6, .int .i64 a0_f7, .lst 3 a0_f8, .lst 3 a0_f9, .int .i64 a0_f10, .int .i64 a0_f11, .int .i64 a0_f12, .lst 52 a0_f13, .lst 58 a0_f14, .lst 50 a0_f15]] => some ((Node.mk a0_f0 a0_f1 a0_f2 a0_f3 a0_f4 a0_f5 a0_f6 a0_f7 a0_f8 a0_f9 a0_f10 a0_f11 a0_f12 a0_f13 a0_f14 a0_f15), ())
  | _ => none
theorem p64_some {args : List (Val T)} {x : Node × Unit} (h : p64 args = some x) : args = [.agg [.int .i64 x.1.f0, .lst 3 x.1.f1, .str x.1.f2, .int .i64 x.1.f3, .lst 40 x.1.f4, .int .i64 x.1.f5, .int .i64 x.1.f6, .int .i64 x.1.f7, .lst 3 x.1.f8, .lst 3 x.1.f9, .int .i64 x.1.f10, .int .i64 x.1.f11, .int .i64 x.1.f12, .lst 52 x.1.f13, .lst 58 x.1.f14, .lst 50 x.1.f15]] := by
  unfold p64 at h
  split at h
  · cases h; rfl
  · cases h
noncomputable def d64 (E : Env T tb) (args : List (Val T)) : Option (Ret T tb 64) := (p64 args).bind fun x => t64 E x.1
theorem g64 : Good ⟨64, d64⟩ := fun C hC args r h => by
  obtain ⟨x, h1, h2⟩ := Option.bind_eq_some_iff.1 h
  rw [p64_some h1]
  exact (w64 x.1).trans ((eq64 E0 x.1).symm.trans (evFn_le hC _ _ _ _ _ _ ((eq64 ⟨C, lpM 60⟩ x.1).trans h2)))
def p66 : List (Val T) → Option (Node × Unit)
  | [.agg [.int .i64 a0_f0, .lst 3 a0_f1, .str a0_f2, .int .i64 a0_f3, .lst 40 a0_f4, .int .i64 a0_f5, .int .i64 a0_f6, .int .i64 a0_f7, .lst 3 a0_f8, .lst 3 a0_f9, .int .i64 a0_f10, .int .i64 a0_f11, .int .i64 a0_f12, .lst 52 a0_f13, .lst 58 a0_f14, .lst 50 a0_f15]] => some ((Node.mk a0_f0 a0_f1 a0_f2 a0_f3 a0_f4 a0_f5 a0_f6 a0_f7 a0_f8 a0_f9 a0_f10 a0_f11 a0_f12 a0_f13 a0_f14 a0_f15), ())
  | _ => none
theorem p66_some {args : List (Val T)} {x : Node × Unit} (h : p66 args = some x) : args = [.agg [.int .i64 x.1.f0, .lst 3 x.1.f1, .str x.1.f2, .int .i64 x.1.f3, .lst 40 x.1.f4, .int .i64 x.1.f5, .int .i64 x.1.f6, .int .i64 x.1.f7, .lst 3 x.1.f8, .lst 3 x.1.f9, .int .i64 x.1.f10, .int .i64 x.1.f11, .int .i64 x.1.f12, .lst 52 x.1.f13, .lst 58 x.1.f14, .lst 50 x.1.f15]] := by
  unfold p66 at h
  split at h
  · cases h; rfl
  · cases h
noncomputable def d66 (E : Env T tb) (args : List (Val T)) : Option (Ret T tb 66) := (p66 args).bind fun x => t66 E x.1
theorem g66 : Good ⟨66, d66⟩ := fun C hC args r h => by
  obtain ⟨x, h1, h2⟩ := Option.bind_eq_some_iff.1 h
  rw [p66_some h1]
  exact (w66 x.1).trans ((eq66 E0 x.1).symm.trans (evFn_le hC _ _ _ _ _ _ ((eq66 ⟨C, lpM 60⟩ x.1).trans h2)))
def p68 : List (Val T) → Option (Node × Unit)
  | [.agg [.int .i64 a0_f0, .lst 3 a0_f1, .str a0_f2, .int .i64 a0_f3, .lst 40 a0_f4, .int .i64 a0_f5, .int .i64 a0_f6, .int .i64 a0_f7, .lst 3 a0_f8, .lst 3 a0_f9, .int .i64 a0_f10, .int .i64 a0_f11, .int .i64 a0_f12, .lst 52 a0_f13, .lst 58 a0_f14, .lst 50 a0_f15]] => some ((Node.mk a0_f0 a0_f1 a0_f2 a0_f3 a0_f4 a0_f5 a0_f6 a0_f7 a0_f8 a0_f9 a0_f10 a0_f11 a0_f12 a0_f13 a0_f14 a0_f15), ())
  | _ => none
theorem p68_some {args : List (Val T)} {x : Node × Unit} (h : p68 args = some x) : args = [.agg [.int .i64 x.1.f0, .lst 3 x.1.f1, .str x.1.f2, .int .i64 x.1.f3, .lst 40 x.1.f4, .int .i64 x.1.f5, .int .i64 x.1.f6, .int .i64 x.1.f7, .lst 3 x.1.f8, .lst 3 x.1.f9, .int .i64 x.1.f10, .int .i64 x.1.f11, .int .i64 x.1.f12, .lst 52 x.1.f13, .lst 58 x.1.f14, .lst 50 x.1.f15]] := by
  unfold p68 at h
  split at h
  · cases h; rfl
  · cases h
noncomputable def d68 (E : Env T tb) (args : List (Val T)) : Option (Ret T tb 68) := (p68 args).bind fun x => t68 E x.1
theorem g68 : Good ⟨68, d68⟩ := fun C hC args r h => by
  obtain ⟨x, h1, h2⟩ := Option.bind_eq_some_iff.1 h
  rw [p68_some h1]
  exact (w68 x.1).trans ((eq68 E0 x.1).symm.trans (evFn_le hC _ _ _ _ _ _ ((eq68 ⟨C, lpM 60⟩ x.1).trans h2)))
def p71 : List (Val T) → Option (Node × Unit)
  | [.agg [.int .i64 a0_f0, .lst 3 a0_f1, .str a0_f2, .int .i64 a0_f3, .lst 40 a0_f4, .int .i64 a0_f5, .int .i64 a0_f6, .int .i64 a0_f7, .lst 3 a0_f8, .lst 3 a0_f9, .int .i64 a0_f10, .int .i64 a0_f11, .int .i64 a0_f12, .lst 52 a0_f13, .lst 58 a0_f14, .lst 50 a0_f15]] => some ((Node.mk a0_f0 a0_f1 a0_f2 a0_f3 a0_f4 a0_f5 a0_f6 a0_f7 a0_f8 a0_f9 a0_f10 a0_f11 a0_f12 a0_f13 a0_f14 a0_f15), ())
  | _ => none
theorem p71_some {args : List (Val T)} {x : Node × Unit} (h : p71 args = some x) : args = [.agg [.int .i64 x.1.f0, .lst 3 x.1.f1, .str x.1.f2, .int .i64 x.1.f3, .lst 40 x.1.f4, .int .i64 x.1.f5, .int .i64 x.1.f6, .int .i64 x.1.f7, .lst 3 x.1.f8, .lst 3 x.1.f9, .int .i64 x.1.f10, .int .i64 x.1.f11, .int .i64 x.1.f12, .lst 52 x.1.f13, .lst 58 x.1.f14, .lst 50 x.1.f15]] := by
  unfold p71 at h
  split at h
  · cases h; rfl
  · cases h
noncomputable def d71 (E : Env T tb) (args : List (Val T)) : Option (Ret T tb 71) := (p71 args).bind fun x => t71 E x.1
theorem g71 : Good ⟨71, d71⟩ := fun C hC args r h => by
  obtain ⟨x, h1, h2⟩ := Option.bind_eq_some_iff.1 h
  rw [p71_some h1]
  exact (w71 x.1).trans ((eq71 E0 x.1).symm.trans (evFn_le hC _ _ _ _ _ _ ((eq71 ⟨C, lpM 60⟩ x.1).trans h2)))
def p73 : List (Val T) → Option (Node × Unit)
  | [.agg [.int .i64 a0_f0, .lst 3 a0_f1, .str a0_f2, .int .i64 a0_f3, .lst 40 a0_f4, .int .i64 a0_f5, .int .i64 a0_f6, .int .i64 a0_f7, .lst 3 a0_f8, .lst 3 a0_f9, .int .i64 a0_f10, .int .i64 a0_f11, .int .i64 a0_f12, .lst 52 a0_f13, .lst 58 a0_f14, .lst 50 a0_f15]] => some ((Node.mk a0_f0 a0_f1 a0_f2 a0_f3 a0_f4 a0_f5 a0_f6 a0_f7 a0_f8 a0_f9 a0_f10 a0_f11 a0_f12 a0_f13 a0_f14 a0_f15), ())
  | _ => none
theorem p73_some {args : List (Val T)} {x : Node × Unit} (h : p73 args = some x) : args = [.agg [.int .i64 x.1.f0, .lst 3 x.1.f1, .str x.1.f2, .int .i64 x.1.f3, .lst 40 x.1.f4, .int .i64 x.1.f5, .int .i64 x.1.f6, .int .i64 x.1.f7, .lst 3 x.1.f8, .lst 3 x.1.f9, .int .i64 x.1.f10, .int .i64 x.1.f11, .int .i64 x.1.f12, .lst 52 x.1.f13, .lst 58 x.1.f14, .lst 50 x.1.f15]] := by
  unfold p73 at h
  split at h
  · cases h; rfl
  · cases h
noncomputable def d73 (E : Env T tb) (args : List (Val T)) : Option (Ret T tb 73) := (p73 args).bind fun x => t73 E x.1
theorem g73 : Good ⟨73, d73⟩ := fun C hC args r h => by
  obtain ⟨x, h1, h2⟩ := Option.bind_eq_some_iff.1 h
  rw [p73_some h1]
  exact (w73 x.1).trans ((eq73 E0 x.1).symm.trans (evFn_le hC _ _ _ _ _ _ ((eq73 ⟨C, lpM 60⟩ x.1).trans h2)))
def p75 : List (Val T) → Option (Node × Unit)
  | [.agg [.int .i64 a0_f0, .lst 3 a0_f1, .str a0_f2, .int .i64 a0_f3, .lst 40 a0_f4, .int .i64 a0_f5, .int .i64 a0_f6, .int .i64 a0_f7, .lst 3 a0_f8, .lst 3 a0_f9, .int .i64 a0_f10, .int .i64 a0_f11, .int .i64 a0_f12, .lst 52 a0_f13, .lst 58 a0_f14, .lst 50 a0_f15]] => some ((Node.mk a0_f0 a0_f1 a0_f2 a0_f3 a0_f4 a0_f5 a0_f6 a0_f7 a0_f8 a0_f9 a0_f10 a0_f11 a0_f12 a0_f13 a0_f14 a0_f15), ())
  | _ => none
theorem p75_some {args : List (Val T)} {x : Node × Unit} (h : p75 args = some x) : args = [.agg [.int .i64 x.1.f0, .lst 3 x.1.f1, .str x.1.f2, .int .i64 x.1.f3, .lst 40 x.1.f4, .int .i64 x.1.f5, .int .i64 x.1.f6, .int .i64 x.1.f7, .lst 3 x.1.f8, .lst 3 x.1.f9, .int .i64 x.1.f10, .int .i64 x.1.f11, .int .i64 x.1.f12, .lst 52 x.1.f13, .lst 58 x.1.f14, .lst 50 x.1.f15]] := by
  unfold p75 at h
  split at h
  · cases h; rfl
  · cases h
noncomputable def d75 (E : Env T tb) (args : List (Val T)) : Option (Ret T tb 75) := (p75 args).bind fun x => t75 E x.1
theorem g75 : Good ⟨75, d75⟩ := fun C hC args r h => by
  obtain ⟨x, h1, h2⟩ := Option.bind_eq_some_iff.1 h
  rw [p75_some h1]
  exact (w75 x.1).trans ((eq75 E0 x.1).symm.trans (evFn_le hC _ _ _ _ _ _ ((eq75 ⟨C, lpM 60⟩ x.1).trans h2)))
def p70 : List (Val T) → Option (Int × Int × Int × Unit)
  | [.int .i64 a0, .int .i64 a1, .int .i64 a2] => some (a0, a1, a2, ())
  | _ => none
theorem p70_some {args : List (Val T)} {x : Int × Int × Int × Unit} (h : p70 args = some x) : args = [.int .i64 x.1, .int .i64 x.2.1, .int .i64 x.2.2.1] := by
  unfold p70 at h
  split at h
  · cases h; rfl
  · cases h
noncomputable def d70 (E : Env T tb) (args : List (Val T)) : Option (Ret T tb 70) := (p70 args).bind fun x => t70 E x.1 x.2.1 x.2.2.1
theorem g70 : Good ⟨70, d70⟩ := fun C hC args r h => by
  obtain ⟨x, h1, h2⟩ := Option.bind_eq_some_iff.1 h
  rw [p70_some h1]
  exact (w70 x.1 x.2.1 x.2.2.1).trans ((eq70 E0 x.1 x.2.1 x.2.2.1).symm.trans (evFn_le hC _ _ _ _ _ _ ((eq70 ⟨C, lpM 60⟩ x.1 x.2.1 x.2.2.1).trans h2)))
def p77 : List (Val T) → Option (Int × Unit)
  | [.int .i64 a0] => some (a0, ())
  | _ => none
theorem p77_some {args : List (Val T)} {x : Int × Unit} (h : p77 args = some x) : args = [.int .i64 x.1] := by
  unfold p77 at h
  split at h
  · cases h; rfl
  · cases h
noncomputable def d77 (E : Env T tb) (args : List (Val T)) : Option (Ret T tb 77) := (p77 args).bind fun x => t77 E x.1
theorem g77 : Good ⟨77, d77⟩ := fun C hC args r h => by
  obtain ⟨x, h1, h2⟩ := Option.bind_eq_some_iff.1 h
  rw [p77_some h1]
  exact (w77 x.1).trans ((eq77 E0 x.1).symm.trans (evFn_le hC _ _ _ _ _ _ ((eq77 ⟨C, lpM 60⟩ x.1).trans h2)))
def p78 : List (Val T) → Option (List Func × List Int × List Int × Expr × Unit)
  | [.lst 42 a0, .lst 3 a1, .lst 3 a2, .agg [.int .i64 a3_f0, .int .i64 a3_f1, .str a3_f2, .lst 40 a3_f3]] => some (a0, a1, a2, (Expr.mk a3_f0 a3_f1 a3_f2 a3_f3), ())
  | _ => none
theorem p78_some {args : List (Val T)} {x : List Func × List Int × List Int × Expr × Unit} (h : p78 args = some x) : args = [.lst 42 x.1, .lst 3 x.2.1, .lst 3 x.2.2.1, .agg [.int .i64 x.2.2.2.1.f0, .int .i64 x.2.2.2.1.f1, .str x.2.2.2.1.f2, .lst 40 x.2.2.2.1.f3]] := by
  unfold p78 at h
  split at h
  · cases h; rfl
  · cases h
noncomputable def d78 (E : Env T tb) (args : List (Val T)) : Option (Ret T tb 78) := (p78 args).bind fun x => t78 E x.1 x.2.1 x.2.2.1 x.2.2.2.1
theorem g78 : Good ⟨78, d78⟩ := fun C hC args r h => by
  obtain ⟨x, h1, h2⟩ := Option.bind_eq_some_iff.1 h
  rw [p78_some h1]
  exact (w78 x.1 x.2.1 x.2.2.1 x.2.2.2.1).trans ((eq78 E0 x.1 x.2.1 x.2.2.1 x.2.2.2.1).symm.trans (evFn_le hC _ _ _ _ _ _ ((eq78 ⟨C, lpM 60⟩ x.1 x.2.1 x.2.2.1 x.2.2.2.1).trans h2)))
def p79 : List (Val T) → Option (ByteArray × Unit)
  | [.str a0] => some (a0, ())
  | _ => none
theorem p79_some {args : List (Val T)} {x : ByteArray × Unit} (h : p79 args = some x) : args = [.str x.1] := by
  unfold p79 at h
  split at h
  · cases h; rfl
  · cases h
noncomputable def d79 (E : Env T tb) (args : List (Val T)) : Option (Ret T tb 79) := (p79 args).bind fun x => t79 E x.1
theorem g79 : Good ⟨79, d79⟩ := fun C hC args r h => by
  obtain ⟨x, h1, h2⟩ := Option.bind_eq_some_iff.1 h
  rw [p79_some h1]
  exact (w79 x.1).trans ((eq79 E0 x.1).symm.trans (evFn_le hC _ _ _ _ _ _ ((eq79 ⟨C, lpM 60⟩ x.1).trans h2)))
def p80 : List (Val T) → Option (List Col × Unit)
  | [.lst 50 a0] => some (a0, ())
  | _ => none
theorem p80_some {args : List (Val T)} {x : List Col × Unit} (h : p80 args = some x) : args = [.lst 50 x.1] := by
  unfold p80 at h
  split at h
  · cases h; rfl
  · cases h
noncomputable def d80 (E : Env T tb) (args : List (Val T)) : Option (Ret T tb 80) := (p80 args).bind fun x => t80 E x.1
theorem g80 : Good ⟨80, d80⟩ := fun C hC args r h => by
  obtain ⟨x, h1, h2⟩ := Option.bind_eq_some_iff.1 h
  rw [p80_some h1]
  exact (w80 x.1).trans ((eq80 E0 x.1).symm.trans (evFn_le hC _ _ _ _ _ _ ((eq80 ⟨C, lpM 60⟩ x.1).trans h2)))
def p81 : List (Val T) → Option (List Func × List Int × Expr × Unit)
  | [.lst 42 a0, .lst 3 a1, .agg [.int .i64 a2_f0, .int .i64 a2_f1, .str a2_f2, .lst 40 a2_f3]] => some (a0, a1, (Expr.mk a2_f0 a2_f1 a2_f2 a2_f3), ())
  | _ => none
theorem p81_some {args : List (Val T)} {x : List Func × List Int × Expr × Unit} (h : p81 args = some x) : args = [.lst 42 x.1, .lst 3 x.2.1, .agg [.int .i64 x.2.2.1.f0, .int .i64 x.2.2.1.f1, .str x.2.2.1.f2, .lst 40 x.2.2.1.f3]] := by
  unfold p81 at h
  split at h
  · cases h; rfl
  · cases h
noncomputable def d81 (E : Env T tb) (args : List (Val T)) : Option (Ret T tb 81) := (p81 args).bind fun x => t81 E x.1 x.2.1 x.2.2.1
theorem g81 : Good ⟨81, d81⟩ := fun C hC args r h => by
  obtain ⟨x, h1, h2⟩ := Option.bind_eq_some_iff.1 h
  rw [p81_some h1]
  exact (w81 x.1 x.2.1 x.2.2.1).trans ((eq81 E0 x.1 x.2.1 x.2.2.1).symm.trans (evFn_le hC _ _ _ _ _ _ ((eq81 ⟨C, lpM 60⟩ x.1 x.2.1 x.2.2.1).trans h2)))
def p82 : List (Val T) → Option (List Func × List Int × List Int × Expr × Unit)
  | [.lst 42 a0, .lst 3 a1, .lst 3 a2, .agg [.int .i64 a3_f0, .int .i64 a3_f1, .str a3_f2, .lst 40 a3_f3]] => some (a0, a1, a2, (Expr.mk a3_f0 a3_f1 a3_f2 a3_f3), ())
  | _ => none
theorem p82_some {args : List (Val T)} {x : List Func × List Int × List Int × Expr × Unit} (h : p82 args = some x) : args = [.lst 42 x.1, .lst 3 x.2.1, .lst 3 x.2.2.1, .agg [.int .i64 x.2.2.2.1.f0, .int .i64 x.2.2.2.1.f1, .str x.2.2.2.1.f2, .lst 40 x.2.2.2.1.f3]] := by
  unfold p82 at h
  split at h
  · cases h; rfl
  · cases h
noncomputable def d82 (E : Env T tb) (args : List (Val T)) : Option (Ret T tb 82) := (p82 args).bind fun x => t82 E x.1 x.2.1 x.2.2.1 x.2.2.2.1
theorem g82 : Good ⟨82, d82⟩ := fun C hC args r h => by
  obtain ⟨x, h1, h2⟩ := Option.bind_eq_some_iff.1 h
  rw [p82_some h1]
  exact (w82 x.1 x.2.1 x.2.2.1 x.2.2.2.1).trans ((eq82 E0 x.1 x.2.1 x.2.2.1 x.2.2.2.1).symm.trans (evFn_le hC _ _ _ _ _ _ ((eq82 ⟨C, lpM 60⟩ x.1 x.2.1 x.2.2.1 x.2.2.2.1).trans h2)))
def p83 : List (Val T) → Option (List Int × List Int × Unit)
  | [.lst 3 a0, .lst 3 a1] => some (a0, a1, ())
  | _ => none
theorem p83_some {args : List (Val T)} {x : List Int × List Int × Unit} (h : p83 args = some x) : args = [.lst 3 x.1, .lst 3 x.2.1] := by
  unfold p83 at h
  split at h
  · cases h; rfl
  · cases h
noncomputable def d83 (E : Env T tb) (args : List (Val T)) : Option (Ret T tb 83) := (p83 args).bind fun x => t83 E x.1 x.2.1
theorem g83 : Good ⟨83, d83⟩ := fun C hC args r h => by
  obtain ⟨x, h1, h2⟩ := Option.bind_eq_some_iff.1 h
  rw [p83_some h1]
  exact (w83 x.1 x.2.1).trans ((eq83 E0 x.1 x.2.1).symm.trans (evFn_le hC _ _ _ _ _ _ ((eq83 ⟨C, lpM 60⟩ x.1 x.2.1).trans h2)))
def p84 : List (Val T) → Option (List Int × List Int × Unit)
  | [.lst 3 a0, .lst 3 a1] => some (a0, a1, ())
  | _ => none
theorem p84_some {args : List (Val T)} {x : List Int × List Int × Unit} (h : p84 args = some x) : args = [.lst 3 x.1, .lst 3 x.2.1] := by
  unfold p84 at h
  split at h
  · cases h; rfl
  · cases h
noncomputable def d84 (E : Env T tb) (args : List (Val T)) : Option (Ret T tb 84) := (p84 args).bind fun x => t84 E x.1 x.2.1
theorem g84 : Good ⟨84, d84⟩ := fun C hC args r h => by
  obtain ⟨x, h1, h2⟩ := Option.bind_eq_some_iff.1 h
  rw [p84_some h1]
  exact (w84 x.1 x.2.1).trans ((eq84 E0 x.1 x.2.1).symm.trans (evFn_le hC _ _ _ _ _ _ ((eq84 ⟨C, lpM 60⟩ x.1 x.2.1).trans h2)))
def p62 : List (Val T) → Option (List Func × Expr × Unit)
  | [.lst 42 a0, .agg [.int .i64 a1_f0, .int .i64 a1_f1, .str a1_f2, .lst 40 a1_f3]] => some (a0, (Expr.mk a1_f0 a1_f1 a1_f2 a1_f3), ())
  | _ => none
theorem p62_some {args : List (Val T)} {x : List Func × Expr × Unit} (h : p62 args = some x) : args = [.lst 42 x.1, .agg [.int .i64 x.2.1.f0, .int .i64 x.2.1.f1, .str x.2.1.f2, .lst 40 x.2.1.f3]] := by
  unfold p62 at h
  split at h
  · cases h; rfl
  · cases h
noncomputable def d62 (E : Env T tb) (args : List (Val T)) : Option (Ret T tb 62) := (p62 args).bind fun x => t62 E x.1 x.2.1
theorem g62 : Good ⟨62, d62⟩ := fun C hC args r h => by
  obtain ⟨x, h1, h2⟩ := Option.bind_eq_some_iff.1 h
  rw [p62_some h1]
  exact (w62 x.1 x.2.1).trans ((eq62 E0 x.1 x.2.1).symm.trans (evFn_le hC _ _ _ _ _ _ ((eq62 ⟨C, lpM 60⟩ x.1 x.2.1).trans h2)))
def p63 : List (Val T) → Option (Expr × Expr × Unit)
  | [.agg [.int .i64 a0_f0, .int .i64 a0_f1, .str a0_f2, .lst 40 a0_f3], .agg [.int .i64 a1_f0, .int .i64 a1_f1, .str a1_f2, .lst 40 a1_f3]] => some ((Expr.mk a0_f0 a0_f1 a0_f2 a0_f3), (Expr.mk a1_f0 a1_f1 a1_f2 a1_f3), ())
  | _ => none
theorem p63_some {args : List (Val T)} {x : Expr × Expr × Unit} (h : p63 args = some x) : args = [.agg [.int .i64 x.1.f0, .int .i64 x.1.f1, .str x.1.f2, .lst 40 x.1.f3], .agg [.int .i64 x.2.1.f0, .int .i64 x.2.1.f1, .str x.2.1.f2, .lst 40 x.2.1.f3]] := by
  unfold p63 at h
  split at h
  · cases h; rfl
  · cases h
noncomputable def d63 (E : Env T tb) (args : List (Val T)) : Option (Ret T tb 63) := (p63 args).bind fun x => t63 E x.1 x.2.1
theorem g63 : Good ⟨63, d63⟩ := fun C hC args r h => by
  obtain ⟨x, h1, h2⟩ := Option.bind_eq_some_iff.1 h
  rw [p63_some h1]
  exact (w63 x.1 x.2.1).trans ((eq63 E0 x.1 x.2.1).symm.trans (evFn_le hC _ _ _ _ _ _ ((eq63 ⟨C, lpM 60⟩ x.1 x.2.1).trans h2)))
def p69 : List (Val T) → Option (Node × Unit)
  | [.agg [.int .i64 a0_f0, .lst 3 a0_f1, .str a0_f2, .int .i64 a0_f3, .lst 40 a0_f4, .int .i64 a0_f5, .int .i64 a0_f6, .int .i64 a0_f7, .lst 3 a0_f8, .lst 3 a0_f9, .int .i64 a0_f10, .int .i64 a0_f11, .int .i64 a0_f12, .lst 52 a0_f13, .lst 58 a0_f14, .lst 50 a0_f15]] => some ((Node.mk a0_f0 a0_f1 a0_f2 a0_f3 a0_f4 a0_f5 a0_f6 a0_f7 a0_f8 a0_f9 a0_f10 a0_f11 a0_f12 a0_f13 a0_f14 a0_f15), ())
  | _ => none
theorem p69_some {args : List (Val T)} {x : Node × Unit} (h : p69 args = some x) : args = [.agg [.int .i64 x.1.f0, .lst 3 x.1.f1, .str x.1.f2, .int .i64 x.1.f3, .lst 40 x.1.f4, .int .i64 x.1.f5, .int .i64 x.1.f6, .int .i64 x.1.f7, .lst 3 x.1.f8, .lst 3 x.1.f9, .int .i64 x.1.f10, .int .i64 x.1.f11, .int .i64 x.1.f12, .lst 52 x.1.f13, .lst 58 x.1.f14, .lst 50 x.1.f15]] := by
  unfold p69 at h
  split at h
  · cases h; rfl
  · cases h
noncomputable def d69 (E : Env T tb) (args : List (Val T)) : Option (Ret T tb 69) := (p69 args).bind fun x => t69 E x.1
theorem g69 : Good ⟨69, d69⟩ := fun C hC args r h => by
  obtain ⟨x, h1, h2⟩ := Option.bind_eq_some_iff.1 h
  rw [p69_some h1]
  exact (w69 x.1).trans ((eq69 E0 x.1).symm.trans (evFn_le hC _ _ _ _ _ _ ((eq69 ⟨C, lpM 60⟩ x.1).trans h2)))
def p87 : List (Val T) → Option (List Func × List Int × List Int × Expr × Unit)
  | [.lst 42 a0, .lst 3 a1, .lst 3 a2, .agg [.int .i64 a3_f0, .int .i64 a3_f1, .str a3_f2, .lst 40 a3_f3]] => some (a0, a1, a2, (Expr.mk a3_f0 a3_f1 a3_f2 a3_f3), ())
  | _ => none
theorem p87_some {args : List (Val T)} {x : List Func × List Int × List Int × Expr × Unit} (h : p87 args = some x) : args = [.lst 42 x.1, .lst 3 x.2.1, .lst 3 x.2.2.1, .agg [.int .i64 x.2.2.2.1.f0, .int .i64 x.2.2.2.1.f1, .str x.2.2.2.1.f2, .lst 40 x.2.2.2.1.f3]] := by
  unfold p87 at h
  split at h
  · cases h; rfl
  · cases h
noncomputable def d87 (E : Env T tb) (args : List (Val T)) : Option (Ret T tb 87) := (p87 args).bind fun x => t87 E x.1 x.2.1 x.2.2.1 x.2.2.2.1
theorem g87 : Good ⟨87, d87⟩ := fun C hC args r h => by
  obtain ⟨x, h1, h2⟩ := Option.bind_eq_some_iff.1 h
  rw [p87_some h1]
  exact (w87 x.1 x.2.1 x.2.2.1 x.2.2.2.1).trans ((eq87 E0 x.1 x.2.1 x.2.2.1 x.2.2.2.1).symm.trans (evFn_le hC _ _ _ _ _ _ ((eq87 ⟨C, lpM 60⟩ x.1 x.2.1 x.2.2.1 x.2.2.2.1).trans h2)))
def p88 : List (Val T) → Option (ByteArray × Unit)
  | [.str a0] => some (a0, ())
  | _ => none
theorem p88_some {args : List (Val T)} {x : ByteArray × Unit} (h : p88 args = some x) : args = [.str x.1] := by
  unfold p88 at h
  split at h
  · cases h; rfl
  · cases h
noncomputable def d88 (E : Env T tb) (args : List (Val T)) : Option (Ret T tb 88) := (p88 args).bind fun x => t88 E x.1
theorem g88 : Good ⟨88, d88⟩ := fun C hC args r h => by
  obtain ⟨x, h1, h2⟩ := Option.bind_eq_some_iff.1 h
  rw [p88_some h1]
  exact (w88 x.1).trans ((eq88 E0 x.1).symm.trans (evFn_le hC _ _ _ _ _ _ ((eq88 ⟨C, lpM 60⟩ x.1).trans h2)))
def p89 : List (Val T) → Option (List Col × ByteArray × Unit)
  | [.lst 50 a0, .str a1] => some (a0, a1, ())
  | _ => none
theorem p89_some {args : List (Val T)} {x : List Col × ByteArray × Unit} (h : p89 args = some x) : args = [.lst 50 x.1, .str x.2.1] := by
  unfold p89 at h
  split at h
  · cases h; rfl
  · cases h
noncomputable def d89 (E : Env T tb) (args : List (Val T)) : Option (Ret T tb 89) := (p89 args).bind fun x => t89 E x.1 x.2.1
theorem g89 : Good ⟨89, d89⟩ := fun C hC args r h => by
  obtain ⟨x, h1, h2⟩ := Option.bind_eq_some_iff.1 h
  rw [p89_some h1]
  exact (w89 x.1 x.2.1).trans ((eq89 E0 x.1 x.2.1).symm.trans (evFn_le hC _ _ _ _ _ _ ((eq89 ⟨C, lpM 60⟩ x.1 x.2.1).trans h2)))
def p90 : List (Val T) → Option (Int × Unit)
  | [.int .i64 a0] => some (a0, ())
  | _ => none
theorem p90_some {args : List (Val T)} {x : Int × Unit} (h : p90 args = some x) : args = [.int .i64 x.1] := by
  unfold p90 at h
  split at h
  · cases h; rfl
  · cases h
noncomputable def d90 (E : Env T tb) (args : List (Val T)) : Option (Ret T tb 90) := (p90 args).bind fun x => t90 E x.1
theorem g90 : Good ⟨90, d90⟩ := fun C hC args r h => by
  obtain ⟨x, h1, h2⟩ := Option.bind_eq_some_iff.1 h
  rw [p90_some h1]
  exact (w90 x.1).trans ((eq90 E0 x.1).symm.trans (evFn_le hC _ _ _ _ _ _ ((eq90 ⟨C, lpM 60⟩ x.1).trans h2)))
def p85 : List (Val T) → Option (Expr × List Body × Unit)
  | [.agg [.int .i64 a0_f0, .int .i64 a0_f1, .str a0_f2, .lst 40 a0_f3], .lst 120 a1] => some ((Expr.mk a0_f0 a0_f1 a0_f2 a0_f3), a1, ())
  | _ => none
theorem p85_some {args : List (Val T)} {x : Expr × List Body × Unit} (h : p85 args = some x) : args = [.agg [.int .i64 x.1.f0, .int .i64 x.1.f1, .str x.1.f2, .lst 40 x.1.f3], .lst 120 x.2.1] := by
  unfold p85 at h
  split at h
  · cases h; rfl
  · cases h
noncomputable def d85 (E : Env T tb) (args : List (Val T)) : Option (Ret T tb 85) := (p85 args).bind fun x => t85 E x.1 x.2.1
theorem g85 : Good ⟨85, d85⟩ := fun C hC args r h => by
  obtain ⟨x, h1, h2⟩ := Option.bind_eq_some_iff.1 h
  rw [p85_some h1]
  exact (w85 x.1 x.2.1).trans ((eq85 E0 x.1 x.2.1).symm.trans (evFn_le hC _ _ _ _ _ _ ((eq85 ⟨C, lpM 60⟩ x.1 x.2.1).trans h2)))
def p86 : List (Val T) → Option (Expr × Unit)
  | [.agg [.int .i64 a0_f0, .int .i64 a0_f1, .str a0_f2, .lst 40 a0_f3]] => some ((Expr.mk a0_f0 a0_f1 a0_f2 a0_f3), ())
  | _ => none
theorem p86_some {args : List (Val T)} {x : Expr × Unit} (h : p86 args = some x) : args = [.agg [.int .i64 x.1.f0, .int .i64 x.1.f1, .str x.1.f2, .lst 40 x.1.f3]] := by
  unfold p86 at h
  split at h
  · cases h; rfl
  · cases h
noncomputable def d86 (E : Env T tb) (args : List (Val T)) : Option (Ret T tb 86) := (p86 args).bind fun x => t86 E x.1
theorem g86 : Good ⟨86, d86⟩ := fun C hC args r h => by
  obtain ⟨x, h1, h2⟩ := Option.bind_eq_some_iff.1 h
  rw [p86_some h1]
  exact (w86 x.1).trans ((eq86 E0 x.1).symm.trans (evFn_le hC _ _ _ _ _ _ ((eq86 ⟨C, lpM 60⟩ x.1).trans h2)))
def p6400044 : List (Val T) → Option (List Expr × List Expr × Unit)
  | [.lst 40 a0, .lst 40 a1, .clo 63 [] []] => some (a0, a1, ())
  | _ => none
theorem p6400044_some {args : List (Val T)} {x : List Expr × List Expr × Unit} (h : p6400044 args = some x) : args = [.lst 40 x.1, .lst 40 x.2.1, .clo 63 [] []] := by
  unfold p6400044 at h
  split at h
  · cases h; rfl
  · cases h
noncomputable def d6400044 (E : Env T tb) (args : List (Val T)) : Option (Ret T tb 6400044) := (p6400044 args).bind fun x => t6400044 E x.1 x.2.1
theorem g6400044 : Good ⟨6400044, d6400044⟩ := fun C hC args r h => by
  obtain ⟨x, h1, h2⟩ := Option.bind_eq_some_iff.1 h
  rw [p6400044_some h1]
  exact (w6400044 x.1 x.2.1).trans ((eq6400044 E0 x.1 x.2.1).symm.trans (evFn_le hC _ _ _ _ _ _ ((eq6400044 ⟨C, lpM 60⟩ x.1 x.2.1).trans h2)))
def p94 : List (Val T) → Option (List Func × Int × List Int × Unit)
  | [.lst 42 a0, .int .i64 a1, .lst 3 a2] => some (a0, a1, a2, ())
  | _ => none
theorem p94_some {args : List (Val T)} {x : List Func × Int × List Int × Unit} (h : p94 args = some x) : args = [.lst 42 x.1, .int .i64 x.2.1, .lst 3 x.2.2.1] := by
  unfold p94 at h
  split at h
  · cases h; rfl
  · cases h
noncomputable def d94 (E : Env T tb) (args : List (Val T)) : Option (Ret T tb 94) := (p94 args).bind fun x => t94 E x.1 x.2.1 x.2.2.1
theorem g94 : Good ⟨94, d94⟩ := fun C hC args r h => by
  obtain ⟨x, h1, h2⟩ := Option.bind_eq_some_iff.1 h
  rw [p94_some h1]
  exact (w94 x.1 x.2.1 x.2.2.1).trans ((eq94 E0 x.1 x.2.1 x.2.2.1).symm.trans (evFn_le hC _ _ _ _ _ _ ((eq94 ⟨C, lpM 60⟩ x.1 x.2.1 x.2.2.1).trans h2)))
def p95 : List (Val T) → Option (Int × Unit)
  | [.int .i64 a0] => some (a0, ())
  | _ => none
theorem p95_some {args : List (Val T)} {x : Int × Unit} (h : p95 args = some x) : args = [.int .i64 x.1] := by
  unfold p95 at h
  split at h
  · cases h; rfl
  · cases h
noncomputable def d95 (E : Env T tb) (args : List (Val T)) : Option (Ret T tb 95) := (p95 args).bind fun x => t95 E x.1
theorem g95 : Good ⟨95, d95⟩ := fun C hC args r h => by
  obtain ⟨x, h1, h2⟩ := Option.bind_eq_some_iff.1 h
  rw [p95_some h1]
  exact (w95 x.1).trans ((eq95 E0 x.1).symm.trans (evFn_le hC _ _ _ _ _ _ ((eq95 ⟨C, lpM 60⟩ x.1).trans h2)))
def p96 : List (Val T) → Option (List Int × Int × Unit)
  | [.lst 3 a0, .int .i64 a1] => some (a0, a1, ())
  | _ => none
theorem p96_some {args : List (Val T)} {x : List Int × Int × Unit} (h : p96 args = some x) : args = [.lst 3 x.1, .int .i64 x.2.1] := by
  unfold p96 at h
  split at h
  · cases h; rfl
  · cases h
noncomputable def d96 (E : Env T tb) (args : List (Val T)) : Option (Ret T tb 96) := (p96 args).bind fun x => t96 E x.1 x.2.1
theorem g96 : Good ⟨96, d96⟩ := fun C hC args r h => by
  obtain ⟨x, h1, h2⟩ := Option.bind_eq_some_iff.1 h
  rw [p96_some h1]
  exact (w96 x.1 x.2.1).trans ((eq96 E0 x.1 x.2.1).symm.trans (evFn_le hC _ _ _ _ _ _ ((eq96 ⟨C, lpM 60⟩ x.1 x.2.1).trans h2)))
def p97 : List (Val T) → Option (ByteArray × Unit)
  | [.str a0] => some (a0, ())
  | _ => none
theorem p97_some {args : List (Val T)} {x : ByteArray × Unit} (h : p97 args = some x) : args = [.str x.1] := by
  unfold p97 at h
  split at h
  · cases h; rfl
  · cases h
noncomputable def d97 (E : Env T tb) (args : List (Val T)) : Option (Ret T tb 97) := (p97 args).bind fun x => t97 E x.1
theorem g97 : Good ⟨97, d97⟩ := fun C hC args r h => by
  obtain ⟨x, h1, h2⟩ := Option.bind_eq_some_iff.1 h
  rw [p97_some h1]
  exact (w97 x.1).trans ((eq97 E0 x.1).symm.trans (evFn_le hC _ _ _ _ _ _ ((eq97 ⟨C, lpM 60⟩ x.1).trans h2)))
def p91 : List (Val T) → Option (Expr × Int × List Expr × Unit)
  | [.agg [.int .i64 a0_f0, .int .i64 a0_f1, .str a0_f2, .lst 40 a0_f3], .int .i64 a1, .lst 40 a2] => some ((Expr.mk a0_f0 a0_f1 a0_f2 a0_f3), a1, a2, ())
  | _ => none
theorem p91_some {args : List (Val T)} {x : Expr × Int × List Expr × Unit} (h : p91 args = some x) : args = [.agg [.int .i64 x.1.f0, .int .i64 x.1.f1, .str x.1.f2, .lst 40 x.1.f3], .int .i64 x.2.1, .lst 40 x.2.2.1] := by
  unfold p91 at h
  split at h
  · cases h; rfl
  · cases h
noncomputable def d91 (E : Env T tb) (args : List (Val T)) : Option (Ret T tb 91) := (p91 args).bind fun x => t91 E x.1 x.2.1 x.2.2.1
theorem g91 : Good ⟨91, d91⟩ := fun C hC args r h => by
  obtain ⟨x, h1, h2⟩ := Option.bind_eq_some_iff.1 h
  rw [p91_some h1]
  exact (w91 x.1 x.2.1 x.2.2.1).trans ((eq91 E0 x.1 x.2.1 x.2.2.1).symm.trans (evFn_le hC _ _ _ _ _ _ ((eq91 ⟨C, lpM 60⟩ x.1 x.2.1 x.2.2.1).trans h2)))
def p9450092 : List (Val T) → Option (Expr × Int × Unit)
  | [.agg [.int .i64 a0_f0, .int .i64 a0_f1, .str a0_f2, .lst 40 a0_f3], .clo 93 [] [.ptr 20 0 0], .tup [.int .i64 x1]] => some ((Expr.mk a0_f0 a0_f1 a0_f2 a0_f3), x1, ())
  | _ => none
theorem p9450092_some {args : List (Val T)} {x : Expr × Int × Unit} (h : p9450092 args = some x) : args = [.agg [.int .i64 x.1.f0, .int .i64 x.1.f1, .str x.1.f2, .lst 40 x.1.f3], .clo 93 [] [.ptr 20 0 0], .tup [.int .i64 x.2.1]] := by
  unfold p9450092 at h
  split at h
  · cases h; rfl
  · cases h
noncomputable def d9450092 (E : Env T tb) (args : List (Val T)) : Option (Ret T tb 9450092) := (p9450092 args).bind fun x => t9450092 E x.1 x.2.1
theorem g9450092 : Good ⟨9450092, d9450092⟩ := fun C hC args r h => by
  obtain ⟨x, h1, h2⟩ := Option.bind_eq_some_iff.1 h
  rw [p9450092_some h1]
  exact (w9450092 x.1 x.2.1).trans ((eq9450092 E0 x.1 x.2.1).symm.trans (evFn_le hC _ _ _ _ _ _ ((eq9450092 ⟨C, lpM 60⟩ x.1 x.2.1).trans h2)))
def p98 : List (Val T) → Option (Expr × Unit)
  | [.agg [.int .i64 a0_f0, .int .i64 a0_f1, .str a0_f2, .lst 40 a0_f3]] => some ((Expr.mk a0_f0 a0_f1 a0_f2 a0_f3), ())
  | _ => none
theorem p98_some {args : List (Val T)} {x : Expr × Unit} (h : p98 args = some x) : args = [.agg [.int .i64 x.1.f0, .int .i64 x.1.f1, .str x.1.f2, .lst 40 x.1.f3]] := by
  unfold p98 at h
  split at h
  · cases h; rfl
  · cases h
noncomputable def d98 (E : Env T tb) (args : List (Val T)) : Option (Ret T tb 98) := (p98 args).bind fun x => t98 E x.1
theorem g98 : Good ⟨98, d98⟩ := fun C hC args r h => by
  obtain ⟨x, h1, h2⟩ := Option.bind_eq_some_iff.1 h
  rw [p98_some h1]
  exact (w98 x.1).trans ((eq98 E0 x.1).symm.trans (evFn_le hC _ _ _ _ _ _ ((eq98 ⟨C, lpM 60⟩ x.1).trans h2)))
def p50093 : List (Val T) → Option (Expr × Int × Unit)
  | [.agg [.int .i64 a0_f0, .int .i64 a0_f1, .str a0_f2, .lst 40 a0_f3], .ptr 5 0 0, .tup [.int .i64 x1]] => some ((Expr.mk a0_f0 a0_f1 a0_f2 a0_f3), x1, ())
  | _ => none
theorem p50093_some {args : List (Val T)} {x : Expr × Int × Unit} (h : p50093 args = some x) : args = [.agg [.int .i64 x.1.f0, .int .i64 x.1.f1, .str x.1.f2, .lst 40 x.1.f3], .ptr 5 0 0, .tup [.int .i64 x.2.1]] := by
  unfold p50093 at h
  split at h
  · cases h; rfl
  · cases h
noncomputable def d50093 (E : Env T tb) (args : List (Val T)) : Option (Ret T tb 50093) := (p50093 args).bind fun x => t50093 E x.1 x.2.1
theorem g50093 : Good ⟨50093, d50093⟩ := fun C hC args r h => by
  obtain ⟨x, h1, h2⟩ := Option.bind_eq_some_iff.1 h
  rw [p50093_some h1]
  exact (w50093 x.1 x.2.1).trans ((eq50093 E0 x.1 x.2.1).symm.trans (evFn_le hC _ _ _ _ _ _ ((eq50093 ⟨C, lpM 60⟩ x.1 x.2.1).trans h2)))
noncomputable def ds : List ((g : Nat) × (Env T tb → List (Val T) → Option (Ret T tb g))) := [⟨54, fun _ args => of54 args⟩, ⟨3, d3⟩, ⟨4, d4⟩, ⟨5, d5⟩, ⟨6, d6⟩, ⟨7, d7⟩, ⟨8, d8⟩, ⟨9, d9⟩, ⟨10, d10⟩, ⟨11, d11⟩, ⟨12, d12⟩, ⟨13, d13⟩, ⟨14, d14⟩, ⟨15, d15⟩, ⟨16, d16⟩, ⟨17, d17⟩, ⟨2050018, d2050018⟩, ⟨2150018, d2150018⟩, ⟨2350021, d2350021⟩, ⟨23, d23⟩, ⟨50019, d50019⟩, ⟨50020, d50020⟩, ⟨24, d24⟩, ⟨25, d25⟩, ⟨26, d26⟩, ⟨27, d27⟩, ⟨28, d28⟩, ⟨29, d29⟩, ⟨2350034, d2350034⟩, ⟨50030, d50030⟩, ⟨50031, d50031⟩, ⟨32, d32⟩, ⟨33, d33⟩, ⟨35, d35⟩, ⟨37, d37⟩, ⟨36, d36⟩, ⟨38, d38⟩, ⟨39, d39⟩, ⟨40, d40⟩, ⟨41, d41⟩, ⟨42, d42⟩, ⟨50022, d50022⟩, ⟨4650044, d4650044⟩, ⟨4800046, d4800046⟩, ⟨5050048, d5050048⟩, ⟨5200050, d5200050⟩, ⟨43, d43⟩, ⟨2050052, d2050052⟩, ⟨53, d53⟩, ⟨65, d65⟩, ⟨67, d67⟩, ⟨72, d72⟩, ⟨74, d74⟩, ⟨76, d76⟩, ⟨55, d55⟩, ⟨56, d56⟩, ⟨57, d57⟩, ⟨58, d58⟩, ⟨59, d59⟩, ⟨60, d60⟩, ⟨61, d61⟩, ⟨50045, d50045⟩, ⟨47, d47⟩, ⟨50049, d50049⟩, ⟨51, d51⟩, ⟨64, d64⟩, ⟨66, d66⟩, ⟨68, d68⟩, ⟨71, d71⟩, ⟨73, d73⟩, ⟨75, d75⟩, ⟨70, d70⟩, ⟨77, d77⟩, ⟨78, d78⟩, ⟨79, d79⟩, ⟨80, d80⟩, ⟨81, d81⟩, ⟨82, d82⟩, ⟨83, d83⟩, ⟨84, d84⟩, ⟨62, d62⟩, ⟨63, d63⟩, ⟨69, d69⟩, ⟨87, d87⟩, ⟨88, d88⟩, ⟨89, d89⟩, ⟨90, d90⟩, ⟨85, d85⟩, ⟨86, d86⟩, ⟨6400044, d6400044⟩, ⟨94, d94⟩, ⟨95, d95⟩, ⟨96, d96⟩, ⟨97, d97⟩, ⟨91, d91⟩, ⟨9450092, d9450092⟩, ⟨98, d98⟩, ⟨50093, d50093⟩]
theorem ds_ok : ∀ p, p ∈ ds → Good p := allG_ok (.cons g54 (.cons g3 (.cons g4 (.cons g5 (.cons g6 (.cons g7 (.cons g8 (.cons g9 (.cons g10 (.cons g11 (.cons g12 (.cons g13 (.cons g14 (.cons g15 (.cons g16 (.cons g17 (.cons g2050018 (.cons g2150018 (.cons g2350021 (.cons g23 (.cons g50019 (.cons g50020 (.cons g24 (.cons g25 (.cons g26 (.cons g27 (.cons g28 (.cons g29 (.cons g2350034 (.cons g50030 (.cons g50031 (.cons g32 (.cons g33 (.cons g35 (.cons g37 (.cons g36 (.cons g38 (.cons g39 (.cons g40 (.cons g41 (.cons g42 (.cons g50022 (.cons g4650044 (.cons g4800046 (.cons g5050048 (.cons g5200050 (.cons g43 (.cons g2050052 (.cons g53 (.cons g65 (.cons g67 (.cons g72 (.cons g74 (.cons g76 (.cons g55 (.cons g56 (.cons g57 (.cons g58 (.cons g59 (.cons g60 (.cons g61 (.cons g50045 (.cons g47 (.cons g50049 (.cons g51 (.cons g64 (.cons g66 (.cons g68 (.cons g71 (.cons g73 (.cons g75 (.cons g70 (.cons g77 (.cons g78 (.cons g79 (.cons g80 (.cons g81 (.cons g82 (.cons g83 (.cons g84 (.cons g62 (.cons g63 (.cons g69 (.cons g87 (.cons g88 (.cons g89 (.cons g90 (.cons g85 (.cons g86 (.cons g6400044 (.cons g94 (.cons g95 (.cons g96 (.cons g97 (.cons g91 (.cons g9450092 (.cons g98 (.cons g50093 .nil))))))))))))))))))))))))))))))))))))))))))))))))))))))))))))))))))))))))))))))))))))))))))))))))))
end Go.Fw.S1
