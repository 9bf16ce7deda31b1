import Derived.Test.YtmogfjfdbbggcaaSb0
import Derived.Test.YtmogfjfdbbggcaaSb1
import Derived.Test.YtmogfjfdbbggcaaSb2
import Derived.Test.YtmogfjfdbbggcaaSb3
import Derived.Test.YtmogfjfdbbggcaaSb4
set_option linter.unusedVariables false
set_option maxHeartbeats 1000000
set_option maxRecDepth 100000
namespace Go.Fw.S1
open Go.Proofs
def fis : List (Nat × Fi) := [(3, fi3), (4, fi4), (5, fi5), (6, fi6), (7, fi7), (8, fi8), (9, fi9), (10, fi10), (11, fi11), (12, fi12), (13, fi13), (14, fi14), (15, fi15), (16, fi16), (17, fi17), (2050018, fi2050018), (2150018, fi2150018), (2350021, fi2350021), (23, fi23), (50019, fi50019), (50020, fi50020), (24, fi24), (25, fi25), (26, fi26), (27, fi27), (28, fi28), (29, fi29), (2350034, fi2350034), (50030, fi50030), (50031, fi50031), (32, fi32), (33, fi33), (35, fi35), (37, fi37), (36, fi36), (38, fi38), (39, fi39), (40, fi40), (41, fi41), (42, fi42), (50022, fi50022), (4650044, fi4650044), (4800046, fi4800046), (5050048, fi5050048), (5200050, fi5200050), (43, fi43), (2050052, fi2050052), (53, fi53), (54, fi54), (65, fi65), (67, fi67), (72, fi72), (74, fi74), (76, fi76), (55, fi55), (56, fi56), (57, fi57), (58, fi58), (59, fi59), (60, fi60), (61, fi61), (50045, fi50045), (47, fi47), (50049, fi50049), (51, fi51), (64, fi64), (66, fi66), (68, fi68), (71, fi71), (73, fi73), (75, fi75), (70, fi70), (77, fi77), (78, fi78), (79, fi79), (80, fi80), (81, fi81), (82, fi82), (83, fi83), (84, fi84), (62, fi62), (63, fi63), (69, fi69), (87, fi87), (88, fi88), (89, fi89), (90, fi90), (85, fi85), (86, fi86), (6400044, fi6400044), (94, fi94), (95, fi95), (96, fi96), (97, fi97), (91, fi91), (9450092, fi9450092), (98, fi98), (50093, fi50093)]
def fi (n : Nat) : Fi := findN ⟨0, [], []⟩ fis n
def hand (n : Nat) : Bool := Nat.beq n 54
theorem fis_ok : fisB rows fis = true := by kernel_rfl
theorem rks_ok : rksB rows rks = true := by kernel_rfl
theorem fi_ok (f : Nat) : FiOk tb (fi f) := findN_all (Q := fun x => FiOk tb x) (fun p tp h => by cases h) (fun p hp => fisB_ok fis_ok p hp) f
theorem rk_ok (f : Nat) : RkOk tb (tb.rk f) := findN_all (Q := fun x => RkOk tb x) (fun e he => by cases he) (fun p hp => rksB_ok rks_ok p hp) f
theorem mixed : Try.prog.follows .mixedOrders = true := by rfl
/-- all but 'of' -/
noncomputable def YA : Sys T tb := ⟨fi, hand, fun _ _ => none⟩
theorem sysA : SysOk Try.prog tb YA := ⟨mixed, tb_ok, fi_ok, rk_ok, fun f args r _ h => by cases h⟩
noncomputable def EA : Env T tb := YA.E Try.prog
theorem w70A (a0 a1 a2 : Int) : EA.C 70 [.int .i64 a0, .int .i64 a1, .int .i64 a2] = t70 EA a0 a1 a2 :=
  (callW_eq YA (by rfl) Try.func70 _).trans (eq70 EA a0 a1 a2)
/-- what an operation needs -/
def ofK (n : Int) : Option ((Kind × Bool) × Unit) :=
  if n = 0 then some ((.k0, true), ()) else if n = 1 then some ((.k1, true), ()) else if n = 2 then some ((.k1, true), ()) else
  if n = 3 then some ((.k2, true), ()) else if n = 4 then some ((.k3, true), ()) else if n = 5 then some ((.k4, true), ()) else
  if n = 6 then some ((.k5, true), ()) else if n = 7 then some ((.k6, true), ()) else if n = 8 then some ((.k7, true), ()) else none
def get54 : List (Val T) → Option Int
  | [.int .i64 n] => some n
  | _ => none
theorem get54_some {args : List (Val T)} {n : Int} (h : get54 args = some n) : args = [.int .i64 n] := by
  unfold get54 at h
  split at h
  · cases h; rfl
  · cases h
noncomputable def of54 (args : List (Val T)) : Option (Ret T tb 54) := (get54 args).bind ofK
theorem of54_sound (n : Int) (r : Ret T tb 54) (h : ofK n = some r) : Contract Try.prog tb 54 [.int .i64 n] r := by
  have key : evFn EA (fi 54) (tb.rk 54) (tb.xk 54) (tb.nt 54) Try.f54 [.int .i64 n] = some r := by
    unfold ofK at h
    split at h
    · rename_i hn; subst hn; refine (eq54_0 EA).trans ?_; unfold t54_0; rw [w70A]; exact h
    split at h
    · rename_i hn; subst hn; refine (eq54_1 EA).trans ?_; unfold t54_1; rw [w70A]; exact h
    split at h
    · rename_i hn; subst hn; refine (eq54_2 EA).trans ?_; unfold t54_2; rw [w70A]; exact h
    split at h
    · rename_i hn; subst hn; refine (eq54_3 EA).trans ?_; unfold t54_3; rw [w70A]; exact h
    split at h
    · rename_i hn; subst hn; refine (eq54_4 EA).trans ?_; unfold t54_4; rw [w70A]; exact h
    split at h
    · rename_i hn; subst hn; refine (eq54_5 EA).trans ?_; unfold t54_5; rw [w70A]; exact h
    split at h
    · rename_i hn; subst hn; refine (eq54_6 EA).trans ?_; unfold t54_6; rw [w70A]; exact h
    split at h
    · rename_i hn; subst hn; refine (eq54_7 EA).trans ?_; unfold t54_7; rw [w70A]; exact h
    split at h
    · rename_i hn; subst hn; refine (eq54_8 EA).trans ?_; unfold t54_8; rw [w70A]; exact h
    · cases h
  exact evFn_sound (f := 54) mixed tb_ok (E := EA) (callW_sound sysA) loopW_ok (fi_ok 54) Try.func54 (rk_ok 54) key
noncomputable def by54 (f : Nat) (args : List (Val T)) : Option (Ret T tb f) := if h : f = 54 then h ▸ of54 args else none
noncomputable def Y0 : Sys T tb := ⟨fi, hand, by54⟩
theorem sys0 : SysOk Try.prog tb Y0 := ⟨mixed, tb_ok, fi_ok, rk_ok, fun f args r hf h => by
  have hf := Nat.eq_of_beq_eq_true hf
  subst hf
  have h : of54 args = some r := h
  obtain ⟨n, h1, h2⟩ := Option.bind_eq_some_iff.1 h
  rw [get54_some h1]
  exact of54_sound n r h2⟩
noncomputable def E0 : Env T tb := Y0.E Try.prog
noncomputable def W (f : Nat) (args : List (Val T)) : Option (Ret T tb f) := callW Try.prog Y0 f args
theorem W_sound : SoundC Try.prog tb W := callW_sound sys0
theorem E0_C : E0.C = W := rfl
theorem E0_lp : E0.lp = loopW := rfl
theorem w54 (n : Int) : W 54 [.int .i64 n] = ofK n := (callW_hand Y0 (by rfl) _).trans (by kernel_rfl)

theorem w3 (a0 : Program) (a1 : Int) : W 3 [.agg [.lst 42 a0.f0, .lst 47 a0.f1], .int .i64 a1] = t3 E0 a0 a1 :=
  (callW_eq Y0 (by rfl) Try.func3 _).trans (eq3 E0 a0 a1)
theorem w4 (a0 : Program) (a1 : Program) : W 4 [.agg [.lst 42 a0.f0, .lst 47 a0.f1], .agg [.lst 42 a1.f0, .lst 47 a1.f1]] = t4 E0 a0 a1 :=
  (callW_eq Y0 (by rfl) Try.func4 _).trans (eq4 E0 a0 a1)
theorem w5  : W 5 [] = t5 E0  :=
  (callW_eq Y0 (by rfl) Try.func5 _).trans (eq5 E0 )
theorem w6 (a0 : Program) (a1 : Int) : W 6 [.agg [.lst 42 a0.f0, .lst 47 a0.f1], .int .i64 a1] = t6 E0 a0 a1 :=
  (callW_eq Y0 (by rfl) Try.func6 _).trans (eq6 E0 a0 a1)
theorem w7 (a0 : Program) : W 7 [.agg [.lst 42 a0.f0, .lst 47 a0.f1]] = t7 E0 a0 :=
  (callW_eq Y0 (by rfl) Try.func7 _).trans (eq7 E0 a0)
theorem w8 (a0 : Program) (a1 : Program) : W 8 [.agg [.lst 42 a0.f0, .lst 47 a0.f1], .agg [.lst 42 a1.f0, .lst 47 a1.f1]] = t8 E0 a0 a1 :=
  (callW_eq Y0 (by rfl) Try.func8 _).trans (eq8 E0 a0 a1)
theorem w9 (a0 : Program) (a1 : List Match) : W 9 [.agg [.lst 42 a0.f0, .lst 47 a0.f1], .lst 36 a1] = t9 E0 a0 a1 :=
  (callW_eq Y0 (by rfl) Try.func9 _).trans (eq9 E0 a0 a1)
theorem w10 (a0 : Program) (a1 : Program) (a2 : List Match) : W 10 [.agg [.lst 42 a0.f0, .lst 47 a0.f1], .agg [.lst 42 a1.f0, .lst 47 a1.f1], .lst 36 a2] = t10 E0 a0 a1 a2 :=
  (callW_eq Y0 (by rfl) Try.func10 _).trans (eq10 E0 a0 a1 a2)
theorem w11 (a0 : List Match) (a1 : List Match) : W 11 [.lst 36 a0, .lst 36 a1] = t11 E0 a0 a1 :=
  (callW_eq Y0 (by rfl) Try.func11 _).trans (eq11 E0 a0 a1)
theorem w12  : W 12 [] = t12 E0  :=
  (callW_eq Y0 (by rfl) Try.func12 _).trans (eq12 E0 )
theorem w13 (a0 : Int) (a1 : List Agg) : W 13 [.int .i64 a0, .lst 52 a1] = t13 E0 a0 a1 :=
  (callW_eq Y0 (by rfl) Try.func13 _).trans (eq13 E0 a0 a1)
theorem w14 (a0 : Program) : W 14 [.agg [.lst 42 a0.f0, .lst 47 a0.f1]] = t14 E0 a0 :=
  (callW_eq Y0 (by rfl) Try.func14 _).trans (eq14 E0 a0)
theorem w15 (a0 : Program) : W 15 [.agg [.lst 42 a0.f0, .lst 47 a0.f1]] = t15 E0 a0 :=
  (callW_eq Y0 (by rfl) Try.func15 _).trans (eq15 E0 a0)
theorem w16 (a0 : Program) (a1 : Int) (a2 : Int) : W 16 [.agg [.lst 42 a0.f0, .lst 47 a0.f1], .int .i64 a1, .int .i64 a2] = t16 E0 a0 a1 a2 :=
  (callW_eq Y0 (by rfl) Try.func16 _).trans (eq16 E0 a0 a1 a2)
theorem w17 (a0 : List Func) (a1 : Expr) : W 17 [.lst 42 a0, .agg [.int .i64 a1.f0, .int .i64 a1.f1, .str a1.f2, .lst 40 a1.f3]] = t17 E0 a0 a1 :=
  (callW_eq Y0 (by rfl) Try.func17 _).trans (eq17 E0 a0 a1)
theorem w2050018 (a0 : Int) (a1 : List Func) (a2 : List Node) (a3 : List Func) (a4 : List Node) (m5 : List (Ty75 × Bool)) : W 2050018 [.ptr 23 0 0, .clo 19 [.ptr 23 0 0] [], .int .i64 a0, .agg [.lst 42 a1, .lst 47 a2, .lst 42 a3, .lst 47 a4, .mref 24 0], .mpv 75 4 m5] = t2050018 E0 a0 a1 a2 a3 a4 m5 :=
  (callW_eq Y0 (by rfl) Try.func18 _).trans (eq2050018 E0 a0 a1 a2 a3 a4 m5)
theorem w2150018 (a0 : Int) (a1 : List Func) (a2 : List Node) (a3 : List Func) (a4 : List Node) (m5 : List (Ty75 × Bool)) : W 2150018 [.ptr 23 0 0, .clo 20 [.ptr 23 0 0] [], .int .i64 a0, .agg [.lst 42 a1, .lst 47 a2, .lst 42 a3, .lst 47 a4, .mref 24 0], .mpv 75 4 m5] = t2150018 E0 a0 a1 a2 a3 a4 m5 :=
  (callW_eq Y0 (by rfl) Try.func18 _).trans (eq2150018 E0 a0 a1 a2 a3 a4 m5)
theorem w2350021 (a0 : List Match) (a1 : Int) : W 2350021 [.lst 36 a0, .clo 22 [] [.ptr 9 0 0], .agg [.int .i64 a1]] = t2350021 E0 a0 a1 :=
  (callW_eq Y0 (by rfl) Try.func21 _).trans (eq2350021 E0 a0 a1)
theorem w23 (a0 : Node) : W 23 [.agg [.int .i64 a0.f0, .lst 3 a0.f1, .str a0.f2, .int .i64 a0.f3, .lst 40 a0.f4, .int .i64 a0.f5, .int .i64 a0.f6, .int .i64 a0.f7, .lst 3 a0.f8, .lst 3 a0.f9, .int .i64 a0.f10, .int .i64 a0.f11, .int .i64 a0.f12, .lst 52 a0.f13, .lst 58 a0.f14, .lst 50 a0.f15]] = t23 E0 a0 :=
  (callW_eq Y0 (by rfl) Try.func23 _).trans (eq23 E0 a0)
theorem w50019 (a0 : Int) (a1 : Int) (a2 : List Func) (a3 : List Node) (a4 : List Func) (a5 : List Node) (m6 : List (Ty75 × Bool)) : W 50019 [.ptr 59 0 0, .int .i64 a0, .int .i64 a1, .agg [.lst 42 a2, .lst 47 a3, .lst 42 a4, .lst 47 a5, .mref 60 0], .mpv 75 4 m6] = t50019 E0 a0 a1 a2 a3 a4 a5 m6 :=
  (callW_eq Y0 (by rfl) Try.func19 _).trans (eq50019 E0 a0 a1 a2 a3 a4 a5 m6)
theorem w50020 (a0 : Int) (a1 : Int) (a2 : List Func) (a3 : List Node) (a4 : List Func) (a5 : List Node) (m6 : List (Ty75 × Bool)) : W 50020 [.ptr 73 0 0, .int .i64 a0, .int .i64 a1, .agg [.lst 42 a2, .lst 47 a3, .lst 42 a4, .lst 47 a5, .mref 74 0], .mpv 75 4 m6] = t50020 E0 a0 a1 a2 a3 a4 a5 m6 :=
  (callW_eq Y0 (by rfl) Try.func20 _).trans (eq50020 E0 a0 a1 a2 a3 a4 a5 m6)
theorem w24 (a0 : Program) : W 24 [.agg [.lst 42 a0.f0, .lst 47 a0.f1]] = t24 E0 a0 :=
  (callW_eq Y0 (by rfl) Try.func24 _).trans (eq24 E0 a0)
theorem w25 (a0 : Program) : W 25 [.agg [.lst 42 a0.f0, .lst 47 a0.f1]] = t25 E0 a0 :=
  (callW_eq Y0 (by rfl) Try.func25 _).trans (eq25 E0 a0)
theorem w26 (a0 : Node) : W 26 [.agg [.int .i64 a0.f0, .lst 3 a0.f1, .str a0.f2, .int .i64 a0.f3, .lst 40 a0.f4, .int .i64 a0.f5, .int .i64 a0.f6, .int .i64 a0.f7, .lst 3 a0.f8, .lst 3 a0.f9, .int .i64 a0.f10, .int .i64 a0.f11, .int .i64 a0.f12, .lst 52 a0.f13, .lst 58 a0.f14, .lst 50 a0.f15]] = t26 E0 a0 :=
  (callW_eq Y0 (by rfl) Try.func26 _).trans (eq26 E0 a0)
theorem w27 (a0 : List Func) (a1 : Node) : W 27 [.lst 42 a0, .agg [.int .i64 a1.f0, .lst 3 a1.f1, .str a1.f2, .int .i64 a1.f3, .lst 40 a1.f4, .int .i64 a1.f5, .int .i64 a1.f6, .int .i64 a1.f7, .lst 3 a1.f8, .lst 3 a1.f9, .int .i64 a1.f10, .int .i64 a1.f11, .int .i64 a1.f12, .lst 52 a1.f13, .lst 58 a1.f14, .lst 50 a1.f15]] = t27 E0 a0 a1 :=
  (callW_eq Y0 (by rfl) Try.func27 _).trans (eq27 E0 a0 a1)
theorem w28 (a0 : Expr) (a1 : List Expr) (a2 : List Bool) : W 28 [.agg [.int .i64 a0.f0, .int .i64 a0.f1, .str a0.f2, .lst 40 a0.f3], .lst 40 a1, .lst 4 a2] = t28 E0 a0 a1 a2 :=
  (callW_eq Y0 (by rfl) Try.func28 _).trans (eq28 E0 a0 a1 a2)
theorem w29 (a0 : Expr) : W 29 [.agg [.int .i64 a0.f0, .int .i64 a0.f1, .str a0.f2, .lst 40 a0.f3]] = t29 E0 a0 :=
  (callW_eq Y0 (by rfl) Try.func29 _).trans (eq29 E0 a0)
theorem w2350034 (a0 : List Match) (a1 : Int) : W 2350034 [.lst 36 a0, .clo 22 [] [.ptr 19 0 0], .agg [.int .i64 a1]] = t2350034 E0 a0 a1 :=
  (callW_eq Y0 (by rfl) Try.func34 _).trans (eq2350034 E0 a0 a1)
theorem w50030 (a0 : Node) (a1 : Node) (a2 : List Func) (a3 : List Node) (a4 : List Func) (a5 : List Node) (m6 : List (Ty75 × Bool)) : W 50030 [.ptr 80 0 0, .agg [.int .i64 a0.f0, .lst 3 a0.f1, .str a0.f2, .int .i64 a0.f3, .lst 40 a0.f4, .int .i64 a0.f5, .int .i64 a0.f6, .int .i64 a0.f7, .lst 3 a0.f8, .lst 3 a0.f9, .int .i64 a0.f10, .int .i64 a0.f11, .int .i64 a0.f12, .lst 52 a0.f13, .lst 58 a0.f14, .lst 50 a0.f15], .agg [.int .i64 a1.f0, .lst 3 a1.f1, .str a1.f2, .int .i64 a1.f3, .lst 40 a1.f4, .int .i64 a1.f5, .int .i64 a1.f6, .int .i64 a1.f7, .lst 3 a1.f8, .lst 3 a1.f9, .int .i64 a1.f10, .int .i64 a1.f11, .int .i64 a1.f12, .lst 52 a1.f13, .lst 58 a1.f14, .lst 50 a1.f15], .agg [.lst 42 a2, .lst 47 a3, .lst 42 a4, .lst 47 a5, .mref 81 0], .mpv 75 4 m6] = t50030 E0 a0 a1 a2 a3 a4 a5 m6 :=
  (callW_eq Y0 (by rfl) Try.func30 _).trans (eq50030 E0 a0 a1 a2 a3 a4 a5 m6)
theorem w50031 (a0 : Node) (a1 : Node) (a2 : List Func) (a3 : List Node) (a4 : List Func) (a5 : List Node) (m6 : List (Ty75 × Bool)) : W 50031 [.ptr 14 0 0, .agg [.int .i64 a0.f0, .lst 3 a0.f1, .str a0.f2, .int .i64 a0.f3, .lst 40 a0.f4, .int .i64 a0.f5, .int .i64 a0.f6, .int .i64 a0.f7, .lst 3 a0.f8, .lst 3 a0.f9, .int .i64 a0.f10, .int .i64 a0.f11, .int .i64 a0.f12, .lst 52 a0.f13, .lst 58 a0.f14, .lst 50 a0.f15], .agg [.int .i64 a1.f0, .lst 3 a1.f1, .str a1.f2, .int .i64 a1.f3, .lst 40 a1.f4, .int .i64 a1.f5, .int .i64 a1.f6, .int .i64 a1.f7, .lst 3 a1.f8, .lst 3 a1.f9, .int .i64 a1.f10, .int .i64 a1.f11, .int .i64 a1.f12, .lst 52 a1.f13, .lst 58 a1.f14, .lst 50 a1.f15], .agg [.lst 42 a2, .lst 47 a3, .lst 42 a4, .lst 47 a5, .mref 15 0], .mpv 75 4 m6] = t50031 E0 a0 a1 a2 a3 a4 a5 m6 :=
  (callW_eq Y0 (by rfl) Try.func31 _).trans (eq50031 E0 a0 a1 a2 a3 a4 a5 m6)
theorem w32 (a0 : Node) : W 32 [.agg [.int .i64 a0.f0, .lst 3 a0.f1, .str a0.f2, .int .i64 a0.f3, .lst 40 a0.f4, .int .i64 a0.f5, .int .i64 a0.f6, .int .i64 a0.f7, .lst 3 a0.f8, .lst 3 a0.f9, .int .i64 a0.f10, .int .i64 a0.f11, .int .i64 a0.f12, .lst 52 a0.f13, .lst 58 a0.f14, .lst 50 a0.f15]] = t32 E0 a0 :=
  (callW_eq Y0 (by rfl) Try.func32 _).trans (eq32 E0 a0)
theorem w33 (a0 : List Int) (a1 : List Int) : W 33 [.lst 3 a0, .lst 3 a1] = t33 E0 a0 a1 :=
  (callW_eq Y0 (by rfl) Try.func33 _).trans (eq33 E0 a0 a1)
theorem w35 (a0 : Program) : W 35 [.agg [.lst 42 a0.f0, .lst 47 a0.f1]] = t35 E0 a0 :=
  (callW_eq Y0 (by rfl) Try.func35 _).trans (eq35 E0 a0)
theorem w37 (a0 : List Col) : W 37 [.lst 50 a0] = t37 E0 a0 :=
  (callW_eq Y0 (by rfl) Try.func37 _).trans (eq37 E0 a0)
theorem w36 (a0 : List Int) (a1 : List Int) : W 36 [.lst 3 a0, .lst 3 a1] = t36 E0 a0 a1 :=
  (callW_eq Y0 (by rfl) Try.func36 _).trans (eq36 E0 a0 a1)
theorem w38 (a0 : Int) : W 38 [.int .i64 a0] = t38 E0 a0 :=
  (callW_eq Y0 (by rfl) Try.func38 _).trans (eq38 E0 a0)
theorem w39 (a0 : Int) (a1 : Int) (a2 : Int) : W 39 [.int .i64 a0, .int .i64 a1, .int .i64 a2] = t39 E0 a0 a1 a2 :=
  (callW_eq Y0 (by rfl) Try.func39 _).trans (eq39 E0 a0 a1 a2)
theorem w40 (a0 : Expr) : W 40 [.agg [.int .i64 a0.f0, .int .i64 a0.f1, .str a0.f2, .lst 40 a0.f3]] = t40 E0 a0 :=
  (callW_eq Y0 (by rfl) Try.func40 _).trans (eq40 E0 a0)
theorem w41 (a0 : List Func) (a1 : Expr) : W 41 [.lst 42 a0, .agg [.int .i64 a1.f0, .int .i64 a1.f1, .str a1.f2, .lst 40 a1.f3]] = t41 E0 a0 a1 :=
  (callW_eq Y0 (by rfl) Try.func41 _).trans (eq41 E0 a0 a1)
theorem w42 (a0 : Expr) (a1 : Int) (a2 : List Expr) : W 42 [.agg [.int .i64 a0.f0, .int .i64 a0.f1, .str a0.f2, .lst 40 a0.f3], .int .i64 a1, .lst 40 a2] = t42 E0 a0 a1 a2 :=
  (callW_eq Y0 (by rfl) Try.func42 _).trans (eq42 E0 a0 a1 a2)
theorem w50022 (a0 : Match) (a1 : Int) : W 50022 [.agg [.int .i64 a0.f0, .int .i64 a0.f1, .int .i64 a0.f2], .ptr 13 0 0, .agg [.int .i64 a1]] = t50022 E0 a0 a1 :=
  (callW_eq Y0 (by rfl) Try.func22 _).trans (eq50022 E0 a0 a1)
theorem w4650044 (a0 : List Expr) (a1 : List Expr) (a2 : List Func) (a3 : List Node) (a4 : List Func) (a5 : List Node) (m6 : List (Ty75 × Bool)) : W 4650044 [.lst 40 a0, .lst 40 a1, .clo 45 [.ptr 32 0 0] [], .agg [.lst 42 a2, .lst 47 a3, .lst 42 a4, .lst 47 a5, .mref 33 0], .mpv 75 4 m6] = t4650044 E0 a0 a1 a2 a3 a4 a5 m6 :=
  (callW_eq Y0 (by rfl) Try.func44 _).trans (eq4650044 E0 a0 a1 a2 a3 a4 a5 m6)
theorem w4800046 (a0 : List Agg) (a1 : List Agg) : W 4800046 [.lst 52 a0, .lst 52 a1, .clo 47 [] []] = t4800046 E0 a0 a1 :=
  (callW_eq Y0 (by rfl) Try.func46 _).trans (eq4800046 E0 a0 a1)
theorem w5050048 (a0 : List Pat) (a1 : List Pat) (a2 : List Func) (a3 : List Node) (a4 : List Func) (a5 : List Node) (m6 : List (Ty75 × Bool)) : W 5050048 [.lst 58 a0, .lst 58 a1, .clo 49 [] [.ptr 32 0 0], .agg [.ptr 33 0 0], .agg [.lst 42 a2, .lst 47 a3, .lst 42 a4, .lst 47 a5, .mref 34 0], .mpv 75 4 m6] = t5050048 E0 a0 a1 a2 a3 a4 a5 m6 :=
  (callW_eq Y0 (by rfl) Try.func48 _).trans (eq5050048 E0 a0 a1 a2 a3 a4 a5 m6)
theorem w5200050 (a0 : List Col) (a1 : List Col) : W 5200050 [.lst 50 a0, .lst 50 a1, .clo 51 [] []] = t5200050 E0 a0 a1 :=
  (callW_eq Y0 (by rfl) Try.func50 _).trans (eq5200050 E0 a0 a1)
theorem w43 (a0 : Node) : W 43 [.agg [.int .i64 a0.f0, .lst 3 a0.f1, .str a0.f2, .int .i64 a0.f3, .lst 40 a0.f4, .int .i64 a0.f5, .int .i64 a0.f6, .int .i64 a0.f7, .lst 3 a0.f8, .lst 3 a0.f9, .int .i64 a0.f10, .int .i64 a0.f11, .int .i64 a0.f12, .lst 52 a0.f13, .lst 58 a0.f14, .lst 50 a0.f15]] = t43 E0 a0 :=
  (callW_eq Y0 (by rfl) Try.func43 _).trans (eq43 E0 a0)
theorem w2050052 (a0 : List Int) (a1 : List Int) (a2 : List Func) (a3 : List Node) (a4 : List Func) (a5 : List Node) (m6 : List (Ty75 × Bool)) : W 2050052 [.lst 3 a0, .lst 3 a1, .clo 19 [.ptr 32 0 0] [], .agg [.lst 42 a2, .lst 47 a3, .lst 42 a4, .lst 47 a5, .mref 33 0], .mpv 75 4 m6] = t2050052 E0 a0 a1 a2 a3 a4 a5 m6 :=
  (callW_eq Y0 (by rfl) Try.func52 _).trans (eq2050052 E0 a0 a1 a2 a3 a4 a5 m6)
theorem w53 (a0 : Node) : W 53 [.agg [.int .i64 a0.f0, .lst 3 a0.f1, .str a0.f2, .int .i64 a0.f3, .lst 40 a0.f4, .int .i64 a0.f5, .int .i64 a0.f6, .int .i64 a0.f7, .lst 3 a0.f8, .lst 3 a0.f9, .int .i64 a0.f10, .int .i64 a0.f11, .int .i64 a0.f12, .lst 52 a0.f13, .lst 58 a0.f14, .lst 50 a0.f15]] = t53 E0 a0 :=
  (callW_eq Y0 (by rfl) Try.func53 _).trans (eq53 E0 a0)
theorem w65 (a0 : Node) : W 65 [.agg [.int .i64 a0.f0, .lst 3 a0.f1, .str a0.f2, .int .i64 a0.f3, .lst 40 a0.f4, .int .i64 a0.f5, .int .i64 a0.f6, .int .i64 a0.f7, .lst 3 a0.f8, .lst 3 a0.f9, .int .i64 a0.f10, .int .i64 a0.f11, .int .i64 a0.f12, .lst 52 a0.f13, .lst 58 a0.f14, .lst 50 a0.f15]] = t65 E0 a0 :=
  (callW_eq Y0 (by rfl) Try.func65 _).trans (eq65 E0 a0)
theorem w67 (a0 : Node) : W 67 [.agg [.int .i64 a0.f0, .lst 3 a0.f1, .str a0.f2, .int .i64 a0.f3, .lst 40 a0.f4, .int .i64 a0.f5, .int .i64 a0.f6, .int .i64 a0.f7, .lst 3 a0.f8, .lst 3 a0.f9, .int .i64 a0.f10, .int .i64 a0.f11, .int .i64 a0.f12, .lst 52 a0.f13, .lst 58 a0.f14, .lst 50 a0.f15]] = t67 E0 a0 :=
  (callW_eq Y0 (by rfl) Try.func67 _).trans (eq67 E0 a0)
theorem w72 (a0 : Node) : W 72 [.agg [.int .i64 a0.f0, .lst 3 a0.f1, .str a0.f2, .int .i64 a0.f3, .lst 40 a0.f4, .int .i64 a0.f5, .int .i64 a0.f6, .int .i64 a0.f7, .lst 3 a0.f8, .lst 3 a0.f9, .int .i64 a0.f10, .int .i64 a0.f11, .int .i64 a0.f12, .lst 52 a0.f13, .lst 58 a0.f14, .lst 50 a0.f15]] = t72 E0 a0 :=
  (callW_eq Y0 (by rfl) Try.func72 _).trans (eq72 E0 a0)
theorem w74 (a0 : Node) : W 74 [.agg [.int .i64 a0.f0, .lst 3 a0.f1, .str a0.f2, .int .i64 a0.f3, .lst 40 a0.f4, .int .i64 a0.f5, .int .i64 a0.f6, .int .i64 a0.f7, .lst 3 a0.f8, .lst 3 a0.f9, .int .i64 a0.f10, .int .i64 a0.f11, .int .i64 a0.f12, .lst 52 a0.f13, .lst 58 a0.f14, .lst 50 a0.f15]] = t74 E0 a0 :=
  (callW_eq Y0 (by rfl) Try.func74 _).trans (eq74 E0 a0)
theorem w76 (a0 : Node) : W 76 [.agg [.int .i64 a0.f0, .lst 3 a0.f1, .str a0.f2, .int .i64 a0.f3, .lst 40 a0.f4, .int .i64 a0.f5, .int .i64 a0.f6, .int .i64 a0.f7, .lst 3 a0.f8, .lst 3 a0.f9, .int .i64 a0.f10, .int .i64 a0.f11, .int .i64 a0.f12, .lst 52 a0.f13, .lst 58 a0.f14, .lst 50 a0.f15]] = t76 E0 a0 :=
  (callW_eq Y0 (by rfl) Try.func76 _).trans (eq76 E0 a0)
theorem w55 (a0 : List Func) : W 55 [.lst 42 a0] = t55 E0 a0 :=
  (callW_eq Y0 (by rfl) Try.func55 _).trans (eq55 E0 a0)
theorem w56 (a0 : Int) : W 56 [.int .i64 a0] = t56 E0 a0 :=
  (callW_eq Y0 (by rfl) Try.func56 _).trans (eq56 E0 a0)
theorem w57 (a0 : Node) : W 57 [.agg [.int .i64 a0.f0, .lst 3 a0.f1, .str a0.f2, .int .i64 a0.f3, .lst 40 a0.f4, .int .i64 a0.f5, .int .i64 a0.f6, .int .i64 a0.f7, .lst 3 a0.f8, .lst 3 a0.f9, .int .i64 a0.f10, .int .i64 a0.f11, .int .i64 a0.f12, .lst 52 a0.f13, .lst 58 a0.f14, .lst 50 a0.f15]] = t57 E0 a0 :=
  (callW_eq Y0 (by rfl) Try.func57 _).trans (eq57 E0 a0)
theorem w58 (a0 : List Func) (a1 : Node) (a2 : List Int) (a3 : List Int) : W 58 [.lst 42 a0, .agg [.int .i64 a1.f0, .lst 3 a1.f1, .str a1.f2, .int .i64 a1.f3, .lst 40 a1.f4, .int .i64 a1.f5, .int .i64 a1.f6, .int .i64 a1.f7, .lst 3 a1.f8, .lst 3 a1.f9, .int .i64 a1.f10, .int .i64 a1.f11, .int .i64 a1.f12, .lst 52 a1.f13, .lst 58 a1.f14, .lst 50 a1.f15], .lst 3 a2, .lst 3 a3] = t58 E0 a0 a1 a2 a3 :=
  (callW_eq Y0 (by rfl) Try.func58 _).trans (eq58 E0 a0 a1 a2 a3)
theorem w59 (a0 : Int) : W 59 [.int .i64 a0] = t59 E0 a0 :=
  (callW_eq Y0 (by rfl) Try.func59 _).trans (eq59 E0 a0)
theorem w60 (a0 : List Int) (a1 : Expr) : W 60 [.lst 3 a0, .agg [.int .i64 a1.f0, .int .i64 a1.f1, .str a1.f2, .lst 40 a1.f3]] = t60 E0 a0 a1 :=
  (callW_eq Y0 (by rfl) Try.func60 _).trans (eq60 E0 a0 a1)
theorem w61 (a0 : Expr) : W 61 [.agg [.int .i64 a0.f0, .int .i64 a0.f1, .str a0.f2, .lst 40 a0.f3]] = t61 E0 a0 :=
  (callW_eq Y0 (by rfl) Try.func61 _).trans (eq61 E0 a0)
theorem w50045 (a0 : Expr) (a1 : Expr) (a2 : List Func) (a3 : List Node) (a4 : List Func) (a5 : List Node) (m6 : List (Ty75 × Bool)) : W 50045 [.ptr 40 0 0, .agg [.int .i64 a0.f0, .int .i64 a0.f1, .str a0.f2, .lst 40 a0.f3], .agg [.int .i64 a1.f0, .int .i64 a1.f1, .str a1.f2, .lst 40 a1.f3], .agg [.lst 42 a2, .lst 47 a3, .lst 42 a4, .lst 47 a5, .mref 41 0], .mpv 75 4 m6] = t50045 E0 a0 a1 a2 a3 a4 a5 m6 :=
  (callW_eq Y0 (by rfl) Try.func45 _).trans (eq50045 E0 a0 a1 a2 a3 a4 a5 m6)
theorem w47 (a0 : Agg) (a1 : Agg) : W 47 [.agg [.int .i64 a0.f0, .int .i64 a0.f1, .str a0.f2], .agg [.int .i64 a1.f0, .int .i64 a1.f1, .str a1.f2]] = t47 E0 a0 a1 :=
  (callW_eq Y0 (by rfl) Try.func47 _).trans (eq47 E0 a0 a1)
theorem w50049 (a0 : Pat) (a1 : Pat) (a2 : List Func) (a3 : List Node) (a4 : List Func) (a5 : List Node) (m6 : List (Ty75 × Bool)) : W 50049 [.agg [.int .i64 a0.f0.f0, .int .i64 a0.f0.f1, .str a0.f0.f2, .lst 40 a0.f0.f3, .int .i64 a0.f1], .agg [.int .i64 a1.f0.f0, .int .i64 a1.f0.f1, .str a1.f0.f2, .lst 40 a1.f0.f3, .int .i64 a1.f1], .ptr 19 0 0, .agg [.ptr 20 0 0], .agg [.lst 42 a2, .lst 47 a3, .lst 42 a4, .lst 47 a5, .mref 21 0], .mpv 75 4 m6] = t50049 E0 a0 a1 a2 a3 a4 a5 m6 :=
  (callW_eq Y0 (by rfl) Try.func49 _).trans (eq50049 E0 a0 a1 a2 a3 a4 a5 m6)
theorem w51 (a0 : Col) (a1 : Col) : W 51 [.agg [.str a0.f0, .int .i64 a0.f1, .str a0.f2], .agg [.str a1.f0, .int .i64 a1.f1, .str a1.f2]] = t51 E0 a0 a1 :=
  (callW_eq Y0 (by rfl) Try.func51 _).trans (eq51 E0 a0 a1)
theorem w64 (a0 : Node) : W 64 [.agg [.int .i64 a0.f0, .lst 3 a0.f1, .str a0.f2, .int .i64 a0.f3, .lst 40 a0.f4, .int .i64 a0.f5, .int .i64 a0.f6, .int .i64 a0.f7, .lst 3 a0.f8, .lst 3 a0.f9, .int .i64 a0.f10, .int .i64 a0.f11, .int .i64 a0.f12, .lst 52 a0.f13, .lst 58 a0.f14, .lst 50 a0.f15]] = t64 E0 a0 :=
  (callW_eq Y0 (by rfl) Try.func64 _).trans (eq64 E0 a0)
theorem w66 (a0 : Node) : W 66 [.agg [.int .i64 a0.f0, .lst 3 a0.f1, .str a0.f2, .int .i64 a0.f3, .lst 40 a0.f4, .int .i64 a0.f5, .int .i64 a0.f6, .int .i64 a0.f7, .lst 3 a0.f8, .lst 3 a0.f9, .int .i64 a0.f10, .int .i64 a0.f11, .int .i64 a0.f12, .lst 52 a0.f13, .lst 58 a0.f14, .lst 50 a0.f15]] = t66 E0 a0 :=
  (callW_eq Y0 (by rfl) Try.func66 _).trans (eq66 E0 a0)
theorem w68 (a0 : Node) : W 68 [.agg [.int .i64 a0.f0, .lst 3 a0.f1, .str a0.f2, .int .i64 a0.f3, .lst 40 a0.f4, .int .i64 a0.f5, .int .i64 a0.f6, .int .i64 a0.f7, .lst 3 a0.f8, .lst 3 a0.f9, .int .i64 a0.f10, .int .i64 a0.f11, .int .i64 a0.f12, .lst 52 a0.f13, .lst 58 a0.f14, .lst 50 a0.f15]] = t68 E0 a0 :=
  (callW_eq Y0 (by rfl) Try.func68 _).trans (eq68 E0 a0)
theorem w71 (a0 : Node) : W 71 [.agg [.int .i64 a0.f0, .lst 3 a0.f1, .str a0.f2, .int .i64 a0.f3, .lst 40 a0.f4, .int .i64 a0.f5, .int .i64 a0.f6, .int .i64 a0.f7, .lst 3 a0.f8, .lst 3 a0.f9, .int .i64 a0.f10, .int .i64 a0.f11, .int .i64 a0.f12, .lst 52 a0.f13, .lst 58 a0.f14, .lst 50 a0.f15]] = t71 E0 a0 :=
  (callW_eq Y0 (by rfl) Try.func71 _).trans (eq71 E0 a0)
theorem w73 (a0 : Node) : W 73 [.agg [.int .i64 a0.f0, .lst 3 a0.f1, .str a0.f2, .int .i64 a0.f3, .lst 40 a0.f4, .int .i64 a0.f5, .int .i64 a0.f6, .int .i64 a0.f7, .lst 3 a0.f8, .lst 3 a0.f9, .int .i64 a0.f10, .int .i64 a0.f11, .int .i64 a0.f12, .lst 52 a0.f13, .lst 58 a0.f14, .lst 50 a0.f15]] = t73 E0 a0 :=
  (callW_eq Y0 (by rfl) Try.func73 _).trans (eq73 E0 a0)
theorem w75 (a0 : Node) : W 75 [.agg [.int .i64 a0.f0, .lst 3 a0.f1, .str a0.f2, .int .i64 a0.f3, .lst 40 a0.f4, .int .i64 a0.f5, .int .i64 a0.f6, .int .i64 a0.f7, .lst 3 a0.f8, .lst 3 a0.f9, .int .i64 a0.f10, .int .i64 a0.f11, .int .i64 a0.f12, .lst 52 a0.f13, .lst 58 a0.f14, .lst 50 a0.f15]] = t75 E0 a0 :=
  (callW_eq Y0 (by rfl) Try.func75 _).trans (eq75 E0 a0)
theorem w70 (a0 : Int) (a1 : Int) (a2 : Int) : W 70 [.int .i64 a0, .int .i64 a1, .int .i64 a2] = t70 E0 a0 a1 a2 :=
  (callW_eq Y0 (by rfl) Try.func70 _).trans (eq70 E0 a0 a1 a2)
theorem w77 (a0 : Int) : W 77 [.int .i64 a0] = t77 E0 a0 :=
  (callW_eq Y0 (by rfl) Try.func77 _).trans (eq77 E0 a0)
theorem w78 (a0 : List Func) (a1 : List Int) (a2 : List Int) (a3 : Expr) : W 78 [.lst 42 a0, .lst 3 a1, .lst 3 a2, .agg [.int .i64 a3.f0, .int .i64 a3.f1, .str a3.f2, .lst 40 a3.f3]] = t78 E0 a0 a1 a2 a3 :=
  (callW_eq Y0 (by rfl) Try.func78 _).trans (eq78 E0 a0 a1 a2 a3)
theorem w79 (a0 : ByteArray) : W 79 [.str a0] = t79 E0 a0 :=
  (callW_eq Y0 (by rfl) Try.func79 _).trans (eq79 E0 a0)
theorem w80 (a0 : List Col) : W 80 [.lst 50 a0] = t80 E0 a0 :=
  (callW_eq Y0 (by rfl) Try.func80 _).trans (eq80 E0 a0)
theorem w81 (a0 : List Func) (a1 : List Int) (a2 : Expr) : W 81 [.lst 42 a0, .lst 3 a1, .agg [.int .i64 a2.f0, .int .i64 a2.f1, .str a2.f2, .lst 40 a2.f3]] = t81 E0 a0 a1 a2 :=
  (callW_eq Y0 (by rfl) Try.func81 _).trans (eq81 E0 a0 a1 a2)
theorem w82 (a0 : List Func) (a1 : List Int) (a2 : List Int) (a3 : Expr) : W 82 [.lst 42 a0, .lst 3 a1, .lst 3 a2, .agg [.int .i64 a3.f0, .int .i64 a3.f1, .str a3.f2, .lst 40 a3.f3]] = t82 E0 a0 a1 a2 a3 :=
  (callW_eq Y0 (by rfl) Try.func82 _).trans (eq82 E0 a0 a1 a2 a3)
theorem w83 (a0 : List Int) (a1 : List Int) : W 83 [.lst 3 a0, .lst 3 a1] = t83 E0 a0 a1 :=
  (callW_eq Y0 (by rfl) Try.func83 _).trans (eq83 E0 a0 a1)
theorem w84 (a0 : List Int) (a1 : List Int) : W 84 [.lst 3 a0, .lst 3 a1] = t84 E0 a0 a1 :=
  (callW_eq Y0 (by rfl) Try.func84 _).trans (eq84 E0 a0 a1)
theorem w62 (a0 : List Func) (a1 : Expr) : W 62 [.lst 42 a0, .agg [.int .i64 a1.f0, .int .i64 a1.f1, .str a1.f2, .lst 40 a1.f3]] = t62 E0 a0 a1 :=
  (callW_eq Y0 (by rfl) Try.func62 _).trans (eq62 E0 a0 a1)
theorem w63 (a0 : Expr) (a1 : Expr) : W 63 [.agg [.int .i64 a0.f0, .int .i64 a0.f1, .str a0.f2, .lst 40 a0.f3], .agg [.int .i64 a1.f0, .int .i64 a1.f1, .str a1.f2, .lst 40 a1.f3]] = t63 E0 a0 a1 :=
  (callW_eq Y0 (by rfl) Try.func63 _).trans (eq63 E0 a0 a1)
theorem w69 (a0 : Node) : W 69 [.agg [.int .i64 a0.f0, .lst 3 a0.f1, .str a0.f2, .int .i64 a0.f3, .lst 40 a0.f4, .int .i64 a0.f5, .int .i64 a0.f6, .int .i64 a0.f7, .lst 3 a0.f8, .lst 3 a0.f9, .int .i64 a0.f10, .int .i64 a0.f11, .int .i64 a0.f12, .lst 52 a0.f13, .lst 58 a0.f14, .lst 50 a0.f15]] = t69 E0 a0 :=
  (callW_eq Y0 (by rfl) Try.func69 _).trans (eq69 E0 a0)
theorem w87 (a0 : List Func) (a1 : List Int) (a2 : List Int) (a3 : Expr) : W 87 [.lst 42 a0, .lst 3 a1, .lst 3 a2, .agg [.int .i64 a3.f0, .int .i64 a3.f1, .str a3.f2, .lst 40 a3.f3]] = t87 E0 a0 a1 a2 a3 :=
  (callW_eq Y0 (by rfl) Try.func87 _).trans (eq87 E0 a0 a1 a2 a3)
theorem w88 (a0 : ByteArray) : W 88 [.str a0] = t88 E0 a0 :=
  (callW_eq Y0 (by rfl) Try.func88 _).trans (eq88 E0 a0)
theorem w89 (a0 : List Col) (a1 : ByteArray) : W 89 [.lst 50 a0, .str a1] = t89 E0 a0 a1 :=
  (callW_eq Y0 (by rfl) Try.func89 _).trans (eq89 E0 a0 a1)
theorem w90 (a0 : Int) : W 90 [.int .i64 a0] = t90 E0 a0 :=
  (callW_eq Y0 (by rfl) Try.func90 _).trans (eq90 E0 a0)
theorem w85 (a0 : Expr) (a1 : List Body) : W 85 [.agg [.int .i64 a0.f0, .int .i64 a0.f1, .str a0.f2, .lst 40 a0.f3], .lst 120 a1] = t85 E0 a0 a1 :=
  (callW_eq Y0 (by rfl) Try.func85 _).trans (eq85 E0 a0 a1)
theorem w86 (a0 : Expr) : W 86 [.agg [.int .i64 a0.f0, .int .i64 a0.f1, .str a0.f2, .lst 40 a0.f3]] = t86 E0 a0 :=
  (callW_eq Y0 (by rfl) Try.func86 _).trans (eq86 E0 a0)
theorem w6400044 (a0 : List Expr) (a1 : List Expr) : W 6400044 [.lst 40 a0, .lst 40 a1, .clo 63 [] []] = t6400044 E0 a0 a1 :=
  (callW_eq Y0 (by rfl) Try.func44 _).trans (eq6400044 E0 a0 a1)
theorem w94 (a0 : List Func) (a1 : Int) (a2 : List Int) : W 94 [.lst 42 a0, .int .i64 a1, .lst 3 a2] = t94 E0 a0 a1 a2 :=
  (callW_eq Y0 (by rfl) Try.func94 _).trans (eq94 E0 a0 a1 a2)
theorem w95 (a0 : Int) : W 95 [.int .i64 a0] = t95 E0 a0 :=
  (callW_eq Y0 (by rfl) Try.func95 _).trans (eq95 E0 a0)
theorem w96 (a0 : List Int) (a1 : Int) : W 96 [.lst 3 a0, .int .i64 a1] = t96 E0 a0 a1 :=
  (callW_eq Y0 (by rfl) Try.func96 _).trans (eq96 E0 a0 a1)
theorem w97 (a0 : ByteArray) : W 97 [.str a0] = t97 E0 a0 :=
  (callW_eq Y0 (by rfl) Try.func97 _).trans (eq97 E0 a0)
theorem w91 (a0 : Expr) (a1 : Int) (a2 : List Expr) : W 91 [.agg [.int .i64 a0.f0, .int .i64 a0.f1, .str a0.f2, .lst 40 a0.f3], .int .i64 a1, .lst 40 a2] = t91 E0 a0 a1 a2 :=
  (callW_eq Y0 (by rfl) Try.func91 _).trans (eq91 E0 a0 a1 a2)
theorem w9450092 (a0 : Expr) (x1 : Int) : W 9450092 [.agg [.int .i64 a0.f0, .int .i64 a0.f1, .str a0.f2, .lst 40 a0.f3], .clo 93 [] [.ptr 20 0 0], .tup [.int .i64 x1]] = t9450092 E0 a0 x1 :=
  (callW_eq Y0 (by rfl) Try.func92 _).trans (eq9450092 E0 a0 x1)
theorem w98 (a0 : Expr) : W 98 [.agg [.int .i64 a0.f0, .int .i64 a0.f1, .str a0.f2, .lst 40 a0.f3]] = t98 E0 a0 :=
  (callW_eq Y0 (by rfl) Try.func98 _).trans (eq98 E0 a0)
theorem w50093 (a0 : Expr) (x1 : Int) : W 50093 [.agg [.int .i64 a0.f0, .int .i64 a0.f1, .str a0.f2, .lst 40 a0.f3], .ptr 5 0 0, .tup [.int .i64 x1]] = t50093 E0 a0 x1 :=
  (callW_eq Y0 (by rfl) Try.func93 _).trans (eq50093 E0 a0 x1)
end Go.Fw.S1
