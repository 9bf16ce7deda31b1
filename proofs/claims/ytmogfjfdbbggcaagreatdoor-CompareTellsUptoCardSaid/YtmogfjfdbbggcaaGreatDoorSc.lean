import Derived.Test.YtmogfjfdbbggcaaGreatDoorSb0
import Derived.Test.YtmogfjfdbbggcaaGreatDoorSb1
import Derived.Test.YtmogfjfdbbggcaaGreatDoorSb2
import Derived.Test.YtmogfjfdbbggcaaGreatDoorSb3
import Derived.Test.YtmogfjfdbbggcaaGreatDoorSb4
import Derived.Test.YtmogfjfdbbggcaaGreatDoorSb5
import Derived.Test.YtmogfjfdbbggcaaGreatDoorSb6
set_option linter.all false
set_option linter.unusedVariables false
set_option maxHeartbeats 1000000
set_option maxRecDepth 100000
namespace Go.Fw.S1
open Go.Proofs
open Go.RowKit Go.Sort
def fis : List (Nat × Fi) := [(3, fi3), (4, fi4), (5, fi5), (6, fi6), (8, fi8), (7, fi7), (9, fi9), (10, fi10), (11, fi11), (12, fi12), (13, fi13), (14, fi14), (15, fi15), (16, fi16), (17, fi17), (18, fi18), (19, fi19), (2250020, fi2250020), (2350020, fi2350020), (23, fi23), (24, fi24), (50021, fi50021), (50022, fi50022), (2750025, fi2750025), (27, fi27), (28, fi28), (29, fi29), (50030, fi50030), (50031, fi50031), (50032, fi50032), (50033, fi50033), (34, fi34), (35, fi35), (36, fi36), (37, fi37), (38, fi38), (39, fi39), (40, fi40), (41, fi41), (42, fi42), (43, fi43), (44, fi44), (49, fi49), (50, fi50), (51, fi51), (52, fi52), (50045, fi50045), (50046, fi50046), (47, fi47), (48, fi48), (2750053, fi2750053), (50054, fi50054), (50055, fi50055), (50056, fi50056), (58, fi58), (50059, fi50059), (50060, fi50060), (50061, fi50061), (50062, fi50062), (50063, fi50063), (64, fi64), (65, fi65), (67, fi67), (66, fi66), (68, fi68), (69, fi69), (70, fi70), (71, fi71), (72, fi72), (85, fi85), (7650074, fi7650074), (7800076, fi7800076), (8050078, fi8050078), (8200080, fi8200080), (73, fi73), (2250082, fi2250082), (83, fi83), (84, fi84), (103, fi103), (105, fi105), (110, fi110), (112, fi112), (114, fi114), (50026, fi50026), (50090, fi50090), (50091, fi50091), (50092, fi50092), (50093, fi50093), (94, fi94), (95, fi95), (96, fi96), (97, fi97), (98, fi98), (99, fi99), (115, fi115), (116, fi116), (50075, fi50075), (77, fi77), (50079, fi50079), (81, fi81), (102, fi102), (104, fi104), (106, fi106), (109, fi109), (111, fi111), (113, fi113), (108, fi108), (122, fi122), (123, fi123), (124, fi124), (125, fi125), (126, fi126), (127, fi127), (128, fi128), (129, fi129), (130, fi130), (133, fi133), (100, fi100), (101, fi101), (107, fi107), (145, fi145), (146, fi146), (147, fi147), (148, fi148), (152, fi152), (131, fi131), (132, fi132), (10200074, fi10200074), (161, fi161), (162, fi162), (163, fi163), (164, fi164), (166, fi166), (149, fi149), (15250150, fi15250150), (165, fi165), (50151, fi50151)]
def fi (n : Nat) : Fi := findN ⟨0, [], []⟩ fis n
def hand (n : Nat) : Bool := Nat.beq n 84 || (Nat.beq n 57 || (Nat.beq n 86 || (Nat.beq n 87 || Nat.beq n 88)))
theorem fis_ok : fisB rows fis = true := by kernel_rfl
theorem rks_ok : rksB rows rks = true := by kernel_rfl
theorem fi_ok (f : Nat) : FiOk tb (fi f) := findN_all (Q := fun x => FiOk tb x) (fun p tp h => by cases h) (fun p hp => (fisB_ok fis_ok p hp : FiOk tb0 p.2)) f
theorem rk_ok (f : Nat) : RkOk tb (tb.rk f) := findN_all (Q := fun x => RkOk tb x) (fun e he => by cases he) (fun p hp => (rksB_ok rks_ok p hp : RkOk tb0 p.2)) f
theorem mixed : Tryz.prog.follows .mixedOrders = true := by rfl
noncomputable def YA : Sys T tb := ⟨fi, hand, fun _ _ => none⟩
theorem sysA : SysOk Tryz.prog tb YA := ⟨mixed, tb_ok, fi_ok, rk_ok, fun f args r _ h => by cases h⟩
noncomputable def EA : Env T tb := YA.E Tryz.prog
theorem w108A (a0 a1 a2 : Int) : EA.C 108 [.int .i64 a0, .int .i64 a1, .int .i64 a2] = t108 EA a0 a1 a2 :=
 (callW_eq YA (by rfl) Tryz.func108 _).trans (eq108 EA a0 a1 a2)
def ofK (n : Int) : Option ((Kind × Bool) × Unit) :=
 if n = 0 then some ((.k0, true), ()) else if n = 1 then some ((.k1, true), ()) else if n = 2 then some ((.k1, true), ()) else
 if n = 3 then some ((.k2, true), ()) else if n = 4 then some ((.k3, true), ()) else if n = 5 then some ((.k4, true), ()) else
 if n = 6 then some ((.k5, true), ()) else if n = 7 then some ((.k6, true), ()) else if n = 8 then some ((.k7, true), ()) else none
def get84 : List (Val T) → Option Int
 | [.int .i64 n] => some n
 | _ => none
theorem get84_some {args : List (Val T)} {n : Int} (h : get84 args = some n) : args = [.int .i64 n] := by
 unfold get84 at h
 split at h
 ·cases h; rfl
 ·cases h
noncomputable def of84 (args : List (Val T)) : Option (Ret T tb 84) := (get84 args).bind ofK
theorem of84_sound (n : Int) (r : Ret T tb 84) (h : ofK n = some r) : Contract Tryz.prog tb 84 [.int .i64 n] r := by
 have key : evFn EA (fi 84) (tb.rk 84) (tb.xk 84) (tb.nt 84) Tryz.f84 [.int .i64 n] = some r := by
  unfold ofK at h
  split at h
  ·rename_i hn; subst hn; refine (eq84_0 EA).trans ?_; unfold t84_0; rw [w108A]; exact h
  split at h
  ·rename_i hn; subst hn; refine (eq84_1 EA).trans ?_; unfold t84_1; rw [w108A]; exact h
  split at h
  ·rename_i hn; subst hn; refine (eq84_2 EA).trans ?_; unfold t84_2; rw [w108A]; exact h
  split at h
  ·rename_i hn; subst hn; refine (eq84_3 EA).trans ?_; unfold t84_3; rw [w108A]; exact h
  split at h
  ·rename_i hn; subst hn; refine (eq84_4 EA).trans ?_; unfold t84_4; rw [w108A]; exact h
  split at h
  ·rename_i hn; subst hn; refine (eq84_5 EA).trans ?_; unfold t84_5; rw [w108A]; exact h
  split at h
  ·rename_i hn; subst hn; refine (eq84_6 EA).trans ?_; unfold t84_6; rw [w108A]; exact h
  split at h
  ·rename_i hn; subst hn; refine (eq84_7 EA).trans ?_; unfold t84_7; rw [w108A]; exact h
  split at h
  ·rename_i hn; subst hn; refine (eq84_8 EA).trans ?_; unfold t84_8; rw [w108A]; exact h
  ·cases h
 exact evFn_sound (f := 84) mixed tb_ok (E := EA) (callW_sound sysA) loopW_ok (fi_ok 84) Tryz.func84 (rk_ok 84) key
theorem fz_int {N : NS} {w : World} {k : IntKind} {n : Int} {v : Value} (h : Fz tb w N (.int k n) v) : v = .int k n ∧ inR k n := by cases h with | int a => exact ⟨rfl, a⟩
theorem fz_str {N : NS} {w : World} {s : ByteArray} {v : Value} (h : Fz tb w N (.str s) v) : v = .string s := by cases h; rfl
theorem inR64 {n : Int} (h : inR .i64 n) : -9223372036854775808 ≤ n ∧ n ≤ 9223372036854775807 := by
 unfold inR at h
 simp only [IntKind.wrap, IntKind.signed, IntKind.bits] at h
 simp at h
 omega
theorem below_grow {w : World} {k : Nat} {os : Array Obj} : Below w.heap.size w (grow (w.drewN k) os) :=
 ⟨rfl, rfl, rfl, by simp [grow, World.drewN], fun i hi => by simp [grow, World.drewN, Array.getElem?_append_left hi]⟩
def get57 : List (Val T) → Option Int
 | [.int .i64 n] => some n
 | _ => none
theorem get57_some {args : List (Val T)} {n : Int} (h : get57 args = some n) : args = [.int .i64 n] := by
 unfold get57 at h
 split at h
 ·cases h; rfl
 ·cases h
def itoaB (n : Int) : ByteArray := ⟨(Lib.itoa n).toArray⟩
def ans57 (n : Int) : Option (ByteArray × Unit) := if (itoaB n).size ≤ 9223372036854775807 then some (itoaB n, ()) else none
noncomputable def of57 (args : List (Val T)) : Option (Ret T tb 57) := (get57 args).bind ans57
theorem of57_sound (n : Int) (r : Ret T tb 57) (h : ans57 n = some r) : Contract Tryz.prog tb 57 [.int .i64 n] r := by
 refine contract_hand rfl (by simp [Val.pure1]) fun w N vargs hgl hgo hz => ?_
 match vargs, hz with
 | ⟨[v]⟩, hz =>
  obtain ⟨rfl, hn⟩ := fz_int (hz.2 0 _ _ rfl rfl)
  unfold ans57 at h
  split at h
  ·rename_i hs
   cases h
   obtain ⟨h0, h1⟩ := inR64 hn
   refine (Tryz.strconv_Itoa n h0 h1 w hgo.1).mono fun e w' he => ?_
   obtain ⟨rfl, k, os, rfl⟩ := he
   exact ⟨[_], rfl, below_grow, _, rfl, .str hs⟩
  ·cases h
def get86 : List (Val T) → Option (ByteArray × Int)
 | [.str s, .int .u8 c] => some (s, c)
 | _ => none
theorem get86_some {args : List (Val T)} {x : ByteArray × Int} (h : get86 args = some x) : args = [.str x.1, .int .u8 x.2] := by
 unfold get86 at h
 split at h
 ·cases h; rfl
 ·cases h
def ans86 (x : ByteArray × Int) : Option (Int × Unit) := if IntKind.wrap .i64 (Lib.indexByte x.1.data.toList x.2.toNat.toUInt8) = Lib.indexByte x.1.data.toList x.2.toNat.toUInt8 then some (Lib.indexByte x.1.data.toList x.2.toNat.toUInt8, ()) else none
noncomputable def of86 (args : List (Val T)) : Option (Ret T tb 86) := (get86 args).bind ans86
theorem of86_sound (x : ByteArray × Int) (r : Ret T tb 86) (h : ans86 x = some r) : Contract Tryz.prog tb 86 [.str x.1, .int .u8 x.2] r := by
 refine contract_hand rfl (by simp [Val.pure1]) fun w N vargs hgl hgo hz => ?_
 match vargs, hz with
 | ⟨[v, u]⟩, hz =>
  have hv := fz_str (hz.2 0 _ _ rfl rfl)
  obtain ⟨hu, hn⟩ := fz_int (hz.2 1 _ _ rfl rfl)
  subst hv; subst hu
  unfold ans86 at h
  split at h
  ·rename_i hs
   cases h
   refine (Tryz.strings_IndexByte x.1 x.2 w).mono fun e w' he => ?_
   obtain ⟨rfl, rfl⟩ := he
   exact ⟨[_], rfl, Below.refl _ _, _, rfl, .int hs⟩
  ·cases h
def get88 : List (Val T) → Option (ByteArray × ByteArray)
 | [.str s, .str p] => some (s, p)
 | _ => none
theorem get88_some {args : List (Val T)} {x : ByteArray × ByteArray} (h : get88 args = some x) : args = [.str x.1, .str x.2] := by
 unfold get88 at h
 split at h
 ·cases h; rfl
 ·cases h
def cutB (x : ByteArray × ByteArray) : ByteArray := ⟨(Lib.trimPrefix x.1.data.toList x.2.data.toList).toArray⟩
def ans88 (x : ByteArray × ByteArray) : Option ((ByteArray × Bool) × Unit) := if (cutB x).size ≤ 9223372036854775807 then some ((cutB x, Lib.hasPrefix x.1.data.toList x.2.data.toList), ()) else none
noncomputable def of88 (args : List (Val T)) : Option (Ret T tb 88) := (get88 args).bind ans88
theorem of88_sound (x : ByteArray × ByteArray) (r : Ret T tb 88) (h : ans88 x = some r) : Contract Tryz.prog tb 88 [.str x.1, .str x.2] r := by
 refine contract_hand rfl (by simp [Val.pure1]) fun w N vargs hgl hgo hz => ?_
 match vargs, hz with
 | ⟨[v, u]⟩, hz =>
  have hv := fz_str (hz.2 0 _ _ rfl rfl)
  have hu := fz_str (hz.2 1 _ _ rfl rfl)
  subst hv; subst hu
  unfold ans88 at h
  split at h
  ·rename_i hs
   cases h
   refine (Tryz.strings_CutPrefix x.1 x.2 w).mono fun e w' he => ?_
   obtain ⟨rfl, rfl⟩ := he
   exact ⟨[_, _], rfl, Below.refl _ _, _, _, rfl, .str hs, _, rfl, .bool⟩
  ·cases h
def get87 : List (Val T) → Option ByteArray
 | [.str s] => some s
 | _ => none
theorem get87_some {args : List (Val T)} {x : ByteArray} (h : get87 args = some x) : args = [.str x] := by
 unfold get87 at h
 split at h
 ·cases h; rfl
 ·cases h
def okI (n : Int) (b : Bool) : Option ((Int × Bool) × Unit) := if IntKind.wrap .i64 n = n then some ((n, b), ()) else none
def ans87 (s : ByteArray) : Option ((Int × Bool) × Unit) := if s.size ≤ 281474976710656 then (match Lib.atoiAll s.data.toList with
 | .ok v => okI v true
 | .range => okI (Lib.atoiSat s.data.toList) false
 | _ => okI 0 false) else none
theorem okI_some {n : Int} {b : Bool} {r : (Int × Bool) × Unit} (h : okI n b = some r) : inR .i64 n ∧ r = ((n, b), ()) := by
 unfold okI at h
 split at h
 ·cases h; exact ⟨by assumption, rfl⟩
 ·cases h
noncomputable def of87 (args : List (Val T)) : Option (Ret T tb 87) := (get87 args).bind ans87
theorem of87_sound (s : ByteArray) (r : Ret T tb 87) (h : ans87 s = some r) : Contract Tryz.prog tb 87 [.str s] r := by
 refine contract_hand rfl (by simp [Val.pure1]) fun w N vargs hgl hgo hz => ?_
 match vargs, hz with
 | ⟨[v]⟩, hz =>
  have hv := fz_str (hz.2 0 _ _ rfl rfl)
  subst hv
  unfold ans87 at h
  split at h
  ·rename_i hs
   split at h
   ·rename_i v hv
    obtain ⟨h1, rfl⟩ := okI_some h
    refine (Tryz.strconv_Atoi_ok s (by omega) v hv w).mono fun e w' he => ?_
    obtain ⟨rfl, hw⟩ := he
    refine ⟨[_, _], rfl, ?_, _, _, rfl, .int h1, _, rfl, .ifc (fun _ => rfl) (fun h => by cases h)⟩
    rcases hw with rfl | ⟨t, rfl⟩
    ·exact Below.refl _ _
    ·exact Lib.bytesWorld_below _ _ _
   ·rename_i hv
    obtain ⟨h1, rfl⟩ := okI_some h
    obtain ⟨tp, p, hvar⟩ := hgo.2.2
    refine (Tryz.strconv_Atoi_range_var s hs hv tp p w hvar).mono fun e w' he => ?_
    obtain ⟨M, rfl, _, _, hb⟩ := he
    exact ⟨[_, _], rfl, hb, _, _, rfl, .int h1, _, rfl, .ifc (fun h => by cases h) (fun _ => ⟨_, _, rfl⟩)⟩
   ·rename_i hv1 hv2
    obtain ⟨h1, rfl⟩ := okI_some h
    obtain ⟨tp, p, hvar⟩ := hgo.2.1
    refine (Tryz.strconv_Atoi_syntax_var s hs (fun v hv => hv1 v hv) (fun hv => hv2 hv) tp p w hvar).mono fun e w' he => ?_
    obtain ⟨M, rfl, _, _, hb⟩ := he
    exact ⟨[_, _], rfl, hb, _, _, rfl, .int h1, _, rfl, .ifc (fun h => by cases h) (fun _ => ⟨_, _, rfl⟩)⟩
  ·cases h
noncomputable def by84 (f : Nat) (args : List (Val T)) : Option (Ret T tb f) := if h : f = 84 then h ▸ of84 args else if h : f = 57 then h ▸ of57 args else if h : f = 86 then h ▸ of86 args else if h : f = 87 then h ▸ of87 args else if h : f = 88 then h ▸ of88 args else none
noncomputable def Y0 : Sys T tb := ⟨fi, hand, by84⟩
theorem sys0 : SysOk Tryz.prog tb Y0 := ⟨mixed, tb_ok, fi_ok, rk_ok, fun f args r hf h => by
 have hf : hand f = true := hf
 unfold hand at hf
 simp only [Bool.or_eq_true] at hf
 rcases hf with hf | hf | hf | hf | hf
 ·have hf := Nat.eq_of_beq_eq_true hf
  subst hf
  obtain ⟨n, h1, h2⟩ := Option.bind_eq_some_iff.1 (show of84 args = some r from h)
  rw [get84_some h1]
  exact of84_sound n r h2
 ·have hf := Nat.eq_of_beq_eq_true hf
  subst hf
  obtain ⟨n, h1, h2⟩ := Option.bind_eq_some_iff.1 (show of57 args = some r from h)
  rw [get57_some h1]
  exact of57_sound n r h2
 ·have hf := Nat.eq_of_beq_eq_true hf
  subst hf
  obtain ⟨n, h1, h2⟩ := Option.bind_eq_some_iff.1 (show of86 args = some r from h)
  rw [get86_some h1]
  exact of86_sound n r h2
 ·have hf := Nat.eq_of_beq_eq_true hf
  subst hf
  obtain ⟨n, h1, h2⟩ := Option.bind_eq_some_iff.1 (show of87 args = some r from h)
  rw [get87_some h1]
  exact of87_sound n r h2
 ·have hf := Nat.eq_of_beq_eq_true hf
  subst hf
  obtain ⟨n, h1, h2⟩ := Option.bind_eq_some_iff.1 (show of88 args = some r from h)
  rw [get88_some h1]
  exact of88_sound n r h2⟩
noncomputable def E0 : Env T tb := Y0.E Tryz.prog
noncomputable def W (f : Nat) (args : List (Val T)) : Option (Ret T tb f) := callW Tryz.prog Y0 f args
theorem W_sound : SoundC Tryz.prog tb W := callW_sound sys0
theorem E0_C : E0.C = W := rfl
theorem E0_lp : E0.lp = loopW := rfl
theorem w84 (n : Int) : W 84 [.int .i64 n] = ofK n := (callW_hand Y0 (by rfl) _).trans (by kernel_rfl)
theorem w57 (n : Int) : W 57 [.int .i64 n] = ans57 n := (callW_hand Y0 (by rfl) _).trans (by kernel_rfl)
theorem w86 (s : ByteArray) (c : Int) : W 86 [.str s, .int .u8 c] = ans86 (s, c) := (callW_hand Y0 (by rfl) _).trans (by kernel_rfl)
theorem w87 (s : ByteArray) : W 87 [.str s] = ans87 s := (callW_hand Y0 (by rfl) _).trans (by kernel_rfl)
theorem w88 (s p : ByteArray) : W 88 [.str s, .str p] = ans88 (s, p) := (callW_hand Y0 (by rfl) _).trans (by kernel_rfl)
theorem w3 (a0 : Program) (a1 : Program) (a2 : List Match) (a3 : ByteArray) : W 3 [.agg [.lst 100 a0.f0, .lst 43 a0.f1], .agg [.lst 100 a1.f0, .lst 43 a1.f1], .lst 52 a2, .str a3] = t3 E0 a0 a1 a2 a3 :=
 (callW_eq Y0 (by rfl) Tryz.func3 _).trans (eq3 E0 a0 a1 a2 a3)
theorem w4  : W 4 [] = t4 E0  :=
 (callW_eq Y0 (by rfl) Tryz.func4 _).trans (eq4 E0 )
theorem w5 (a0 : Program) (a1 : Int) : W 5 [.agg [.lst 100 a0.f0, .lst 43 a0.f1], .int .i64 a1] = t5 E0 a0 a1 :=
 (callW_eq Y0 (by rfl) Tryz.func5 _).trans (eq5 E0 a0 a1)
theorem w6 (a0 : Program) (a1 : Program) : W 6 [.agg [.lst 100 a0.f0, .lst 43 a0.f1], .agg [.lst 100 a1.f0, .lst 43 a1.f1]] = t6 E0 a0 a1 :=
 (callW_eq Y0 (by rfl) Tryz.func6 _).trans (eq6 E0 a0 a1)
theorem w8 (a0 : Program) (a1 : Program) : W 8 [.agg [.lst 100 a0.f0, .lst 43 a0.f1], .agg [.lst 100 a1.f0, .lst 43 a1.f1]] = t8 E0 a0 a1 :=
 (callW_eq Y0 (by rfl) Tryz.func8 _).trans (eq8 E0 a0 a1)
theorem w7 (a0 : List Match) (a1 : List Match) : W 7 [.lst 52 a0, .lst 52 a1] = t7 E0 a0 a1 :=
 (callW_eq Y0 (by rfl) Tryz.func7 _).trans (eq7 E0 a0 a1)
theorem w9 (a0 : Program) (a1 : Program) (a2 : List Match) : W 9 [.agg [.lst 100 a0.f0, .lst 43 a0.f1], .agg [.lst 100 a1.f0, .lst 43 a1.f1], .lst 52 a2] = t9 E0 a0 a1 a2 :=
 (callW_eq Y0 (by rfl) Tryz.func9 _).trans (eq9 E0 a0 a1 a2)
theorem w10 (a0 : Program) (a1 : Program) (a2 : List Match) : W 10 [.agg [.lst 100 a0.f0, .lst 43 a0.f1], .agg [.lst 100 a1.f0, .lst 43 a1.f1], .lst 52 a2] = t10 E0 a0 a1 a2 :=
 (callW_eq Y0 (by rfl) Tryz.func10 _).trans (eq10 E0 a0 a1 a2)
theorem w11 (a0 : Program) (a1 : List Match) : W 11 [.agg [.lst 100 a0.f0, .lst 43 a0.f1], .lst 52 a1] = t11 E0 a0 a1 :=
 (callW_eq Y0 (by rfl) Tryz.func11 _).trans (eq11 E0 a0 a1)
theorem w12 (a0 : Program) (a1 : List Match) : W 12 [.agg [.lst 100 a0.f0, .lst 43 a0.f1], .lst 52 a1] = t12 E0 a0 a1 :=
 (callW_eq Y0 (by rfl) Tryz.func12 _).trans (eq12 E0 a0 a1)
theorem w13 (a0 : Program) (a1 : Program) (a2 : List Match) (a3 : ByteArray) : W 13 [.agg [.lst 100 a0.f0, .lst 43 a0.f1], .agg [.lst 100 a1.f0, .lst 43 a1.f1], .lst 52 a2, .str a3] = t13 E0 a0 a1 a2 a3 :=
 (callW_eq Y0 (by rfl) Tryz.func13 _).trans (eq13 E0 a0 a1 a2 a3)
theorem w14 (a0 : Program) (a1 : Program) (a2 : List Match) (a3 : ByteArray) : W 14 [.agg [.lst 100 a0.f0, .lst 43 a0.f1], .agg [.lst 100 a1.f0, .lst 43 a1.f1], .lst 52 a2, .str a3] = t14 E0 a0 a1 a2 a3 :=
 (callW_eq Y0 (by rfl) Tryz.func14 _).trans (eq14 E0 a0 a1 a2 a3)
theorem w15  : W 15 [] = t15 E0  :=
 (callW_eq Y0 (by rfl) Tryz.func15 _).trans (eq15 E0 )
theorem w16 (a0 : Int) (a1 : List Agg) : W 16 [.int .i64 a0, .lst 47 a1] = t16 E0 a0 a1 :=
 (callW_eq Y0 (by rfl) Tryz.func16 _).trans (eq16 E0 a0 a1)
theorem w17 (a0 : Program) : W 17 [.agg [.lst 100 a0.f0, .lst 43 a0.f1]] = t17 E0 a0 :=
 (callW_eq Y0 (by rfl) Tryz.func17 _).trans (eq17 E0 a0)
theorem w18 (a0 : Program) : W 18 [.agg [.lst 100 a0.f0, .lst 43 a0.f1]] = t18 E0 a0 :=
 (callW_eq Y0 (by rfl) Tryz.func18 _).trans (eq18 E0 a0)
theorem w19 (a0 : Program) (a1 : Int) (a2 : Int) : W 19 [.agg [.lst 100 a0.f0, .lst 43 a0.f1], .int .i64 a1, .int .i64 a2] = t19 E0 a0 a1 a2 :=
 (callW_eq Y0 (by rfl) Tryz.func19 _).trans (eq19 E0 a0 a1 a2)
theorem w2250020 (a0 : Int) (a1 : List Func) (a2 : List Node) (a3 : List Func) (a4 : List Node) (m5 : List (Ty80 × Bool)) : W 2250020 [.ptr 23 0 0, .clo 21 [.ptr 23 0 0] [], .int .i64 a0, .agg [.lst 100 a1, .lst 43 a2, .lst 100 a3, .lst 43 a4, .mref 24 0], .mpv 80 4 m5] = t2250020 E0 a0 a1 a2 a3 a4 m5 :=
 (callW_eq Y0 (by rfl) Tryz.func20 _).trans (eq2250020 E0 a0 a1 a2 a3 a4 m5)
theorem w2350020 (a0 : Int) (a1 : List Func) (a2 : List Node) (a3 : List Func) (a4 : List Node) (m5 : List (Ty80 × Bool)) : W 2350020 [.ptr 23 0 0, .clo 22 [.ptr 23 0 0] [], .int .i64 a0, .agg [.lst 100 a1, .lst 43 a2, .lst 100 a3, .lst 43 a4, .mref 24 0], .mpv 80 4 m5] = t2350020 E0 a0 a1 a2 a3 a4 m5 :=
 (callW_eq Y0 (by rfl) Tryz.func20 _).trans (eq2350020 E0 a0 a1 a2 a3 a4 m5)
theorem w23 (a0 : Program) (a1 : Program) : W 23 [.agg [.lst 100 a0.f0, .lst 43 a0.f1], .agg [.lst 100 a1.f0, .lst 43 a1.f1]] = t23 E0 a0 a1 :=
 (callW_eq Y0 (by rfl) Tryz.func23 _).trans (eq23 E0 a0 a1)
theorem w24 (a0 : List (List Bool)) (a1 : Node) (a2 : Node) : W 24 [.lst 63 a0, .agg (nV a1), .agg (nV a2)] = t24 E0 a0 a1 a2 :=
 (callW_eq Y0 (by rfl) Tryz.func24 _).trans (eq24 E0 a0 a1 a2)
theorem w50021 (a0 : Int) (a1 : Int) (a2 : List Func) (a3 : List Node) (a4 : List Func) (a5 : List Node) (m6 : List (Ty80 × Bool)) : W 50021 [.ptr 59 0 0, .int .i64 a0, .int .i64 a1, .agg [.lst 100 a2, .lst 43 a3, .lst 100 a4, .lst 43 a5, .mref 60 0], .mpv 80 4 m6] = t50021 E0 a0 a1 a2 a3 a4 a5 m6 :=
 (callW_eq Y0 (by rfl) Tryz.func21 _).trans (eq50021 E0 a0 a1 a2 a3 a4 a5 m6)
theorem w50022 (a0 : Int) (a1 : Int) (a2 : List Func) (a3 : List Node) (a4 : List Func) (a5 : List Node) (m6 : List (Ty80 × Bool)) : W 50022 [.ptr 73 0 0, .int .i64 a0, .int .i64 a1, .agg [.lst 100 a2, .lst 43 a3, .lst 100 a4, .lst 43 a5, .mref 74 0], .mpv 80 4 m6] = t50022 E0 a0 a1 a2 a3 a4 a5 m6 :=
 (callW_eq Y0 (by rfl) Tryz.func22 _).trans (eq50022 E0 a0 a1 a2 a3 a4 a5 m6)
theorem w2750025 (a0 : List Match) (a1 : Int) : W 2750025 [.lst 52 a0, .clo 26 [] [.ptr 9 0 0], .agg [.int .i64 a1]] = t2750025 E0 a0 a1 :=
 (callW_eq Y0 (by rfl) Tryz.func25 _).trans (eq2750025 E0 a0 a1)
theorem w27 (a0 : Node) : W 27 [.agg (nV a0)] = t27 E0 a0 :=
 (callW_eq Y0 (by rfl) Tryz.func27 _).trans (eq27 E0 a0)
theorem w28 (a0 : Node) : W 28 [.agg (nV a0)] = t28 E0 a0 :=
 (callW_eq Y0 (by rfl) Tryz.func28 _).trans (eq28 E0 a0)
theorem w29 (a0 : ByteArray) : W 29 [.str a0] = t29 E0 a0 :=
 (callW_eq Y0 (by rfl) Tryz.func29 _).trans (eq29 E0 a0)
theorem w50030 (x0 : Reader) : W 50030 [.ptr 5 0 0, .tup [.str x0.f0, .bool x0.f1]] = t50030 E0 x0 :=
 (callW_eq Y0 (by rfl) Tryz.func30 _).trans (eq50030 E0 x0)
theorem w50031 (x0 : Reader) : W 50031 [.ptr 5 0 0, .tup [.str x0.f0, .bool x0.f1]] = t50031 E0 x0 :=
 (callW_eq Y0 (by rfl) Tryz.func31 _).trans (eq50031 E0 x0)
theorem w50032 (x0 : Reader) : W 50032 [.ptr 38 0 0, .tup [.str x0.f0, .bool x0.f1]] = t50032 E0 x0 :=
 (callW_eq Y0 (by rfl) Tryz.func32 _).trans (eq50032 E0 x0)
theorem w50033 (a0 : ByteArray) (a1 : Bool) : W 50033 [.ptr 15 0 0, .agg [.str a0, .bool a1]] = t50033 E0 a0 a1 :=
 (callW_eq Y0 (by rfl) Tryz.func33 _).trans (eq50033 E0 a0 a1)
theorem w34 (a0 : Int) : W 34 [.int .i64 a0] = t34 E0 a0 :=
 (callW_eq Y0 (by rfl) Tryz.func34 _).trans (eq34 E0 a0)
theorem w35 (a0 : Int) : W 35 [.int .i64 a0] = t35 E0 a0 :=
 (callW_eq Y0 (by rfl) Tryz.func35 _).trans (eq35 E0 a0)
theorem w36 (a0 : ByteArray) : W 36 [.str a0] = t36 E0 a0 :=
 (callW_eq Y0 (by rfl) Tryz.func36 _).trans (eq36 E0 a0)
theorem w37 (a0 : ByteArray) : W 37 [.str a0] = t37 E0 a0 :=
 (callW_eq Y0 (by rfl) Tryz.func37 _).trans (eq37 E0 a0)
theorem w38 (a0 : Int) : W 38 [.int .i64 a0] = t38 E0 a0 :=
 (callW_eq Y0 (by rfl) Tryz.func38 _).trans (eq38 E0 a0)
theorem w39 (a0 : Int) : W 39 [.int .i64 a0] = t39 E0 a0 :=
 (callW_eq Y0 (by rfl) Tryz.func39 _).trans (eq39 E0 a0)
theorem w40 (a0 : ByteArray) : W 40 [.str a0] = t40 E0 a0 :=
 (callW_eq Y0 (by rfl) Tryz.func40 _).trans (eq40 E0 a0)
theorem w41 (a0 : Program) : W 41 [.agg [.lst 100 a0.f0, .lst 43 a0.f1]] = t41 E0 a0 :=
 (callW_eq Y0 (by rfl) Tryz.func41 _).trans (eq41 E0 a0)
theorem w42 (a0 : Program) : W 42 [.agg [.lst 100 a0.f0, .lst 43 a0.f1]] = t42 E0 a0 :=
 (callW_eq Y0 (by rfl) Tryz.func42 _).trans (eq42 E0 a0)
theorem w43 (a0 : Node) : W 43 [.agg (nV a0)] = t43 E0 a0 :=
 (callW_eq Y0 (by rfl) Tryz.func43 _).trans (eq43 E0 a0)
theorem w44 (a0 : List Func) (a1 : Node) : W 44 [.lst 100 a0, .agg (nV a1)] = t44 E0 a0 a1 :=
 (callW_eq Y0 (by rfl) Tryz.func44 _).trans (eq44 E0 a0 a1)
theorem w49 (a0 : Program) (a1 : Node) (a2 : Program) (a3 : Node) : W 49 [.agg [.lst 100 a0.f0, .lst 43 a0.f1], .agg (nV a1), .agg [.lst 100 a2.f0, .lst 43 a2.f1], .agg (nV a3)] = t49 E0 a0 a1 a2 a3 :=
 (callW_eq Y0 (by rfl) Tryz.func49 _).trans (eq49 E0 a0 a1 a2 a3)
theorem w50 (a0 : List (List Bool)) (a1 : Node) (a2 : Node) : W 50 [.lst 63 a0, .agg (nV a1), .agg (nV a2)] = t50 E0 a0 a1 a2 :=
 (callW_eq Y0 (by rfl) Tryz.func50 _).trans (eq50 E0 a0 a1 a2)
theorem w51 (a0 : Node) : W 51 [.agg (nV a0)] = t51 E0 a0 :=
 (callW_eq Y0 (by rfl) Tryz.func51 _).trans (eq51 E0 a0)
theorem w52 (a0 : List Int) (a1 : List Int) : W 52 [.lst 3 a0, .lst 3 a1] = t52 E0 a0 a1 :=
 (callW_eq Y0 (by rfl) Tryz.func52 _).trans (eq52 E0 a0 a1)
theorem w50045 (a0 : Node) (a1 : Node) (a2 : List Func) (a3 : List Node) (a4 : List Func) (a5 : List Node) (m6 : List (Ty80 × Bool)) : W 50045 [.ptr 80 0 0, .agg (nV a0), .agg (nV a1), .agg [.lst 100 a2, .lst 43 a3, .lst 100 a4, .lst 43 a5, .mref 81 0], .mpv 80 4 m6] = t50045 E0 a0 a1 a2 a3 a4 a5 m6 :=
 (callW_eq Y0 (by rfl) Tryz.func45 _).trans (eq50045 E0 a0 a1 a2 a3 a4 a5 m6)
theorem w50046 (a0 : Node) (a1 : Node) (a2 : List Func) (a3 : List Node) (a4 : List Func) (a5 : List Node) (m6 : List (Ty80 × Bool)) : W 50046 [.ptr 14 0 0, .agg (nV a0), .agg (nV a1), .agg [.lst 100 a2, .lst 43 a3, .lst 100 a4, .lst 43 a5, .mref 15 0], .mpv 80 4 m6] = t50046 E0 a0 a1 a2 a3 a4 a5 m6 :=
 (callW_eq Y0 (by rfl) Tryz.func46 _).trans (eq50046 E0 a0 a1 a2 a3 a4 a5 m6)
theorem w47 (a0 : Node) : W 47 [.agg (nV a0)] = t47 E0 a0 :=
 (callW_eq Y0 (by rfl) Tryz.func47 _).trans (eq47 E0 a0)
theorem w48 (a0 : List Int) (a1 : List Int) : W 48 [.lst 3 a0, .lst 3 a1] = t48 E0 a0 a1 :=
 (callW_eq Y0 (by rfl) Tryz.func48 _).trans (eq48 E0 a0 a1)
theorem w2750053 (a0 : List Match) (a1 : Int) : W 2750053 [.lst 52 a0, .clo 26 [] [.ptr 19 0 0], .agg [.int .i64 a1]] = t2750053 E0 a0 a1 :=
 (callW_eq Y0 (by rfl) Tryz.func53 _).trans (eq2750053 E0 a0 a1)
theorem w50054 (a0 : Int) (a1 : Int) (x2 : Reader) : W 50054 [.ptr 64 0 0, .int .u8 a0, .int .i64 a1, .tup [.str x2.f0, .bool x2.f1]] = t50054 E0 a0 a1 x2 :=
 (callW_eq Y0 (by rfl) Tryz.func54 _).trans (eq50054 E0 a0 a1 x2)
theorem w50055 (x0 : Reader) : W 50055 [.ptr 8 0 0, .tup [.str x0.f0, .bool x0.f1]] = t50055 E0 x0 :=
 (callW_eq Y0 (by rfl) Tryz.func55 _).trans (eq50055 E0 x0)
theorem w50056 (a0 : ByteArray) (x1 : Reader) : W 50056 [.ptr 23 0 0, .str a0, .tup [.str x1.f0, .bool x1.f1]] = t50056 E0 a0 x1 :=
 (callW_eq Y0 (by rfl) Tryz.func56 _).trans (eq50056 E0 a0 x1)
theorem w58 (a0 : ByteArray) : W 58 [.str a0] = t58 E0 a0 :=
 (callW_eq Y0 (by rfl) Tryz.func58 _).trans (eq58 E0 a0)
theorem w50059 (x0 : RReader) : W 50059 [.ptr 5 0 0, .tup [.str x0.f0, .bool x0.f1]] = t50059 E0 x0 :=
 (callW_eq Y0 (by rfl) Tryz.func59 _).trans (eq50059 E0 x0)
theorem w50060 (x0 : RReader) : W 50060 [.ptr 5 0 0, .tup [.str x0.f0, .bool x0.f1]] = t50060 E0 x0 :=
 (callW_eq Y0 (by rfl) Tryz.func60 _).trans (eq50060 E0 x0)
theorem w50061 (a0 : ByteArray) (a1 : Bool) : W 50061 [.ptr 8 0 0, .agg [.str a0, .bool a1]] = t50061 E0 a0 a1 :=
 (callW_eq Y0 (by rfl) Tryz.func61 _).trans (eq50061 E0 a0 a1)
theorem w50062 (x0 : RReader) : W 50062 [.ptr 41 0 0, .tup [.str x0.f0, .bool x0.f1]] = t50062 E0 x0 :=
 (callW_eq Y0 (by rfl) Tryz.func62 _).trans (eq50062 E0 x0)
theorem w50063 (a0 : ByteArray) (a1 : Bool) : W 50063 [.ptr 15 0 0, .agg [.str a0, .bool a1]] = t50063 E0 a0 a1 :=
 (callW_eq Y0 (by rfl) Tryz.func63 _).trans (eq50063 E0 a0 a1)
theorem w64 (a0 : Int) : W 64 [.int .i64 a0] = t64 E0 a0 :=
 (callW_eq Y0 (by rfl) Tryz.func64 _).trans (eq64 E0 a0)
theorem w65 (a0 : Program) : W 65 [.agg [.lst 100 a0.f0, .lst 43 a0.f1]] = t65 E0 a0 :=
 (callW_eq Y0 (by rfl) Tryz.func65 _).trans (eq65 E0 a0)
theorem w67 (a0 : List Col) : W 67 [.lst 77 a0] = t67 E0 a0 :=
 (callW_eq Y0 (by rfl) Tryz.func67 _).trans (eq67 E0 a0)
theorem w66 (a0 : List Int) (a1 : List Int) : W 66 [.lst 3 a0, .lst 3 a1] = t66 E0 a0 a1 :=
 (callW_eq Y0 (by rfl) Tryz.func66 _).trans (eq66 E0 a0 a1)
theorem w68 (a0 : Int) : W 68 [.int .i64 a0] = t68 E0 a0 :=
 (callW_eq Y0 (by rfl) Tryz.func68 _).trans (eq68 E0 a0)
theorem w69 (a0 : Int) (a1 : Int) (a2 : Int) : W 69 [.int .i64 a0, .int .i64 a1, .int .i64 a2] = t69 E0 a0 a1 a2 :=
 (callW_eq Y0 (by rfl) Tryz.func69 _).trans (eq69 E0 a0 a1 a2)
theorem w70 (a0 : Expr) : W 70 [.agg (eV a0)] = t70 E0 a0 :=
 (callW_eq Y0 (by rfl) Tryz.func70 _).trans (eq70 E0 a0)
theorem w71 (a0 : Expr) : W 71 [.agg (eV a0)] = t71 E0 a0 :=
 (callW_eq Y0 (by rfl) Tryz.func71 _).trans (eq71 E0 a0)
theorem w72 (a0 : List Func) (a1 : Expr) : W 72 [.lst 100 a0, .agg (eV a1)] = t72 E0 a0 a1 :=
 (callW_eq Y0 (by rfl) Tryz.func72 _).trans (eq72 E0 a0 a1)
theorem w85 (a0 : Program) (a1 : Expr) (a2 : Program) (a3 : Expr) : W 85 [.agg [.lst 100 a0.f0, .lst 43 a0.f1], .agg (eV a1), .agg [.lst 100 a2.f0, .lst 43 a2.f1], .agg (eV a3)] = t85 E0 a0 a1 a2 a3 :=
 (callW_eq Y0 (by rfl) Tryz.func85 _).trans (eq85 E0 a0 a1 a2 a3)
theorem w7650074 (a0 : List Expr) (a1 : List Expr) (a2 : List Func) (a3 : List Node) (a4 : List Func) (a5 : List Node) (m6 : List (Ty80 × Bool)) : W 7650074 [.lst 49 a0, .lst 49 a1, .clo 75 [.ptr 32 0 0] [], .agg [.lst 100 a2, .lst 43 a3, .lst 100 a4, .lst 43 a5, .mref 33 0], .mpv 80 4 m6] = t7650074 E0 a0 a1 a2 a3 a4 a5 m6 :=
 (callW_eq Y0 (by rfl) Tryz.func74 _).trans (eq7650074 E0 a0 a1 a2 a3 a4 a5 m6)
theorem w7800076 (a0 : List Agg) (a1 : List Agg) : W 7800076 [.lst 47 a0, .lst 47 a1, .clo 77 [] []] = t7800076 E0 a0 a1 :=
 (callW_eq Y0 (by rfl) Tryz.func76 _).trans (eq7800076 E0 a0 a1)
theorem w8050078 (a0 : List Pat) (a1 : List Pat) (a2 : List Func) (a3 : List Node) (a4 : List Func) (a5 : List Node) (m6 : List (Ty80 × Bool)) : W 8050078 [.lst 103 a0, .lst 103 a1, .clo 79 [] [.ptr 32 0 0], .agg [.ptr 33 0 0], .agg [.lst 100 a2, .lst 43 a3, .lst 100 a4, .lst 43 a5, .mref 34 0], .mpv 80 4 m6] = t8050078 E0 a0 a1 a2 a3 a4 a5 m6 :=
 (callW_eq Y0 (by rfl) Tryz.func78 _).trans (eq8050078 E0 a0 a1 a2 a3 a4 a5 m6)
theorem w8200080 (a0 : List Col) (a1 : List Col) : W 8200080 [.lst 77 a0, .lst 77 a1, .clo 81 [] []] = t8200080 E0 a0 a1 :=
 (callW_eq Y0 (by rfl) Tryz.func80 _).trans (eq8200080 E0 a0 a1)
theorem w73 (a0 : Node) : W 73 [.agg (nV a0)] = t73 E0 a0 :=
 (callW_eq Y0 (by rfl) Tryz.func73 _).trans (eq73 E0 a0)
theorem w2250082 (a0 : List Int) (a1 : List Int) (a2 : List Func) (a3 : List Node) (a4 : List Func) (a5 : List Node) (m6 : List (Ty80 × Bool)) : W 2250082 [.lst 3 a0, .lst 3 a1, .clo 21 [.ptr 32 0 0] [], .agg [.lst 100 a2, .lst 43 a3, .lst 100 a4, .lst 43 a5, .mref 33 0], .mpv 80 4 m6] = t2250082 E0 a0 a1 a2 a3 a4 a5 m6 :=
 (callW_eq Y0 (by rfl) Tryz.func82 _).trans (eq2250082 E0 a0 a1 a2 a3 a4 a5 m6)
theorem w83 (a0 : Node) : W 83 [.agg (nV a0)] = t83 E0 a0 :=
 (callW_eq Y0 (by rfl) Tryz.func83 _).trans (eq83 E0 a0)
theorem w103 (a0 : Node) : W 103 [.agg (nV a0)] = t103 E0 a0 :=
 (callW_eq Y0 (by rfl) Tryz.func103 _).trans (eq103 E0 a0)
theorem w105 (a0 : Node) : W 105 [.agg (nV a0)] = t105 E0 a0 :=
 (callW_eq Y0 (by rfl) Tryz.func105 _).trans (eq105 E0 a0)
theorem w110 (a0 : Node) : W 110 [.agg (nV a0)] = t110 E0 a0 :=
 (callW_eq Y0 (by rfl) Tryz.func110 _).trans (eq110 E0 a0)
theorem w112 (a0 : Node) : W 112 [.agg (nV a0)] = t112 E0 a0 :=
 (callW_eq Y0 (by rfl) Tryz.func112 _).trans (eq112 E0 a0)
theorem w114 (a0 : Node) : W 114 [.agg (nV a0)] = t114 E0 a0 :=
 (callW_eq Y0 (by rfl) Tryz.func114 _).trans (eq114 E0 a0)
theorem w50026 (a0 : Match) (a1 : Int) : W 50026 [.agg [.int .i64 a0.f0, .int .i64 a0.f1, .int .i64 a0.f2], .ptr 13 0 0, .agg [.int .i64 a1]] = t50026 E0 a0 a1 :=
 (callW_eq Y0 (by rfl) Tryz.func26 _).trans (eq50026 E0 a0 a1)
theorem w50090 (a0 : Int) (x1 : RReader) : W 50090 [.ptr 75 0 0, .int .u8 a0, .tup [.str x1.f0, .bool x1.f1]] = t50090 E0 a0 x1 :=
 (callW_eq Y0 (by rfl) Tryz.func90 _).trans (eq50090 E0 a0 x1)
theorem w50091 (a0 : Int) (x1 : RReader) : W 50091 [.ptr 14 0 0, .int .u8 a0, .tup [.str x1.f0, .bool x1.f1]] = t50091 E0 a0 x1 :=
 (callW_eq Y0 (by rfl) Tryz.func91 _).trans (eq50091 E0 a0 x1)
theorem w50092 (x0 : RReader) : W 50092 [.ptr 9 0 0, .tup [.str x0.f0, .bool x0.f1]] = t50092 E0 x0 :=
 (callW_eq Y0 (by rfl) Tryz.func92 _).trans (eq50092 E0 x0)
theorem w50093 (a0 : Int) (x1 : RReader) : W 50093 [.ptr 30 0 0, .int .u8 a0, .tup [.str x1.f0, .bool x1.f1]] = t50093 E0 a0 x1 :=
 (callW_eq Y0 (by rfl) Tryz.func93 _).trans (eq50093 E0 a0 x1)
theorem w94 (a0 : List Func) : W 94 [.lst 100 a0] = t94 E0 a0 :=
 (callW_eq Y0 (by rfl) Tryz.func94 _).trans (eq94 E0 a0)
theorem w95 (a0 : Int) : W 95 [.int .i64 a0] = t95 E0 a0 :=
 (callW_eq Y0 (by rfl) Tryz.func95 _).trans (eq95 E0 a0)
theorem w96 (a0 : Node) : W 96 [.agg (nV a0)] = t96 E0 a0 :=
 (callW_eq Y0 (by rfl) Tryz.func96 _).trans (eq96 E0 a0)
theorem w97 (a0 : List Func) (a1 : Node) (a2 : List Int) (a3 : List Int) : W 97 [.lst 100 a0, .agg (nV a1), .lst 3 a2, .lst 3 a3] = t97 E0 a0 a1 a2 a3 :=
 (callW_eq Y0 (by rfl) Tryz.func97 _).trans (eq97 E0 a0 a1 a2 a3)
theorem w98 (a0 : Int) : W 98 [.int .i64 a0] = t98 E0 a0 :=
 (callW_eq Y0 (by rfl) Tryz.func98 _).trans (eq98 E0 a0)
theorem w99 (a0 : List Int) (a1 : Expr) : W 99 [.lst 3 a0, .agg (eV a1)] = t99 E0 a0 a1 :=
 (callW_eq Y0 (by rfl) Tryz.func99 _).trans (eq99 E0 a0 a1)
theorem w115 (a0 : List Func) (a1 : Expr) : W 115 [.lst 100 a0, .agg (eV a1)] = t115 E0 a0 a1 :=
 (callW_eq Y0 (by rfl) Tryz.func115 _).trans (eq115 E0 a0 a1)
theorem w116 (a0 : Expr) (a1 : Expr) : W 116 [.agg (eV a0), .agg (eV a1)] = t116 E0 a0 a1 :=
 (callW_eq Y0 (by rfl) Tryz.func116 _).trans (eq116 E0 a0 a1)
theorem w50075 (a0 : Expr) (a1 : Expr) (a2 : List Func) (a3 : List Node) (a4 : List Func) (a5 : List Node) (m6 : List (Ty80 × Bool)) : W 50075 [.ptr 40 0 0, .agg (eV a0), .agg (eV a1), .agg [.lst 100 a2, .lst 43 a3, .lst 100 a4, .lst 43 a5, .mref 41 0], .mpv 80 4 m6] = t50075 E0 a0 a1 a2 a3 a4 a5 m6 :=
 (callW_eq Y0 (by rfl) Tryz.func75 _).trans (eq50075 E0 a0 a1 a2 a3 a4 a5 m6)
theorem w77 (a0 : Agg) (a1 : Agg) : W 77 [.agg [.int .i64 a0.f0, .int .i64 a0.f1, .str a0.f2], .agg [.int .i64 a1.f0, .int .i64 a1.f1, .str a1.f2]] = t77 E0 a0 a1 :=
 (callW_eq Y0 (by rfl) Tryz.func77 _).trans (eq77 E0 a0 a1)
theorem w50079 (a0 : Pat) (a1 : Pat) (a2 : List Func) (a3 : List Node) (a4 : List Func) (a5 : List Node) (m6 : List (Ty80 × Bool)) : W 50079 [.agg [.int .i64 a0.f0.f0, .int .i64 a0.f0.f1, .str a0.f0.f2, .lst 49 a0.f0.f3, .int .i64 a0.f1], .agg [.int .i64 a1.f0.f0, .int .i64 a1.f0.f1, .str a1.f0.f2, .lst 49 a1.f0.f3, .int .i64 a1.f1], .ptr 19 0 0, .agg [.ptr 20 0 0], .agg [.lst 100 a2, .lst 43 a3, .lst 100 a4, .lst 43 a5, .mref 21 0], .mpv 80 4 m6] = t50079 E0 a0 a1 a2 a3 a4 a5 m6 :=
 (callW_eq Y0 (by rfl) Tryz.func79 _).trans (eq50079 E0 a0 a1 a2 a3 a4 a5 m6)
theorem w81 (a0 : Col) (a1 : Col) : W 81 [.agg [.str a0.f0, .int .i64 a0.f1, .str a0.f2], .agg [.str a1.f0, .int .i64 a1.f1, .str a1.f2]] = t81 E0 a0 a1 :=
 (callW_eq Y0 (by rfl) Tryz.func81 _).trans (eq81 E0 a0 a1)
theorem w102 (a0 : Node) : W 102 [.agg (nV a0)] = t102 E0 a0 :=
 (callW_eq Y0 (by rfl) Tryz.func102 _).trans (eq102 E0 a0)
theorem w104 (a0 : Node) : W 104 [.agg (nV a0)] = t104 E0 a0 :=
 (callW_eq Y0 (by rfl) Tryz.func104 _).trans (eq104 E0 a0)
theorem w106 (a0 : Node) : W 106 [.agg (nV a0)] = t106 E0 a0 :=
 (callW_eq Y0 (by rfl) Tryz.func106 _).trans (eq106 E0 a0)
theorem w109 (a0 : Node) : W 109 [.agg (nV a0)] = t109 E0 a0 :=
 (callW_eq Y0 (by rfl) Tryz.func109 _).trans (eq109 E0 a0)
theorem w111 (a0 : Node) : W 111 [.agg (nV a0)] = t111 E0 a0 :=
 (callW_eq Y0 (by rfl) Tryz.func111 _).trans (eq111 E0 a0)
theorem w113 (a0 : Node) : W 113 [.agg (nV a0)] = t113 E0 a0 :=
 (callW_eq Y0 (by rfl) Tryz.func113 _).trans (eq113 E0 a0)
theorem w108 (a0 : Int) (a1 : Int) (a2 : Int) : W 108 [.int .i64 a0, .int .i64 a1, .int .i64 a2] = t108 E0 a0 a1 a2 :=
 (callW_eq Y0 (by rfl) Tryz.func108 _).trans (eq108 E0 a0 a1 a2)
theorem w122 (a0 : ByteArray) : W 122 [.str a0] = t122 E0 a0 :=
 (callW_eq Y0 (by rfl) Tryz.func122 _).trans (eq122 E0 a0)
theorem w123 (a0 : Int) : W 123 [.int .i64 a0] = t123 E0 a0 :=
 (callW_eq Y0 (by rfl) Tryz.func123 _).trans (eq123 E0 a0)
theorem w124 (a0 : List Func) (a1 : List Int) (a2 : List Int) (a3 : Expr) : W 124 [.lst 100 a0, .lst 3 a1, .lst 3 a2, .agg (eV a3)] = t124 E0 a0 a1 a2 a3 :=
 (callW_eq Y0 (by rfl) Tryz.func124 _).trans (eq124 E0 a0 a1 a2 a3)
theorem w125 (a0 : ByteArray) : W 125 [.str a0] = t125 E0 a0 :=
 (callW_eq Y0 (by rfl) Tryz.func125 _).trans (eq125 E0 a0)
theorem w126 (a0 : List Col) : W 126 [.lst 77 a0] = t126 E0 a0 :=
 (callW_eq Y0 (by rfl) Tryz.func126 _).trans (eq126 E0 a0)
theorem w127 (a0 : List Func) (a1 : List Int) (a2 : Expr) : W 127 [.lst 100 a0, .lst 3 a1, .agg (eV a2)] = t127 E0 a0 a1 a2 :=
 (callW_eq Y0 (by rfl) Tryz.func127 _).trans (eq127 E0 a0 a1 a2)
theorem w128 (a0 : List Func) (a1 : List Int) (a2 : List Int) (a3 : Expr) : W 128 [.lst 100 a0, .lst 3 a1, .lst 3 a2, .agg (eV a3)] = t128 E0 a0 a1 a2 a3 :=
 (callW_eq Y0 (by rfl) Tryz.func128 _).trans (eq128 E0 a0 a1 a2 a3)
theorem w129 (a0 : List Int) (a1 : List Int) : W 129 [.lst 3 a0, .lst 3 a1] = t129 E0 a0 a1 :=
 (callW_eq Y0 (by rfl) Tryz.func129 _).trans (eq129 E0 a0 a1)
theorem w130 (a0 : List Int) (a1 : List Int) : W 130 [.lst 3 a0, .lst 3 a1] = t130 E0 a0 a1 :=
 (callW_eq Y0 (by rfl) Tryz.func130 _).trans (eq130 E0 a0 a1)
theorem w133 (a0 : Expr) (a1 : List Expr) (a2 : List Bool) : W 133 [.agg (eV a0), .lst 49 a1, .lst 4 a2] = t133 E0 a0 a1 a2 :=
 (callW_eq Y0 (by rfl) Tryz.func133 _).trans (eq133 E0 a0 a1 a2)
theorem w100 (a0 : List Func) (a1 : Expr) : W 100 [.lst 100 a0, .agg (eV a1)] = t100 E0 a0 a1 :=
 (callW_eq Y0 (by rfl) Tryz.func100 _).trans (eq100 E0 a0 a1)
theorem w101 (a0 : Expr) (a1 : Expr) : W 101 [.agg (eV a0), .agg (eV a1)] = t101 E0 a0 a1 :=
 (callW_eq Y0 (by rfl) Tryz.func101 _).trans (eq101 E0 a0 a1)
theorem w107 (a0 : Node) : W 107 [.agg (nV a0)] = t107 E0 a0 :=
 (callW_eq Y0 (by rfl) Tryz.func107 _).trans (eq107 E0 a0)
theorem w145 (a0 : List Func) (a1 : List Int) (a2 : List Int) (a3 : Expr) : W 145 [.lst 100 a0, .lst 3 a1, .lst 3 a2, .agg (eV a3)] = t145 E0 a0 a1 a2 a3 :=
 (callW_eq Y0 (by rfl) Tryz.func145 _).trans (eq145 E0 a0 a1 a2 a3)
theorem w146 (a0 : ByteArray) : W 146 [.str a0] = t146 E0 a0 :=
 (callW_eq Y0 (by rfl) Tryz.func146 _).trans (eq146 E0 a0)
theorem w147 (a0 : List Col) (a1 : ByteArray) : W 147 [.lst 77 a0, .str a1] = t147 E0 a0 a1 :=
 (callW_eq Y0 (by rfl) Tryz.func147 _).trans (eq147 E0 a0 a1)
theorem w148 (a0 : Int) : W 148 [.int .i64 a0] = t148 E0 a0 :=
 (callW_eq Y0 (by rfl) Tryz.func148 _).trans (eq148 E0 a0)
theorem w152 (a0 : Expr) (a1 : Int) (a2 : List Expr) : W 152 [.agg (eV a0), .int .i64 a1, .lst 49 a2] = t152 E0 a0 a1 a2 :=
 (callW_eq Y0 (by rfl) Tryz.func152 _).trans (eq152 E0 a0 a1 a2)
theorem w131 (a0 : Expr) (a1 : List Body) : W 131 [.agg (eV a0), .lst 152 a1] = t131 E0 a0 a1 :=
 (callW_eq Y0 (by rfl) Tryz.func131 _).trans (eq131 E0 a0 a1)
theorem w132 (a0 : Expr) : W 132 [.agg (eV a0)] = t132 E0 a0 :=
 (callW_eq Y0 (by rfl) Tryz.func132 _).trans (eq132 E0 a0)
theorem w10200074 (a0 : List Expr) (a1 : List Expr) : W 10200074 [.lst 49 a0, .lst 49 a1, .clo 101 [] []] = t10200074 E0 a0 a1 :=
 (callW_eq Y0 (by rfl) Tryz.func74 _).trans (eq10200074 E0 a0 a1)
theorem w161 (a0 : List Func) (a1 : Int) (a2 : List Int) : W 161 [.lst 100 a0, .int .i64 a1, .lst 3 a2] = t161 E0 a0 a1 a2 :=
 (callW_eq Y0 (by rfl) Tryz.func161 _).trans (eq161 E0 a0 a1 a2)
theorem w162 (a0 : Int) : W 162 [.int .i64 a0] = t162 E0 a0 :=
 (callW_eq Y0 (by rfl) Tryz.func162 _).trans (eq162 E0 a0)
theorem w163 (a0 : List Int) (a1 : Int) : W 163 [.lst 3 a0, .int .i64 a1] = t163 E0 a0 a1 :=
 (callW_eq Y0 (by rfl) Tryz.func163 _).trans (eq163 E0 a0 a1)
theorem w164 (a0 : ByteArray) : W 164 [.str a0] = t164 E0 a0 :=
 (callW_eq Y0 (by rfl) Tryz.func164 _).trans (eq164 E0 a0)
theorem w166 (a0 : Expr) : W 166 [.agg (eV a0)] = t166 E0 a0 :=
 (callW_eq Y0 (by rfl) Tryz.func166 _).trans (eq166 E0 a0)
theorem w149 (a0 : Expr) (a1 : Int) (a2 : List Expr) : W 149 [.agg (eV a0), .int .i64 a1, .lst 49 a2] = t149 E0 a0 a1 a2 :=
 (callW_eq Y0 (by rfl) Tryz.func149 _).trans (eq149 E0 a0 a1 a2)
theorem w15250150 (a0 : Expr) (x1 : Int) : W 15250150 [.agg (eV a0), .clo 151 [] [.ptr 20 0 0], .tup [.int .i64 x1]] = t15250150 E0 a0 x1 :=
 (callW_eq Y0 (by rfl) Tryz.func150 _).trans (eq15250150 E0 a0 x1)
theorem w165 (a0 : Expr) : W 165 [.agg (eV a0)] = t165 E0 a0 :=
 (callW_eq Y0 (by rfl) Tryz.func165 _).trans (eq165 E0 a0)
theorem w50151 (a0 : Expr) (x1 : Int) : W 50151 [.agg (eV a0), .ptr 5 0 0, .tup [.int .i64 x1]] = t50151 E0 a0 x1 :=
 (callW_eq Y0 (by rfl) Tryz.func151 _).trans (eq50151 E0 a0 x1)
end Go.Fw.S1
