import Derived.Test.YtmogfjfdbbggcaaGreatDoorPc
set_option linter.all false
set_option linter.unusedVariables false
set_option maxHeartbeats 1000000
set_option maxRecDepth 100000
namespace Go.Fw.S1
open Go.Proofs
theorem bx {a b : ByteArray} (h : a.data.toList = b.data.toList) : a = b := by
 cases a; cases b
 simp only [ByteArray.mk.injEq]
 exact Array.toList_inj.1 h
theorem bapp (a b : ByteArray) : (a ++ b).data.toList = a.data.toList ++ b.data.toList := by
 simp [ByteArray.data_append]
theorem bsz (a : ByteArray) : a.size = a.data.toList.length := Lib.size_eq a
def digB (u : Nat) : ByteArray := ⟨(Lib.decDigits u).toArray⟩
theorem digB_list (u : Nat) : (digB u).data.toList = Lib.decDigits u := by simp [digB]
theorem itoaB_list (n : Int) : (itoaB n).data.toList = Lib.itoa n := by simp [itoaB]
theorem itoaB_nn (u : Nat) : itoaB (u : Int) = digB u := bx (by rw [itoaB_list, digB_list, Lib.itoa_nonneg])
theorem itoaB_neg (u : Nat) (h : 1 ≤ u) : itoaB (-(u : Int)) = (⟨#[45]⟩ : ByteArray) ++ digB u := bx (by rw [itoaB_list, bapp, digB_list, Lib.itoa_neg u h]; rfl)
theorem nDigits_le : ∀ (k u : Nat), 1 ≤ k → u < 10 ^ k → Lib.nDigits u ≤ k := by
 intro k
 induction k with
 | zero => intro u h; omega
 | succ k ih =>
  intro u _ hu
  by_cases h : u < 10
  ·rw [Lib.nDigits_small h]; omega
  ·rw [Lib.nDigits_big h]
   have hk : 1 ≤ k := by
    rcases Nat.eq_zero_or_pos k with rfl | h'
    ·simp at hu; omega
    ·exact h'
   have := ih (u / 10) hk (by rw [Nat.pow_succ] at hu; omega)
   omega
theorem digB_size (u : Nat) (hu : u ≤ 9223372036854775808) : 1 ≤ (digB u).size ∧ (digB u).size ≤ 19 := by
 rw [bsz, digB_list, Lib.decDigits_length]
 exact ⟨Lib.nDigits_pos u, nDigits_le 19 u (by omega) (by omega)⟩
theorem itoaB_size (n : Int) (h : -9223372036854775808 ≤ n ∧ n ≤ 9223372036854775807) : 1 ≤ (itoaB n).size ∧ (itoaB n).size ≤ 20 := by
 by_cases h0 : 0 ≤ n
 ·obtain ⟨u, rfl⟩ := Int.eq_ofNat_of_zero_le h0
  have := digB_size u (by omega)
  rw [show itoaB (u : Int) = digB u from itoaB_nn u]
  omega
 ·have hn : n = -((n.natAbs : Nat) : Int) := by omega
  have := digB_size n.natAbs (by omega)
  have e : (⟨#[45]⟩ : ByteArray).size = 1 := rfl
  rw [hn, itoaB_neg _ (by omega), bsz, bapp, List.length_append, ← bsz, ← bsz, e]
  omega
theorem w57_ok (n : Int) (h : -9223372036854775808 ≤ n ∧ n ≤ 9223372036854775807) : W 57 [.int .i64 n] = (some (itoaB n, ()) : Option (ByteArray × Unit)) := by
 rw [w57]
 unfold ans57
 have := itoaB_size n h
 rw [if_pos (by omega)]
theorem byteStr_one (x : Int) : (byteStr [x]).data.toList = [UInt8.ofNat x.toNat] := rfl
theorem w64_ok : ∀ u : Nat, u ≤ 9223372036854775808 → W 64 [.int .i64 (-(u : Int))] = (some (digB u, ()) : Option (ByteArray × Unit)) := by
 intro u
 induction u using Nat.strongRecOn with
 | _ u ih =>
  intro hu
  rw [w64]
  unfold t64
  rw [E0_C]
  have htm : (-(u : Int)).tmod 10 = -((u % 10 : Nat) : Int) := by
   rw [Int.neg_tmod]; rfl
  have htd : (-(u : Int)).tdiv 10 = -((u / 10 : Nat) : Int) := by
   rw [Int.neg_tdiv]; rfl
  have hd : wrapK .u8 (wrapK .i64 ((48 : Int) - (-(u : Int)).tmod 10)) = ((48 + u % 10 : Nat) : Int) := by
   rw [htm, wrapK_id (by omega) (by omega)]
   unfold wrapK
   simp only [IntKind.wrap, IntKind.signed, IntKind.bits]
   simp
   omega
  have hone : (byteStr ([((48 + u % 10 : Nat) : Int)] : List Int)).data.toList = [UInt8.ofNat (48 + u % 10)] := by
   rw [byteStr_one, Int.toNat_natCast]
  rw [hd]
  by_cases h : u < 10
  ·rw [show decide ((-10 : Int) < -(u : Int)) = true from decide_eq_true (by omega), cond_true]
   have : byteStr ([((48 + u % 10 : Nat) : Int)] : List Int) = digB u := bx (by rw [hone, digB_list, Lib.decDigits, dif_pos h, Nat.mod_eq_of_lt h])
   rw [this]
  ·rw [show decide ((-10 : Int) < -(u : Int)) = false from decide_eq_false (by omega), cond_false]
   rw [htd, wrapK_id (by omega) (by omega)]
   refine Ok.eq (Ok.bind ⟨_, ih (u / 10) (by omega) (by omega), rfl⟩ ?_)
   rintro r rfl
   dsimp only
   have hs : (byteStr ([((48 + u % 10 : Nat) : Int)] : List Int)).size = 1 := by rw [bsz, hone]; rfl
   have hs2 := digB_size (u / 10) (by omega)
   rw [show decide ((digB (u / 10)).size + (byteStr ([((48 + u % 10 : Nat) : Int)] : List Int)).size ≤ 9223372036854775807) = true from decide_eq_true (by omega), cond_true]
   have : digB (u / 10) ++ byteStr ([((48 + u % 10 : Nat) : Int)] : List Int) = digB u := bx (by rw [bapp, hone, digB_list, digB_list]; conv => rhs; rw [Lib.decDigits, dif_neg h])
   rw [this]
   exact Ok.pure rfl
def intB (n : Int) : ByteArray := itoaB n ++ (⟨#[59]⟩ : ByteArray)
theorem sz59 : (⟨#[59]⟩ : ByteArray).size = 1 := rfl
theorem sz58 : (⟨#[58]⟩ : ByteArray).size = 1 := rfl
theorem sz44 : (⟨#[44]⟩ : ByteArray).size = 1 := rfl
theorem sz45 : (⟨#[45]⟩ : ByteArray).size = 1 := rfl
theorem bszapp (a b : ByteArray) : (a ++ b).size = a.size + b.size := by rw [bsz, bapp, List.length_append, ← bsz, ← bsz]
theorem w34_ok (n : Int) (h : -9223372036854775808 ≤ n ∧ n ≤ 9223372036854775807) : W 34 [.int .i64 n] = (some (intB n, ()) : Option (ByteArray × Unit)) := by
 rw [w34]
 unfold t34
 rw [E0_C]
 have := itoaB_size n h
 refine Ok.eq (Ok.bind ⟨_, w57_ok n h, rfl⟩ ?_)
 rintro r rfl
 dsimp only
 rw [show decide ((itoaB n).size + (⟨#[59]⟩ : ByteArray).size ≤ 9223372036854775807) = true from decide_eq_true (by rw [sz59]; omega), cond_true]
 exact Ok.pure rfl
theorem w38_ok (n : Int) (h : -9223372036854775808 ≤ n ∧ n ≤ 9223372036854775807) : W 38 [.int .i64 n] = (some (intB n, ()) : Option (ByteArray × Unit)) := by
 rw [w38]
 unfold t38
 rw [E0_C]
 by_cases h0 : n < 0
 ·rw [show decide (n < (0 : Int)) = true from decide_eq_true h0, cond_true]
  have hn : n = -((n.natAbs : Nat) : Int) := by omega
  have hs := digB_size n.natAbs (by omega)
  have h64 := w64_ok n.natAbs (by omega)
  rw [← hn] at h64
  refine Ok.eq (Ok.bind ⟨_, h64, rfl⟩ ?_)
  rintro r rfl
  dsimp only
  rw [show decide ((⟨#[45]⟩ : ByteArray).size + (digB n.natAbs).size ≤ 9223372036854775807) = true from decide_eq_true (by rw [sz45]; omega), cond_true]
  rw [show decide (((⟨#[45]⟩ : ByteArray) ++ (digB n.natAbs)).size + (⟨#[59]⟩ : ByteArray).size ≤ 9223372036854775807) = true from decide_eq_true (by rw [bszapp, sz45, sz59]; omega), cond_true]
  have : intB n = (⟨#[45]⟩ : ByteArray) ++ digB n.natAbs ++ (⟨#[59]⟩ : ByteArray) := by
   unfold intB
   rw [← itoaB_neg n.natAbs (by omega), ← hn]
  rw [this]
  exact Ok.pure rfl
 ·rw [show decide (n < (0 : Int)) = false from decide_eq_false h0, cond_false]
  obtain ⟨u, rfl⟩ := Int.eq_ofNat_of_zero_le (show 0 ≤ n by omega)
  have hs := digB_size u (by omega)
  rw [show wrapK .i64 (0 - (u : Int)) = -(u : Int) from by rw [wrapK_id (by omega) (by omega)]; omega]
  refine Ok.eq (Ok.bind ⟨_, w64_ok u (by omega), rfl⟩ ?_)
  rintro r rfl
  dsimp only
  rw [show decide ((digB u).size + (⟨#[59]⟩ : ByteArray).size ≤ 9223372036854775807) = true from decide_eq_true (by rw [sz59]; omega), cond_true]
  have : intB (u : Int) = digB u ++ (⟨#[59]⟩ : ByteArray) := by unfold intB; rw [itoaB_nn u]
  rw [this]
  exact Ok.pure rfl
theorem w35_ok (n : Int) (h0 : 0 ≤ n) (h : n ≤ 9223372036854775807) : W 35 [.int .i64 n] = (some (intB n, ()) : Option (ByteArray × Unit)) := by
 rw [w35]
 unfold t35
 rw [E0_C, show decide (n < (0 : Int)) = false from decide_eq_false (by omega), cond_false]
 refine Ok.eq (Ok.bind ⟨_, w34_ok n ⟨by omega, h⟩, rfl⟩ ?_)
 rintro r rfl
 exact Ok.pure rfl
theorem w39_ok (n : Int) (h0 : 0 ≤ n) (h : n ≤ 9223372036854775807) : W 39 [.int .i64 n] = (some (intB n, ()) : Option (ByteArray × Unit)) := by
 rw [w39]
 unfold t39
 rw [E0_C, show decide (n < (0 : Int)) = false from decide_eq_false (by omega), cond_false]
 refine Ok.eq (Ok.bind ⟨_, w38_ok n ⟨by omega, h⟩, rfl⟩ ?_)
 rintro r rfl
 exact Ok.pure rfl
def textB (s : ByteArray) : ByteArray := itoaB (s.size : Int) ++ (⟨#[58]⟩ : ByteArray) ++ s ++ (⟨#[44]⟩ : ByteArray)
theorem textB_size (s : ByteArray) (h : s.size ≤ 1099511627776) : (textB s).size ≤ s.size + 22 := by
 have := itoaB_size (s.size : Int) (by omega)
 unfold textB
 rw [bszapp, bszapp, bszapp, sz58, sz44]
 omega
theorem w36_ok (s : ByteArray) (h : s.size ≤ 1099511627776) : W 36 [.str s] = (some (textB s, ()) : Option (ByteArray × Unit)) := by
 rw [w36]
 unfold t36
 have hs := itoaB_size (s.size : Int) (by omega)
 rw [E0_C]
 refine Ok.eq (Ok.bind ⟨_, w57_ok _ (by omega), rfl⟩ ?_)
 rintro r rfl
 dsimp only
 rw [show decide ((itoaB (s.size : Int)).size + (⟨#[58]⟩ : ByteArray).size ≤ 9223372036854775807) = true from decide_eq_true (by rw [sz58]; omega), cond_true]
 rw [show decide ((itoaB (s.size : Int) ++ (⟨#[58]⟩ : ByteArray)).size + s.size ≤ 9223372036854775807) = true from decide_eq_true (by rw [bszapp, sz58]; omega), cond_true]
 rw [show decide ((itoaB (s.size : Int) ++ (⟨#[58]⟩ : ByteArray) ++ s).size + (⟨#[44]⟩ : ByteArray).size ≤ 9223372036854775807) = true from decide_eq_true (by rw [bszapp, bszapp, sz58, sz44]; omega), cond_true]
 exact Ok.pure rfl
theorem w40_ok (s : ByteArray) (h : s.size ≤ 1099511627776) : W 40 [.str s] = (some (textB s, ()) : Option (ByteArray × Unit)) := by
 rw [w40]
 unfold t40
 have hs := itoaB_size (s.size : Int) (by omega)
 rw [E0_C, show wrapK .i64 (0 - (s.size : Int)) = -(s.size : Int) from by rw [wrapK_id (by omega) (by omega)]; omega]
 have h64 := w64_ok s.size (by omega)
 rw [← itoaB_nn] at h64
 refine Ok.eq (Ok.bind ⟨_, h64, rfl⟩ ?_)
 rintro r rfl
 dsimp only
 rw [show decide ((itoaB (s.size : Int)).size + (⟨#[58]⟩ : ByteArray).size ≤ 9223372036854775807) = true from decide_eq_true (by rw [sz58]; omega), cond_true]
 rw [show decide ((itoaB (s.size : Int) ++ (⟨#[58]⟩ : ByteArray)).size + s.size ≤ 9223372036854775807) = true from decide_eq_true (by rw [bszapp, sz58]; omega), cond_true]
 rw [show decide ((itoaB (s.size : Int) ++ (⟨#[58]⟩ : ByteArray) ++ s).size + (⟨#[44]⟩ : ByteArray).size ≤ 9223372036854775807) = true from decide_eq_true (by rw [bszapp, bszapp, sz58, sz44]; omega), cond_true]
 exact Ok.pure rfl
end Go.Fw.S1
set_option linter.unusedVariables false
set_option maxHeartbeats 1000000
set_option maxRecDepth 100000
namespace Go.Fw.S1
open Go.Proofs
def isDig (c : UInt8) : Prop := 48 ≤ c.toNat ∧ c.toNat ≤ 57
def dstep (a : Nat) (c : UInt8) : Nat := a * 10 + (c.toNat - 48)
def valD (acc : Nat) (l : List UInt8) : Nat := l.foldl dstep acc
theorem valD_cons (acc : Nat) (c : UInt8) (l : List UInt8) : valD acc (c :: l) = valD (dstep acc c) l := by unfold valD; rw [List.foldl_cons]
theorem valD_nil (acc : Nat) : valD acc [] = acc := rfl
theorem valD_app (a b : List UInt8) (acc : Nat) : valD acc (a ++ b) = valD (valD acc a) b := List.foldl_append
theorem valD_ge (l : List UInt8) : ∀ acc, acc ≤ valD acc l := by
 induction l with
 | nil => intro acc; exact Nat.le_refl _
 | cons c l ih =>
  intro acc
  rw [valD_cons]
  exact Nat.le_trans (by unfold dstep; omega) (ih _)
theorem dig_nat (d : Nat) (h : d < 10) : (UInt8.ofNat (48 + d)).toNat = 48 + d := by
 rw [UInt8.toNat_ofNat']; omega
theorem decDigits_spec : ∀ u : Nat, (∀ c, c ∈ Lib.decDigits u → isDig c) ∧ valD 0 (Lib.decDigits u) = u := by
 intro u
 induction u using Nat.strongRecOn with
 | _ u ih =>
  rw [Lib.decDigits]
  by_cases h : u < 10
  ·rw [dif_pos h]
   refine ⟨fun c hc => ?_, ?_⟩
   ·simp only [List.mem_singleton] at hc
    subst hc
    unfold isDig
    rw [dig_nat u h]; omega
   ·rw [valD_cons, valD_nil]
    unfold dstep
    rw [dig_nat u h]; omega
  ·rw [dif_neg h]
   obtain ⟨h1, h2⟩ := ih (u / 10) (by omega)
   refine ⟨fun c hc => ?_, ?_⟩
   ·rcases List.mem_append.1 hc with hc | hc
    ·exact h1 c hc
    ·simp only [List.mem_singleton] at hc
     subst hc
     unfold isDig
     rw [dig_nat (u % 10) (by omega)]; omega
   ·rw [valD_app, h2]
    rw [valD_cons, valD_nil]
    unfold dstep
    rw [dig_nat (u % 10) (by omega)]; omega
theorem parseUint_dig : ∀ (l : List UInt8) (acc : Nat), (∀ c, c ∈ l → isDig c) → valD acc l < 18446744073709551616 → Lib.parseUint10 acc l = .ok (valD acc l) := by
 intro l
 induction l with
 | nil => intro acc _ _; rfl
 | cons c l ih =>
  intro acc hd hv
  have hc := hd c (by simp)
  have hge := valD_ge l (dstep acc c)
  rw [valD_cons] at hv ⊢
  have hst : dstep acc c = acc * 10 + (c.toNat - 48) := rfl
  unfold isDig at hc
  rw [Lib.parseUint10, if_pos hc, if_neg (by omega), if_neg (by omega), ← hst]
  exact ih _ (fun c hc => hd c (by simp [hc])) hv
theorem decDigits_ne (u : Nat) : ∃ c r, Lib.decDigits u = c :: r ∧ isDig c := by
 have h := (decDigits_spec u).1
 have hl := Lib.decDigits_length u
 have hp := Lib.nDigits_pos u
 cases hd : Lib.decDigits u with
 | nil => rw [hd] at hl; simp at hl; omega
 | cons c r => exact ⟨c, r, rfl, h c (by rw [hd]; simp)⟩
theorem atoi_itoa (m : Int) (h : -9223372036854775808 ≤ m ∧ m ≤ 9223372036854775807) : Lib.atoiAll (Lib.itoa m) = .ok m := by
 have par : ∀ u : Nat, u ≤ 9223372036854775808 → Lib.parseMag (Lib.decDigits u) = .ok u := fun u hu => by
  obtain ⟨c, r, hcr, _⟩ := decDigits_ne u
  obtain ⟨h1, h2⟩ := decDigits_spec u
  unfold Lib.parseMag
  rw [if_neg (by rw [hcr]; simp), parseUint_dig _ _ h1 (by rw [h2]; omega), h2]
 by_cases h0 : 0 ≤ m
 ·obtain ⟨u, rfl⟩ := Int.eq_ofNat_of_zero_le h0
  rw [Lib.itoa_nonneg]
  have hp := par u (by omega)
  obtain ⟨c, r, hcr, hd⟩ := decDigits_ne u
  rw [hcr] at hp ⊢
  unfold isDig at hd
  unfold Lib.atoiAll
  simp only
  rw [if_neg (by omega), hp]
  simp only
  rw [if_neg (by omega), if_neg (by omega), if_neg (by omega)]
 ·have hn : m = -((m.natAbs : Nat) : Int) := by omega
  have hp := par m.natAbs (by omega)
  rw [hn, Lib.itoa_neg _ (by omega)]
  unfold Lib.atoiAll
  simp only
  rw [if_pos (by right; rfl), hp]
  simp only
  rw [if_neg (by intro hh; exact hh.1 rfl), if_neg (by omega), if_pos (by rfl)]
theorem wrapK_rng (n : Int) : -9223372036854775808 ≤ wrapK .i64 n ∧ wrapK .i64 n ≤ 9223372036854775807 := by
 unfold wrapK
 simp only [IntKind.wrap, IntKind.signed, IntKind.bits]
 simp
 omega
theorem wrap_step (V d : Nat) : wrapK .i64 (wrapK .i64 (10 * wrapK .i64 (-(V : Int))) - (d : Int)) = wrapK .i64 (-((V * 10 + d : Nat) : Int)) := by
 unfold wrapK
 simp only [IntKind.wrap, IntKind.signed, IntKind.bits]
 simp
 omega
theorem wrap_neg (V : Int) : wrapK .i64 (0 - wrapK .i64 (-V)) = wrapK .i64 V := by
 unfold wrapK
 simp only [IntKind.wrap, IntKind.signed, IntKind.bits]
 simp
 omega
theorem wrap_dig {c : UInt8} (h : isDig c) : wrapK .i64 (wrapK .u8 ((c.toNat : Int) - (48 : Int))) = ((c.toNat - 48 : Nat) : Int) := by
 unfold isDig at h
 have h1 : wrapK .u8 ((c.toNat : Int) - (48 : Int)) = (c.toNat : Int) - 48 := by
  unfold wrapK
  simp only [IntKind.wrap, IntKind.signed, IntKind.bits]
  simp
  omega
 rw [h1, wrapK_id (by omega) (by omega)]
 omega
theorem getD_byte {s : ByteArray} {i : Nat} (h : i < s.data.toList.length) : s.data.getD i 0 = s.data.toList[i] := by
 have h' : i < s.data.size := by simpa using h
 rw [Array.getD_eq_getD_getElem?, Array.getElem?_eq_getElem h']
 simp
abbrev Rng (n : Int) : Prop := -9223372036854775808 ≤ n ∧ n ≤ 9223372036854775807
def BackP (s : ByteArray) (r : (Int × Bool) × Unit) : Prop := (r.1.2 = true → Rng r.1.1 ∧ s = itoaB r.1.1) ∧ ∀ m, Rng m → s = itoaB m → r = ((m, true), ())
theorem intB_inj {n : Int} {s : ByteArray} (h : ((intB n).toList == (s ++ (⟨#[59]⟩ : ByteArray)).toList) = true) : s = itoaB n := by
 have h := eq_of_beq h
 rw [Lib.toList_data, Lib.toList_data] at h
 unfold intB at h
 rw [bapp, bapp] at h
 exact bx (List.append_cancel_right h).symm
theorem backP_end {s : ByteArray} {v : Int} (hv : Rng v) (hm : ∀ m, Rng m → s = itoaB m → v = m) : BackP s ((v, ((intB v).toList == (s ++ (⟨#[59]⟩ : ByteArray)).toList)), ()) := by
 refine ⟨fun h => ⟨hv, intB_inj h⟩, fun m hr hs => ?_⟩
 have := hm m hr hs
 subst this
 subst hs
 have : ((intB v).toList == (itoaB v ++ (⟨#[59]⟩ : ByteArray)).toList) = true := by unfold intB; exact beq_self_eq_true _
 rw [this]
theorem backP_no {s : ByteArray} (hm : ∀ m, Rng m → s = itoaB m → False) : BackP s ((0, false), ()) := ⟨fun h => (by cases h), fun m h1 h2 => (hm m h1 h2).elim⟩
def negH (s : ByteArray) : Bool := match s.data.toList with
 | [] => false
 | c :: _ => c.toNat == 45
theorem itoa_head {s : ByteArray} {m : Int} (hs : s = itoaB m) : (0 ≤ m ∧ negH s = false ∧ s.data.toList = Lib.decDigits m.toNat) ∨ (m < 0 ∧ negH s = true ∧ s.data.toList = 45 :: Lib.decDigits m.natAbs) := by
 subst hs
 by_cases h0 : 0 ≤ m
 ·left
  obtain ⟨u, rfl⟩ := Int.eq_ofNat_of_zero_le h0
  have hl : (itoaB (u : Int)).data.toList = Lib.decDigits u := by rw [itoaB_list, Lib.itoa_nonneg]
  refine ⟨h0, ?_, by rw [hl]; simp⟩
  unfold negH
  rw [hl]
  obtain ⟨c, r, hcr, hd⟩ := decDigits_ne u
  rw [hcr]
  unfold isDig at hd
  simp only [beq_eq_false_iff_ne, ne_eq]
  omega
 ·right
  have hn : m = -((m.natAbs : Nat) : Int) := by omega
  have hl : (itoaB m).data.toList = 45 :: Lib.decDigits m.natAbs := by
   rw [itoaB_list]
   conv => lhs; rw [hn]
   exact Lib.itoa_neg _ (by omega)
  refine ⟨by omega, ?_, hl⟩
  unfold negH
  rw [hl]
  rfl
theorem itoa_dig {s : ByteArray} {m : Int} (hs : s = itoaB m) {fr : Bool} (hfr : negH s = fr) (j : Nat) (h : j < s.data.toList.length) (hj : (bif fr then 1 else 0) ≤ j) : isDig s.data.toList[j] := by
 rcases itoa_head hs with ⟨h0, h1, h2⟩ | ⟨h0, h1, h2⟩
 ·exact (decDigits_spec m.toNat).1 _ (by rw [← h2]; exact List.getElem_mem h)
 ·have hfr' : fr = true := by rw [← hfr, h1]
  subst hfr'
  simp only [cond_true] at hj
  have : s.data.toList[j] ∈ Lib.decDigits m.natAbs := by
   cases j with
   | zero => omega
   | succ j =>
    simp only [h2, List.getElem_cons_succ]
    exact List.getElem_mem _
  exact (decDigits_spec _).1 _ this
theorem itoa_val1 {s : ByteArray} {m : Int} (hs : s = itoaB m) (hfr : negH s = true) : valD 0 (s.data.toList.drop 1) = m.natAbs := by
 rcases itoa_head hs with ⟨h0, h1, h2⟩ | ⟨h0, h1, h2⟩
 ·rw [h1] at hfr; cases hfr
 ·rw [h2]; exact (decDigits_spec _).2
theorem itoa_sign1 {s : ByteArray} {m : Int} (hs : s = itoaB m) (hfr : negH s = true) : m < 0 := by
 rcases itoa_head hs with ⟨h0, h1, h2⟩ | ⟨h0, h1, h2⟩
 ·rw [h1] at hfr; cases hfr
 ·exact h0
theorem itoa_val0 {s : ByteArray} {m : Int} (hs : s = itoaB m) (hfr : negH s = false) : 0 ≤ m ∧ valD 0 s.data.toList = m.toNat := by
 rcases itoa_head hs with ⟨h0, h1, h2⟩ | ⟨h0, h1, h2⟩
 ·exact ⟨h0, by rw [h2]; exact (decDigits_spec _).2⟩
 ·rw [h1] at hfr; cases hfr
theorem w122_ok (s : ByteArray) (hss : s.size ≤ 2097152) : Ok (W 122 [.str s]) (BackP s) := by
 rw [w122 s]
 unfold t122
 rw [E0_C, E0_lp]
 have hsz := bsz s
 have hdec : decide (s.size + (⟨#[59]⟩ : ByteArray).size ≤ 9223372036854775807) = true := decide_eq_true (by rw [sz59]; omega)
 rw [hsz] at hss
 have hng : (bif decide ((0 : Int) < (s.size : Int)) then ((((s.data.getD 0 0).toNat : Int) == (45 : Int))) else false) = negH s := by
  rw [hsz]
  unfold negH
  cases hl : s.data.toList with
  | nil => rfl
  | cons c r =>
   have h0 : 0 < s.data.toList.length := by rw [hl]; simp
   rw [getD_byte h0]
   simp only [hl, List.getElem_cons_zero, List.length_cons]
   rw [show decide ((0 : Int) < ((r.length + 1 : Nat) : Int)) = true from decide_eq_true (by omega), cond_true]
   by_cases hc : c.toNat = 45
   ·rw [hc]; rfl
   ·rw [show (((c.toNat : Int)) == (45 : Int)) = false from by simp; omega, show (c.toNat == 45) = false from by simpa using hc]
 rw [hng]
 have hb : impB (decide (0 ≤ (0 : Int)) && decide ((0 : Int) < (s.size : Int))) (decide ((0 : Int) < (s.size : Int))) = true := by
  cases decide ((0 : Int) < (s.size : Int)) <;> rfl
 rw [hb, cond_true]
 have hpos : negH s = true → 1 ≤ s.data.toList.length := fun h => by
  unfold negH at h
  cases hl : s.data.toList with
  | nil => rw [hl] at h; cases h
  | cons c r => simp
 refine Ok.bif (fun hfr => ?_) (fun hfr => ?_)
 ·-- from = 1
  have hfs : 1 ≤ s.data.toList.length := hpos hfr
  refine Ok.after (Ok.range (s.data.toList.length - 1) (fun k v => ∃ z1 z2, (∀ j (h : j < s.data.toList.length), 1 ≤ j → j < 1 + k → isDig s.data.toList[j]) ∧ v = ((s, z1, z2, (1 : Int), wrapK .i64 (-((valD 0 ((s.data.toList.drop 1).take k) : Nat) : Int)), ((1 + k : Nat) : Int), ()), ())) ?_ ?_ _ ⟨_, _, fun j h h1 h2 => by omega, rfl⟩)
  ·rintro k v hk ⟨z1, z2, hj, rfl⟩
   dsimp only
   have hi : 1 + k < s.data.toList.length := by omega
   rw [hsz]
   simp only [ltb hi, nnb, Bool.and_true, cond_true, Int.toNat_natCast, getD_byte hi, impT]
   refine Ok.bif (fun h => ?_) (fun h => ?_)
   ·refine ⟨_, rfl, ?_⟩
    refine backP_no fun m hr hs => ?_
    rcases orb h with h | h
    ·have hnd : ¬ isDig s.data.toList[1 + k] := by
      unfold isDig
      rcases orb h with h | h <;> simp only [decide_eq_true_eq] at h <;> omega
     exact hnd (itoa_dig hs hfr _ hi (by first | (simp only [cond_true]; omega) | (simp only [cond_false]; omega)))
    ·simp only [decide_eq_true_eq] at h
     have := itoaB_size m hr
     rw [← hs, bsz] at this
     omega
   ·obtain ⟨h, h20⟩ := norb h
    obtain ⟨h1, h2⟩ := norb h
    simp only [decide_eq_false_iff_not] at h1 h2 h20
    have hd : isDig s.data.toList[1 + k] := by unfold isDig; omega
    rw [wrap_dig hd, wrap_step]
    simp only [wrapK_succ hi (by omega)]
    refine Ok.pure ⟨z1, z2, fun j h hj1 hj2 => ?_, ?_⟩
    ·by_cases hjk : j = 1 + k
     ·subst hjk; exact hd
     ·exact hj j h hj1 (by omega)
    ·have : (s.data.toList.drop 1).take (k + 1) = (s.data.toList.drop 1).take k ++ [s.data.toList[1 + k]] := by
      rw [take_succ (by simp; omega), List.getElem_drop]
     rw [this, valD_app]
     rfl
  ·rintro v ⟨z1, z2, hj, rfl⟩
   dsimp only
   rw [hsz, show 1 + (s.data.toList.length - 1) = s.data.toList.length from by omega]
   rw [geb (Nat.le_refl _), cond_false]
   refine Ok.pure ?_
   dsimp only
   have htake : (s.data.toList.drop 1).take (s.data.toList.length - 1) = s.data.toList.drop 1 := List.take_of_length_le (by simp)
   rw [htake]
   simp only [show ((1 : Int) == (0 : Int)) = false from rfl, cond_false]
   refine Ok.bind ⟨_, w38_ok _ (wrapK_rng _), rfl⟩ ?_
   rintro r rfl
   dsimp only
   rw [hdec, cond_true]
   refine Ok.pure ?_
   refine backP_end (wrapK_rng _) fun m hr hs => ?_
   have := itoa_val1 hs (by simpa using hfr)
   rw [this, show (-((m.natAbs : Nat) : Int)) = m from by have := itoa_sign1 hs (by simpa using hfr); omega]
   exact wrapK_id hr.1 hr.2
 ·-- from = 0
  have hfs : 0 ≤ s.data.toList.length := by omega
  refine Ok.after (Ok.range (s.data.toList.length - 0) (fun k v => ∃ z1 z2, (∀ j (h : j < s.data.toList.length), 0 ≤ j → j < 0 + k → isDig s.data.toList[j]) ∧ v = ((s, z1, z2, (0 : Int), wrapK .i64 (-((valD 0 ((s.data.toList.drop 0).take k) : Nat) : Int)), ((0 + k : Nat) : Int), ()), ())) ?_ ?_ _ ⟨_, _, fun j h h1 h2 => by omega, rfl⟩)
  ·rintro k v hk ⟨z1, z2, hj, rfl⟩
   dsimp only
   have hi : 0 + k < s.data.toList.length := by omega
   rw [hsz]
   simp only [ltb hi, nnb, Bool.and_true, cond_true, Int.toNat_natCast, getD_byte hi, impT]
   refine Ok.bif (fun h => ?_) (fun h => ?_)
   ·refine ⟨_, rfl, ?_⟩
    refine backP_no fun m hr hs => ?_
    rcases orb h with h | h
    ·have hnd : ¬ isDig s.data.toList[0 + k] := by
      unfold isDig
      rcases orb h with h | h <;> simp only [decide_eq_true_eq] at h <;> omega
     exact hnd (itoa_dig hs hfr _ hi (by first | (simp only [cond_true]; omega) | (simp only [cond_false]; omega)))
    ·simp only [decide_eq_true_eq] at h
     have := itoaB_size m hr
     rw [← hs, bsz] at this
     omega
   ·obtain ⟨h, h20⟩ := norb h
    obtain ⟨h1, h2⟩ := norb h
    simp only [decide_eq_false_iff_not] at h1 h2 h20
    have hd : isDig s.data.toList[0 + k] := by unfold isDig; omega
    rw [wrap_dig hd, wrap_step]
    simp only [wrapK_succ hi (by omega)]
    refine Ok.pure ⟨z1, z2, fun j h hj1 hj2 => ?_, ?_⟩
    ·by_cases hjk : j = 0 + k
     ·subst hjk; exact hd
     ·exact hj j h hj1 (by omega)
    ·have : (s.data.toList.drop 0).take (k + 1) = (s.data.toList.drop 0).take k ++ [s.data.toList[0 + k]] := by
      rw [take_succ (by simp; omega), List.getElem_drop]
     rw [this, valD_app]
     rfl
  ·rintro v ⟨z1, z2, hj, rfl⟩
   dsimp only
   rw [hsz, show 0 + (s.data.toList.length - 0) = s.data.toList.length from by omega]
   rw [geb (Nat.le_refl _), cond_false]
   refine Ok.pure ?_
   dsimp only
   have htake : (s.data.toList.drop 0).take (s.data.toList.length - 0) = s.data.toList.drop 0 := List.take_of_length_le (by simp)
   rw [htake]
   simp only [show ((0 : Int) == (0 : Int)) = true from rfl, cond_true]
   rw [wrap_neg]
   refine Ok.bind ⟨_, w38_ok _ (wrapK_rng _), rfl⟩ ?_
   rintro r rfl
   dsimp only
   rw [hdec, cond_true]
   refine Ok.pure ?_
   refine backP_end (wrapK_rng _) fun m hr hs => ?_
   obtain ⟨q1, q2⟩ := itoa_val0 hs (by simpa using hfr)
   rw [List.drop_zero, q2, show ((m.toNat : Nat) : Int) = m from by omega]
   exact wrapK_id hr.1 hr.2
end Go.Fw.S1
set_option linter.unusedVariables false
set_option maxHeartbeats 1000000
set_option maxRecDepth 100000
namespace Go.Fw.S1
open Go.Proofs
def Sep (e : UInt8) : Prop := ¬ isDig e ∧ e.toNat ≠ 45
theorem sep59 : Sep 59 := by unfold Sep isDig; decide
theorem sep58 : Sep 58 := by unfold Sep isDig; decide
theorem sep_itoa {e : UInt8} (he : Sep e) (m : Int) : e ∉ Lib.itoa m := by
 intro hm
 unfold Lib.itoa at hm
 split at hm
 ·rcases List.mem_cons.1 hm with h | h
  ·exact he.2 (by rw [h]; rfl)
  ·exact he.1 ((decDigits_spec _).1 _ h)
 ·exact he.1 ((decDigits_spec _).1 _ hm)
theorem itoa_inj {m n : Int} (hm : Rng m) (hn : Rng n) (h : Lib.itoa m = Lib.itoa n) : m = n := by
 have h1 := atoi_itoa m hm
 rw [h, atoi_itoa n hn] at h1
 cases h1
 rfl
theorem first_unique {e : UInt8} : ∀ {p q t u : List UInt8}, e ∉ p → e ∉ q → p ++ e :: t = q ++ e :: u → p = q ∧ t = u := by
 intro p
 induction p with
 | nil =>
  intro q t u _ hq h
  cases q with
  | nil => simp only [List.nil_append, List.cons.injEq, true_and] at h; exact ⟨rfl, h⟩
  | cons a q => simp only [List.nil_append, List.cons_append, List.cons.injEq] at h; exact absurd (by rw [h.1]; simp) hq
 | cons a p ih =>
  intro q t u hp hq h
  cases q with
  | nil => simp only [List.nil_append, List.cons_append, List.cons.injEq] at h; exact absurd (by rw [h.1]; simp) hp
  | cons b q =>
   simp only [List.cons_append, List.cons.injEq] at h
   obtain ⟨h1, h2⟩ := ih (fun hh => hp (by simp [hh])) (fun hh => hq (by simp [hh])) h.2
   exact ⟨by rw [h.1, h1], h2⟩
def Headed (e : UInt8) (s : ByteArray) (m : Int) (t : List UInt8) : Prop := Rng m ∧ s.data.toList = Lib.itoa m ++ e :: t
theorem Headed.uniq {e : UInt8} {s : ByteArray} {m m' : Int} {t t' : List UInt8} (he : Sep e) (h : Headed e s m t) (h' : Headed e s m' t') : m = m' ∧ t = t' := by
 have := h.2.symm.trans h'.2
 obtain ⟨h1, h2⟩ := first_unique (sep_itoa he m) (sep_itoa he m') this
 exact ⟨itoa_inj h.1 h'.1 h1, h2⟩
noncomputable def numF (e : UInt8) (least : Int) (s : ByteArray) (b : Bool) : Int × ByteArray × Bool :=
 open Classical in if h : ∃ p : Int × List UInt8, Headed e s p.1 p.2 ∧ least ≤ p.1 then (h.choose.1, ⟨h.choose.2.toArray⟩, b) else (0, ⟨#[]⟩, true)
theorem numF_yes {e : UInt8} (he : Sep e) {least : Int} {s : ByteArray} {b : Bool} {m : Int} {t : List UInt8} (h : Headed e s m t) (hl : least ≤ m) : numF e least s b = (m, ⟨t.toArray⟩, b) := by
 have hex : ∃ p : Int × List UInt8, Headed e s p.1 p.2 ∧ least ≤ p.1 := ⟨(m, t), h, hl⟩
 unfold numF
 rw [dif_pos hex]
 obtain ⟨h1, h2⟩ := Headed.uniq he hex.choose_spec.1 h
 rw [h1, h2]
theorem numF_no {e : UInt8} {least : Int} {s : ByteArray} {b : Bool} (h : ∀ m t, Headed e s m t → m < least) : numF e least s b = (0, ⟨#[]⟩, true) := by
 unfold numF
 rw [dif_neg]
 rintro ⟨p, hp, hl⟩
 have := h _ _ hp
 omega
theorem Headed.first {e : UInt8} {s : ByteArray} {m : Int} {t : List UInt8} (he : Sep e) (h : Headed e s m t) : ∃ L, L ≤ 20 ∧ ∃ hL : L < s.data.toList.length, s.data.toList[L] = e ∧ (∀ j (hj : j < s.data.toList.length), j < L → s.data.toList[j] ≠ e) := by
 refine ⟨(Lib.itoa m).length, ?_, ?_, ?_, ?_⟩
 ·have := itoaB_size m h.1
  rw [bsz, itoaB_list] at this
  exact this.2
 ·rw [h.2]; simp
 ·simp [h.2]
 ·intro j hj hjl hh
  simp only [h.2] at hh
  rw [List.getElem_append_left hjl] at hh
  exact sep_itoa he m (by rw [← hh]; exact List.getElem_mem _)
theorem Headed.split {e : UInt8} {s : ByteArray} {m : Int} {t : List UInt8} (he : Sep e) (h : Headed e s m t) {k : Nat} (hk : k < s.data.toList.length) (hke : s.data.toList[k] = e) (hkn : ∀ j (hj : j < s.data.toList.length), j < k → s.data.toList[j] ≠ e) : s.data.toList.take k = Lib.itoa m ∧ s.data.toList.drop (k + 1) = t := by
 have h1 : s.data.toList = s.data.toList.take k ++ e :: s.data.toList.drop (k + 1) := by
  conv => lhs; rw [← List.take_append_drop k s.data.toList, List.drop_eq_getElem_cons hk, hke]
 refine first_unique ?_ (sep_itoa he m) (h1.symm.trans h.2)
 intro hm
 obtain ⟨j, hj, hje⟩ := List.getElem_of_mem hm
 have hj' : j < k := by rw [List.length_take] at hj; omega
 exact hkn j (by omega) hj' (by rw [← hje, List.getElem_take])
theorem Headed.mk' {e : UInt8} {s : ByteArray} {m : Int} (hm : Rng m) {k : Nat} (hk : k < s.data.toList.length) (hke : s.data.toList[k] = e) (hi : s.data.toList.take k = Lib.itoa m) : Headed e s m (s.data.toList.drop (k + 1)) := by
 refine ⟨hm, ?_⟩
 rw [← hi, ← hke, ← List.drop_eq_getElem_cons hk, List.take_append_drop]
theorem ib_spec (l : List UInt8) (c : UInt8) : (Lib.indexByte l c = -1 ∧ c ∉ l) ∨ ∃ k, ∃ hk : k < l.length, Lib.indexByte l c = (k : Int) ∧ l[k] = c ∧ ∀ j (hj : j < l.length), j < k → l[j] ≠ c := by
 induction l with
 | nil => exact .inl ⟨rfl, by simp⟩
 | cons b l ih =>
  by_cases hb : b = c
  ·right
   refine ⟨0, by simp, ?_, by simpa using hb, fun j hj h => by omega⟩
   unfold Lib.indexByte
   rw [if_pos (by simpa using hb)]
   rfl
  ·rcases ih with ⟨h1, h2⟩ | ⟨k, hk, h1, h2, h3⟩
   ·left
    refine ⟨?_, by simp only [List.mem_cons, not_or]; exact ⟨fun h => hb h.symm, h2⟩⟩
    unfold Lib.indexByte
    rw [if_neg (by simpa using hb), if_pos (by rw [h1]; rfl)]
   ·right
    refine ⟨k + 1, by simp; omega, ?_, by simpa using h2, fun j hj hjk => ?_⟩
    ·unfold Lib.indexByte
     rw [if_neg (by simpa using hb), if_neg (by rw [h1]; simp only [beq_iff_eq]; omega), h1]
     omega
    ·cases j with
     | zero => simpa using hb
     | succ j => simpa using h3 j (by simpa using hj) (by omega)
theorem w86_ok (s : ByteArray) (e : UInt8) (hs : s.size ≤ 2097152) : W 86 [.str s, .int .u8 (e.toNat : Int)] = (some (Lib.indexByte s.data.toList e, ()) : Option (Int × Unit)) := by
 rw [w86]
 unfold ans86
 have hc : ((e.toNat : Int).toNat.toUInt8) = e := by simp
 simp only
 rw [hc]
 have hr : IntKind.wrap .i64 (Lib.indexByte s.data.toList e) = Lib.indexByte s.data.toList e := by
  rw [bsz] at hs
  refine wrapK_id ?_ ?_
  ·have := Lib.indexByte_ge s.data.toList e; omega
  ·rcases ib_spec s.data.toList e with ⟨h, _⟩ | ⟨k, hk, h, _⟩ <;> rw [h] <;> omega
 rw [if_pos hr]
theorem w87_ok (s : ByteArray) (hs : s.size ≤ 2097152) : Ok (W 87 [.str s]) (fun (r : (Int × Bool) × Unit) => Rng r.1.1 ∧ ∀ m, Rng m → s = itoaB m → r = ((m, true), ())) := by
 rw [w87]
 unfold ans87
 rw [if_pos (by omega)]
 have okk : ∀ v b, Rng v → okI v b = some ((v, b), ()) := fun v b hv => by
  unfold okI
  have hw : IntKind.wrap .i64 v = v := wrapK_id hv.1 hv.2
  rw [if_pos hw]
 cases ha : Lib.atoiAll s.data.toList with
 | ok v =>
  simp only
  have hv := Lib.atoiAll_bounds ha
  refine ⟨_, okk v true hv, hv, fun m hm hsm => ?_⟩
  rw [hsm, itoaB_list, atoi_itoa m hm] at ha
  cases ha
  rfl
 | range =>
  simp only
  have hv := Lib.atoiSat_bounds s.data.toList
  refine ⟨_, okk _ false hv, hv, fun m hm hsm => ?_⟩
  rw [hsm, itoaB_list, atoi_itoa m hm] at ha
  cases ha
 | _ =>
  simp only
  refine ⟨_, okk 0 false ⟨by omega, by omega⟩, ⟨by simp, by simp⟩, fun m hm hsm => ?_⟩
  rw [hsm, itoaB_list, atoi_itoa m hm] at ha
  cases ha
theorem ext0 (s : ByteArray) (k : Nat) : (s.extract 0 k).data.toList = s.data.toList.take k := by
 rw [Lib.extract_data]; simp
theorem ext1 (s : ByteArray) (k : Nat) : s.extract k s.size = ⟨(s.data.toList.drop k).toArray⟩ := by
 refine bx ?_
 rw [Lib.extract_data, List.take_of_length_le (by rw [List.length_drop, bsz]; exact Nat.le_refl _)]
theorem emp : (⟨#[]⟩ : ByteArray) = ⟨([] : List UInt8).toArray⟩ := rfl
theorem w50054_ok (e : UInt8) (he : Sep e) (least : Int) (s : ByteArray) (b : Bool) (hs : s.size ≤ 2097152) :
  W 50054 [.ptr 64 0 0, .int .u8 (e.toNat : Int), .int .i64 least, .tup [.str s, .bool b]] = some ((numF e least s b).1, (Reader.mk (numF e least s b).2.1 (numF e least s b).2.2, ())) := by
 refine (w50054 (e.toNat : Int) least ⟨s, b⟩).trans ?_
 unfold t50054
 rw [E0_C]
 dsimp only
 have hsz := bsz s
 have fin : numF e least s b = (0, ⟨#[]⟩, true) → Ok ((W 50055 [.ptr 8 0 0, .tup [.str s, .bool b]]).bind fun (r2 : Unit × (Reader × Unit)) => some (((0 : Int)), ((Reader.mk r2.2.1.f0 r2.2.1.f1), ()))) (fun r => r = ((numF e least s b).1, (Reader.mk (numF e least s b).2.1 (numF e least s b).2.2, ()))) := fun h => by
  rw [h]
  refine Ok.bind ⟨_, w50055 ⟨s, b⟩, rfl⟩ ?_
  rintro r rfl
  exact Ok.pure rfl
 obtain ⟨K, hK, hK1, hK2⟩ : ∃ K : Nat, (bif decide ((21 : Int) < (s.size : Int)) then (21 : Int) else (s.size : Int)) = (K : Int) ∧ K ≤ s.size ∧ (K = 21 ∨ K = s.size) := by
  by_cases h : (21 : Int) < (s.size : Int)
  ·exact ⟨21, by rw [decide_eq_true h]; rfl, by omega, .inl rfl⟩
  ·exact ⟨s.size, by rw [decide_eq_false h]; rfl, Nat.le_refl _, .inr rfl⟩
 rw [hK]
 rw [show (decide (0 ≤ (0 : Int)) && (decide ((0 : Int) ≤ (K : Int)) && decide ((K : Int) ≤ (s.size : Int)))) = true from by simp; omega, cond_true]
 rw [Int.toNat_natCast]
 have hh : (s.extract 0 K).data.toList = s.data.toList.take K := ext0 s K
 have hhs : (s.extract 0 K).size = K := by rw [bsz, hh, List.length_take]; omega
 refine Ok.eq (Ok.bind ⟨_, w86_ok (s.extract 0 K) e (by omega), rfl⟩ ?_)
 rintro r rfl
 dsimp only
 rw [hh]
 rcases ib_spec (s.data.toList.take K) e with ⟨h1, h2⟩ | ⟨k, hk, h1, h2, h3⟩
 ·rw [h1, show decide ((-1 : Int) < 0) = true from rfl, cond_true]
  refine fin (numF_no fun m t hg => ?_)
  exfalso
  obtain ⟨L, q1, q2, q3, _⟩ := hg.first he
  refine h2 ?_
  rw [← q3]
  have hLK : L < (s.data.toList.take K).length := by rw [List.length_take]; omega
  have : (s.data.toList.take K)[L] = s.data.toList[L] := List.getElem_take
  rw [← this]
  exact List.getElem_mem hLK
 ·have hkK : k < K ∧ k < s.data.toList.length := by rw [List.length_take] at hk; omega
  have h2' : s.data.toList[k]'hkK.2 = e := by rw [← h2, List.getElem_take]
  have h3' : ∀ j (hj : j < s.data.toList.length), j < k → s.data.toList[j] ≠ e := fun j hj hjk => by
   have hjK : j < (s.data.toList.take K).length := by rw [List.length_take]; omega
   have := h3 j hjK hjk
   rwa [List.getElem_take] at this
  rw [h1, show decide ((k : Int) < 0) = false from decide_eq_false (by omega), cond_false, hhs]
  rw [show (decide (0 ≤ (0 : Int)) && (decide ((0 : Int) ≤ (k : Int)) && decide ((k : Int) ≤ (K : Int)))) = true from by simp; omega, cond_true]
  rw [Int.toNat_natCast]
  have hp : ((s.extract 0 K).extract 0 k).data.toList = s.data.toList.take k := by
   rw [ext0, hh, List.take_take, Nat.min_eq_left (by omega)]
  have hps : ((s.extract 0 K).extract 0 k).size ≤ 2097152 := by rw [bsz, hp, List.length_take]; omega
  generalize hP : (s.extract 0 K).extract 0 k = p at hp hps
  refine Ok.bind (w87_ok p hps) ?_
  rintro ⟨⟨(v : Int), (ok : Bool)⟩, u⟩ ⟨hv, hm0⟩
  have hm : ∀ m, Rng m → p = itoaB m → v = m ∧ ok = true := fun m h1 h2 => by
   have := hm0 m h1 h2
   exact ⟨congrArg (fun x : (Int × Bool) × Unit => x.1.1) this, congrArg (fun x : (Int × Bool) × Unit => x.1.2) this⟩
  have hv : Rng v := hv
  dsimp only
  simp only [Bool.not_not, impT, cond_true]
  have hno : (∀ m, Rng m → p = itoaB m → m < least) → numF e least s b = (0, ⟨#[]⟩, true) := fun h => numF_no fun m t hg => by
   refine h m hg.1 (bx ?_)
   rw [hp, itoaB_list]
   exact (hg.split he hkK.2 h2' h3').1
  cases ok with
  | false =>
   refine Ok.bind (Q := fun _ => True) ⟨_, rfl, trivial⟩ fun r _ => ?_
   simp only [Bool.not_false, cond_true]
   refine fin (hno fun m hr hpm => ?_)
   have := (hm m hr hpm).2
   cases this
  | true =>
   simp only [Bool.not_true, cond_true, cond_false]
   refine Ok.bind ⟨_, w57_ok v hv, rfl⟩ ?_
   rintro r rfl
   dsimp only
   by_cases hpv : p = itoaB v
   ·rw [show ((itoaB v).toList == p.toList) = true from by rw [hpv]; exact beq_self_eq_true _]
    simp only [Bool.not_true, cond_false]
    refine Ok.bif (fun h => ?_) (fun h => ?_)
    ·simp only [decide_eq_true_eq] at h
     refine fin (hno fun m hr hpm => ?_)
     have := (hm m hr hpm).1
     omega
    ·simp only [decide_eq_false_iff_not] at h
     have hg : Headed e s v (s.data.toList.drop (k + 1)) := Headed.mk' hv hkK.2 h2' (by rw [← hp, hpv, itoaB_list])
     rw [numF_yes he hg (by omega)]
     rw [show wrapK .i64 ((k : Int) + 1) = ((k + 1 : Nat) : Int) from wrapK_succ (n := s.size) (by omega) (by omega)]
     rw [show (decide (0 ≤ ((k + 1 : Nat) : Int)) && (decide (((k + 1 : Nat) : Int) ≤ (s.size : Int)) && decide ((s.size : Int) ≤ (s.size : Int)))) = true from by simp; omega, cond_true]
     rw [Int.toNat_natCast, Int.toNat_natCast, ext1]
     exact Ok.pure rfl
   ·have hbe : ((itoaB v).toList == p.toList) = false := by
     rw [Lib.toList_data, Lib.toList_data]
     simp only [beq_eq_false_iff_ne, ne_eq]
     exact fun h => hpv (bx h.symm)
    rw [hbe]
    simp only [Bool.not_false, cond_true]
    refine fin (hno fun m hr hpm => ?_)
    have := (hm m hr hpm).1
    exact absurd (by rw [this]; exact hpm) hpv
end Go.Fw.S1
set_option linter.unusedVariables false
set_option maxHeartbeats 1000000
set_option maxRecDepth 100000
namespace Go.Fw.S1
open Go.Proofs
theorem rngLeast {e : UInt8} {s : ByteArray} {m : Int} {t : List UInt8} (h : Headed e s m t) : (-9223372036854775808 : Int) ≤ m := h.1.1
theorem w50090_ok (e : UInt8) (he : Sep e) (s : ByteArray) (b : Bool) (hs : s.size ≤ 2097152) :
  W 50090 [.ptr 75 0 0, .int .u8 (e.toNat : Int), .tup [.str s, .bool b]] = some ((numF e (-9223372036854775808) s b).1, (RReader.mk (numF e (-9223372036854775808) s b).2.1 (numF e (-9223372036854775808) s b).2.2, ())) := by
 refine (w50090 (e.toNat : Int) ⟨s, b⟩).trans ?_
 unfold t50090
 rw [E0_C, E0_lp]
 dsimp only
 have hsz := bsz s
 have hsl : s.data.toList.length ≤ 2097152 := by omega
 have fin : numF e (-9223372036854775808) s b = (0, ⟨#[]⟩, true) → Ok ((W 50092 [.ptr 9 0 0, .tup [.str s, .bool b]]).bind fun (r2 : Int × (RReader × Unit)) => some ((r2.1), ((RReader.mk r2.2.1.f0 r2.2.1.f1), ()))) (fun r => r = ((numF e (-9223372036854775808) s b).1, (RReader.mk (numF e (-9223372036854775808) s b).2.1 (numF e (-9223372036854775808) s b).2.2, ()))) := fun h => by
  rw [h]
  refine Ok.bind ⟨_, w50092 ⟨s, b⟩, rfl⟩ ?_
  rintro r rfl
  exact Ok.pure rfl
 refine Ok.eq (Ok.after ((Ok.range (Q := fun o => match o with
   | .out v => ∃ k : Nat, k ≤ s.data.toList.length ∧ k ≤ 21 ∧ (∀ j (hj : j < s.data.toList.length), j < k → s.data.toList[j] ≠ e) ∧ (k = 21 ∨ k = s.data.toList.length ∨ ∃ hk : k < s.data.toList.length, s.data.toList[k] = e) ∧ ∃ z, v = (((e.toNat : Int), z, (k : Int), ()), ((s, b, ()), ()))
   | .ret r => False) (min 21 s.data.toList.length) (fun k v => (∀ j (hj : j < s.data.toList.length), j < k → s.data.toList[j] ≠ e) ∧ ∃ z, v = (((e.toNat : Int), z, (k : Int), ()), ((s, b, ()), ()))) ?_ ?_ _ ⟨fun j _ hj => by omega, _, rfl⟩).mono ?_))
 ·rintro k v hk ⟨hj, z, rfl⟩
  dsimp only
  have hkl : k < s.data.toList.length := by omega
  rw [hsz]
  simp only [ltb hkl, nnb, Bool.and_true, cond_true, Int.toNat_natCast, getD_byte hkl, impT]
  rw [show decide ((k : Int) < 21) = true from decide_eq_true (by omega), cond_true]
  refine Ok.bif (fun h => ?_) (fun h => ?_)
  ·simp only [wrapK_succ hkl (by omega)]
   refine Ok.pure ⟨fun j hj1 hj2 => ?_, z, rfl⟩
   by_cases hjk : j = k
   ·subst hjk
    intro hh
    rw [hh] at h
    simp at h
   ·exact hj j hj1 (by omega)
  ·refine Ok.pure ⟨k, by omega, by omega, hj, .inr (.inr ⟨hkl, ?_⟩), z, rfl⟩
   have h : ((s.data.toList[k].toNat : Int) == (e.toNat : Int)) = true := by simpa [bne] using h
   have h := eq_of_beq h
   exact UInt8.toNat_inj.1 (by omega)
 ·rintro v ⟨hj, z, rfl⟩
  dsimp only
  rw [hsz]
  have hc : (bif decide (((min 21 s.data.toList.length : Nat) : Int) < (s.data.toList.length : Int)) then (decide (((min 21 s.data.toList.length : Nat) : Int) < (21 : Int))) else false) = false := by
   by_cases h : s.data.toList.length ≤ 21
   ·rw [Nat.min_eq_right h, decide_eq_false (by omega)]; rfl
   ·rw [Nat.min_eq_left (by omega)]
    cases decide (((21 : Nat) : Int) < (s.data.toList.length : Int)) <;> rfl
  rw [hc, impF]
  simp only [cond_true, cond_false]
  refine Ok.pure ⟨_, Nat.min_le_right _ _, Nat.min_le_left _ _, hj, ?_, z, rfl⟩
  by_cases h : s.data.toList.length ≤ 21
  ·right; left; exact Nat.min_eq_right h
  ·left; exact Nat.min_eq_left (by omega)
 ·intro o ho
  cases o with
  | ret r => exact ho.elim
  | out v =>
   obtain ⟨k, hk1, hk2, hj, hend, z, rfl⟩ := ho
   dsimp only
   rw [hsz]
   have far : ∀ {m t}, Headed e s m t → ∃ hk : k < s.data.toList.length, s.data.toList[k] = e := fun hg => by
    obtain ⟨L, q1, q2, q3, q4⟩ := hg.first he
    rcases hend with h | h | h
    ·exact absurd q3 (hj L q2 (by omega))
    ·exact absurd q3 (hj L q2 (by omega))
    ·exact h
   refine Ok.bif (fun h => ?_) (fun h => ?_)
   ·simp only [decide_eq_true_eq] at h
    refine fin (numF_no fun m t hg => ?_)
    obtain ⟨hk, _⟩ := far hg
    omega
   ·simp only [decide_eq_false_iff_not] at h
    have hkl : k < s.data.toList.length := by omega
    simp only [ltb hkl, nnb, Bool.and_true, cond_true, Int.toNat_natCast, getD_byte hkl]
    refine Ok.bif (fun h => ?_) (fun h => ?_)
    ·refine fin (numF_no fun m t hg => ?_)
     obtain ⟨hk, hke⟩ := far hg
     rw [hke] at h
     simp at h
    ·have h : ((s.data.toList[k].toNat : Int) == (e.toNat : Int)) = true := by simpa [bne] using h
     have h := eq_of_beq h
     have hke : s.data.toList[k] = e := UInt8.toNat_inj.1 (by omega)
     rw [show (decide (0 ≤ (0 : Int)) && (true && decide ((k : Int) ≤ (s.data.toList.length : Int)))) = true from by simp; omega, cond_true]
     have hp : (s.extract 0 k).data.toList = s.data.toList.take k := ext0 s k
     have hps : (s.extract 0 k).size ≤ 2097152 := by rw [bsz, hp, List.length_take]; omega
     generalize s.extract 0 k = p at hp hps
     refine Ok.bind (w122_ok p hps) ?_
     rintro ⟨⟨(v : Int), (ok : Bool)⟩, u⟩ ⟨hv0, hm0⟩
     have hv : ok = true → Rng v ∧ p = itoaB v := hv0
     have hm : ∀ m, Rng m → p = itoaB m → v = m ∧ ok = true := fun m h1 h2 => by
      have := hm0 m h1 h2
      exact ⟨congrArg (fun x : (Int × Bool) × Unit => x.1.1) this, congrArg (fun x : (Int × Bool) × Unit => x.1.2) this⟩
     dsimp only
     cases ok with
     | false =>
      simp only [Bool.not_false, cond_true]
      refine fin (numF_no fun m t hg => ?_)
      exfalso
      have := (hm m hg.1 (bx (by rw [hp, itoaB_list]; exact (hg.split he hkl hke hj).1))).2
      cases this
     | true =>
      simp only [Bool.not_true, cond_false]
      obtain ⟨hr, hpv⟩ := hv rfl
      have hg : Headed e s v (s.data.toList.drop (k + 1)) := Headed.mk' hr hkl hke (by rw [← hp, hpv, itoaB_list])
      rw [numF_yes he hg hr.1]
      rw [show wrapK .i64 ((k : Int) + 1) = ((k + 1 : Nat) : Int) from wrapK_succ hkl (by omega)]
      rw [show (decide (0 ≤ ((k + 1 : Nat) : Int)) && (decide (((k + 1 : Nat) : Int) ≤ (s.data.toList.length : Int)) && decide ((s.data.toList.length : Int) ≤ (s.data.toList.length : Int)))) = true from by simp; omega, cond_true]
      rw [Int.toNat_natCast, ← hsz, ext1]
      exact Ok.pure rfl
theorem w50091_ok (e : UInt8) (he : Sep e) (s : ByteArray) (b : Bool) (hs : s.size ≤ 2097152) :
  W 50091 [.ptr 14 0 0, .int .u8 (e.toNat : Int), .tup [.str s, .bool b]] = some ((numF e 0 s b).1, (RReader.mk (numF e 0 s b).2.1 (numF e 0 s b).2.2, ())) := by
 refine (w50091 (e.toNat : Int) ⟨s, b⟩).trans ?_
 unfold t50091
 rw [E0_C]
 dsimp only
 refine Ok.eq (Ok.bind ⟨_, w50090_ok e he s b hs, rfl⟩ ?_)
 rintro r rfl
 dsimp only
 by_cases hex : ∃ m t, Headed e s m t
 ·obtain ⟨m, t, hg⟩ := hex
  rw [numF_yes he hg hg.1.1]
  dsimp only
  by_cases hm : m < 0
  ·rw [decide_eq_true hm, cond_true]
   rw [numF_no (least := 0) fun m' t' hg' => by rw [(hg.uniq he hg').1] at hm; exact hm]
   refine Ok.bind ⟨_, w50092 ⟨⟨t.toArray⟩, b⟩, rfl⟩ ?_
   rintro r rfl
   exact Ok.pure rfl
  ·rw [decide_eq_false hm, cond_false, numF_yes he hg (by omega)]
   exact Ok.pure rfl
 ·rw [numF_no fun m t hg => absurd ⟨m, t, hg⟩ hex, numF_no (least := 0) fun m t hg => absurd ⟨m, t, hg⟩ hex]
  exact Ok.pure rfl
theorem numF_cases (e : UInt8) (he : Sep e) (least : Int) (s : ByteArray) (b : Bool) : (∃ m t, Headed e s m t ∧ least ≤ m ∧ numF e least s b = (m, ⟨t.toArray⟩, b)) ∨ numF e least s b = (0, ⟨#[]⟩, true) := by
 by_cases hex : ∃ m t, Headed e s m t ∧ least ≤ m
 ·obtain ⟨m, t, hg, hl⟩ := hex
  exact .inl ⟨m, t, hg, hl, numF_yes he hg hl⟩
 ·refine .inr (numF_no fun m t hg => ?_)
  have : ¬ least ≤ m := fun hl => hex ⟨m, t, hg, hl⟩
  omega
theorem numF_size (e : UInt8) (he : Sep e) (least : Int) (s : ByteArray) (b : Bool) : (numF e least s b).2.1.size ≤ s.size ∧ Rng (numF e least s b).1 ∧ (0 ≤ least → 0 ≤ (numF e least s b).1) := by
 rcases numF_cases e he least s b with ⟨m, t, hg, hl, h⟩ | h
 ·rw [h]
  refine ⟨?_, hg.1, fun h0 => by show 0 ≤ m; omega⟩
  rw [bsz, bsz, hg.2]
  simp
  omega
 ·rw [h]
  exact ⟨Nat.zero_le s.size, ⟨by simp, by simp⟩, fun _ => Int.le_refl _⟩
theorem numF_empty (e : UInt8) (least : Int) (b : Bool) : numF e least ⟨#[]⟩ b = (0, ⟨#[]⟩, true) := numF_no fun m t hg => by
 have := hg.2
 simp at this
end Go.Fw.S1
set_option linter.unusedVariables false
set_option maxHeartbeats 1000000
set_option maxRecDepth 100000
namespace Go.Fw.S1
open Go.Proofs
def bE : ByteArray := ⟨#[]⟩
def closeO (s : ByteArray) : Option ByteArray := match s.data.toList with
 | c :: r => if c = 44 then some ⟨r.toArray⟩ else none
 | [] => none
theorem closeO_nil {s : ByteArray} (h : s.data.toList = []) : closeO s = none := by unfold closeO; rw [h]
theorem closeO_cons {s : ByteArray} {c : UInt8} {r : List UInt8} (h : s.data.toList = c :: r) : closeO s = if c = 44 then some ⟨r.toArray⟩ else none := by unfold closeO; rw [h]
theorem closeO_size {s r : ByteArray} (h : closeO s = some r) : r.size + 1 = s.size := by
 cases hl : s.data.toList with
 | nil => rw [closeO_nil hl] at h; cases h
 | cons c t =>
  rw [closeO_cons hl] at h
  split at h
  ·cases h; rw [bsz s, hl, bsz]; simp
  ·cases h
def endR (s : ByteArray) (b : Bool) : ByteArray × Bool := match closeO s with
 | some r => (r, b)
 | none => (bE, true)
theorem w50056_ok (s : ByteArray) (b : Bool) (hs : s.size ≤ 2097152) : W 50056 [.ptr 23 0 0, .str (⟨#[44]⟩ : ByteArray), .tup [.str s, .bool b]] = some ((), (Reader.mk (endR s b).1 (endR s b).2, ())) := by
 refine (w50056 (⟨#[44]⟩ : ByteArray) ⟨s, b⟩).trans ?_
 unfold t50056
 rw [E0_C, w88]
 unfold ans88
 dsimp only
 have hf : ∀ c : ByteArray, Ok ((W 50055 [.ptr 8 0 0, .tup [.str c, .bool b]]).bind fun (r2 : Unit × (Reader × Unit)) => some ((), ((Reader.mk r2.2.1.f0 r2.2.1.f1), ()))) (fun r => r = ((), (Reader.mk bE true, ()))) := fun c => by
  refine Ok.bind ⟨_, w50055 ⟨c, b⟩, rfl⟩ ?_
  rintro r rfl
  exact Ok.pure rfl
 cases hl : s.data.toList with
 | nil =>
  have hcut : cutB (s, (⟨#[44]⟩ : ByteArray)) = s := by
   refine bx ?_
   unfold cutB Lib.trimPrefix Lib.hasPrefix
   simp only [hl]
   rfl
  rw [hcut, if_pos (by omega), show Lib.hasPrefix ([] : List UInt8) (⟨#[44]⟩ : ByteArray).data.toList = false from rfl]
  have : endR s b = (bE, true) := by unfold endR; rw [closeO_nil hl]
  rw [this]
  refine Ok.eq (Ok.bind ⟨_, rfl, rfl⟩ ?_)
  rintro r rfl
  exact hf s
 | cons c t =>
  have hp : Lib.hasPrefix (c :: t) (⟨#[44]⟩ : ByteArray).data.toList = decide (c = 44) := by
   show ((44 : UInt8) == c && true) = _
   by_cases h : c = 44
   ·subst h; rfl
   ·rw [decide_eq_false h, show ((44 : UInt8) == c) = false from by simpa using fun hh => h hh.symm]; rfl
  have hcut : (cutB (s, (⟨#[44]⟩ : ByteArray))).data.toList = if c = 44 then t else s.data.toList := by
   unfold cutB Lib.trimPrefix
   simp only [hl, hp]
   by_cases h : c = 44
   ·rw [if_pos (by simpa using h), if_pos h]; simp
   ·rw [if_neg (by simpa using h), if_neg h]
  have hcs : (cutB (s, (⟨#[44]⟩ : ByteArray))).size ≤ 9223372036854775807 := by
   have h1 := bsz s
   rw [hl] at h1
   rw [bsz, hcut]
   by_cases h : c = 44
   ·rw [if_pos h]; simp only [List.length_cons] at h1; omega
   ·rw [if_neg h, hl]; omega
  rw [if_pos hcs, hp]
  refine Ok.eq (Ok.bind ⟨_, rfl, rfl⟩ ?_)
  rintro r rfl
  dsimp only
  by_cases h : c = 44
  ·rw [decide_eq_true h]
   have : endR s b = (⟨t.toArray⟩, b) := by unfold endR; rw [closeO_cons hl, if_pos h]
   rw [this]
   have : cutB (s, (⟨#[44]⟩ : ByteArray)) = ⟨t.toArray⟩ := bx (by rw [hcut, if_pos h])
   rw [this]
   exact Ok.pure rfl
  ·rw [decide_eq_false h]
   have : endR s b = (bE, true) := by unfold endR; rw [closeO_cons hl, if_neg h]
   rw [this]
   exact hf _
theorem w50093_ok (s : ByteArray) (b : Bool) (hs : s.size ≤ 2097152) : W 50093 [.ptr 30 0 0, .int .u8 (44 : Int), .tup [.str s, .bool b]] = some ((closeO s).isSome, (RReader.mk (endR s b).1 (endR s b).2, ())) := by
 refine (w50093 (44 : Int) ⟨s, b⟩).trans ?_
 unfold t50093
 rw [E0_C]
 dsimp only
 have hf : Ok ((W 50092 [.ptr 9 0 0, .tup [.str s, .bool b]]).bind fun (r1 : Int × (RReader × Unit)) => some ((false), ((RReader.mk r1.2.1.f0 r1.2.1.f1), ()))) (fun r => r = (false, (RReader.mk bE true, ()))) := by
  refine Ok.bind ⟨_, w50092 ⟨s, b⟩, rfl⟩ ?_
  rintro r rfl
  exact Ok.pure rfl
 rw [bsz s]
 cases hl : s.data.toList with
 | nil =>
  rw [show (((([] : List UInt8).length : Int)) == (0 : Int)) = true from rfl, cond_true]
  have : endR s b = (bE, true) := by unfold endR; rw [closeO_nil hl]
  rw [this, closeO_nil hl]
  exact Ok.eq hf
 | cons c t =>
  have h0 : 0 < s.data.toList.length := by rw [hl]; simp
  have hg : s.data.getD 0 0 = c := by rw [getD_byte h0]; simp [hl]
  rw [show ((((c :: t).length : Int)) == (0 : Int)) = false from by simp; omega, cond_false]
  rw [show (decide (0 ≤ (0 : Int)) && decide ((0 : Int) < ((c :: t).length : Int))) = true from by first | (simp; done) | (simp; omega), cond_true, hg]
  refine Ok.eq (Ok.bif (fun h => ?_) (fun h => ?_))
  ·have hne : c ≠ 44 := fun hh => by subst hh; cases h
   have : endR s b = (bE, true) := by unfold endR; rw [closeO_cons hl, if_neg hne]
   rw [this, closeO_cons hl, if_neg hne]
   exact hf
  ·have h : ((c.toNat : Int) == (44 : Int)) = true := by simpa [bne] using h
   have h := eq_of_beq h
   have hc : c = 44 := UInt8.toNat_inj.1 (by have : (44 : UInt8).toNat = 44 := rfl; omega)
   have : endR s b = (⟨t.toArray⟩, b) := by unfold endR; rw [closeO_cons hl, if_pos hc]
   rw [this, closeO_cons hl, if_pos hc]
   rw [show (decide (0 ≤ (1 : Int)) && (decide ((1 : Int) ≤ ((c :: t).length : Int)) && decide (((c :: t).length : Int) ≤ ((c :: t).length : Int)))) = true from by simp; omega, cond_true]
   rw [Int.toNat_natCast, ← hl, ← bsz, ext1, hl]
   exact Ok.pure rfl
noncomputable def textF (s : ByteArray) (b : Bool) : ByteArray × ByteArray × Bool :=
 bif (numF 58 0 s b).2.2 then (bE, bE, true) else match closeO ((numF 58 0 s b).2.1.extract (numF 58 0 s b).1.toNat (numF 58 0 s b).2.1.size) with
  | some r => ((numF 58 0 s b).2.1.extract 0 (numF 58 0 s b).1.toNat, r, false)
  | none => (bE, bE, true)
theorem numF_ok (e : UInt8) (he : Sep e) (s : ByteArray) (b : Bool) (hb : b = true → s = bE) : (∃ m : Nat, ∃ t, (m : Int) ≤ 9223372036854775807 ∧ numF e 0 s b = ((m : Int), t, false) ∧ t.size + 2 ≤ s.size) ∨ numF e 0 s b = (0, bE, true) := by
 rcases numF_cases e he 0 s b with ⟨m, t, hg, hl, h⟩ | h
 ·left
  cases b with
  | true =>
   have h2 := hg.2
   rw [hb rfl] at h2
   simp [bE] at h2
  | false =>
   refine ⟨m.toNat, ⟨t.toArray⟩, by have := hg.1.2; omega, by rw [h, Int.toNat_of_nonneg hl], ?_⟩
   have := itoaB_size m hg.1
   rw [bsz, itoaB_list] at this
   rw [bsz, bsz, hg.2]
   simp
   omega
 ·exact .inr h
theorem textF_inv (s : ByteArray) (b : Bool) (hb : b = true → s = bE) : ((textF s b).2.2 = true → (textF s b).1 = bE ∧ (textF s b).2.1 = bE) ∧ ((textF s b).2.2 = false → (textF s b).1.size ≤ s.size ∧ (textF s b).2.1.size < s.size) := by
 unfold textF
 rcases numF_ok 58 sep58 s b hb with ⟨m, t, hm, h, hts⟩ | h
 ·rw [h]
  simp only [cond_false]
  cases hc : closeO (t.extract (m : Int).toNat t.size) with
  | none => exact ⟨fun _ => ⟨rfl, rfl⟩, fun h => by cases h⟩
  | some r =>
   refine ⟨fun h => (by cases h), fun _ => ⟨?_, ?_⟩⟩
   ·have : (t.extract 0 (m : Int).toNat).size ≤ t.size := by rw [bsz, ext0, List.length_take, bsz]; omega
    show (t.extract 0 (m : Int).toNat).size ≤ s.size
    omega
   ·have h1 := closeO_size hc
    have : (t.extract (m : Int).toNat t.size).size ≤ t.size := by rw [ext1, bsz, bsz t]; simp
    show r.size < s.size
    omega
 ·rw [h]
  exact ⟨fun _ => ⟨rfl, rfl⟩, fun h => by cases h⟩
theorem w50032_ok (s : ByteArray) (b : Bool) (hs : s.size ≤ 2097152) (hb : b = true → s = bE) : W 50032 [.ptr 38 0 0, .tup [.str s, .bool b]] = some ((textF s b).1, (Reader.mk (textF s b).2.1 (textF s b).2.2, ())) := by
 refine (w50032 ⟨s, b⟩).trans ?_
 unfold t50032
 rw [E0_C]
 dsimp only
 have hn := w50054_ok 58 sep58 0 s b hs
 have hsz := numF_size 58 sep58 0 s b
 refine Ok.eq (Ok.bind ⟨_, hn, rfl⟩ ?_)
 rintro r rfl
 dsimp only
 unfold textF
 rcases numF_ok 58 sep58 s b hb with ⟨m, t, hm, h, hts⟩ | h
 ·rw [h]
  simp only [cond_false]
  refine Ok.bif (fun hlt => ?_) (fun hlt => ?_)
  ·simp only [decide_eq_true_eq] at hlt
   have hnil : (t.extract (m : Int).toNat t.size).data.toList = [] := by
    rw [ext1]
    simp only
    rw [List.drop_eq_nil_of_le (by rw [← bsz]; omega)]
   rw [closeO_nil hnil]
   refine Ok.bind ⟨_, w50055 ⟨t, false⟩, rfl⟩ ?_
   rintro r rfl
   exact Ok.pure rfl
  ·simp only [decide_eq_false_iff_not] at hlt
   rw [show (decide (0 ≤ (0 : Int)) && (decide ((0 : Int) ≤ (m : Int)) && decide ((m : Int) ≤ (t.size : Int)))) = true from by simp; omega, cond_true]
   rw [show (decide (0 ≤ (m : Int)) && (decide ((m : Int) ≤ (t.size : Int)) && decide ((t.size : Int) ≤ (t.size : Int)))) = true from by simp; omega, cond_true]
   rw [show ((t.size : Int)).toNat = t.size from Int.toNat_natCast _]
   have hes : (t.extract (m : Int).toNat t.size).size ≤ 2097152 := by
    have : (t.extract (m : Int).toNat t.size).size ≤ t.size := by rw [ext1, bsz, bsz t]; simp
    omega
   refine Ok.bind ⟨_, w50056_ok _ false hes, rfl⟩ ?_
   rintro r rfl
   dsimp only
   unfold endR
   cases closeO (t.extract (m : Int).toNat t.size) with
   | none => exact Ok.pure rfl
   | some r => exact Ok.pure rfl
 ·rw [h]
  simp only [cond_true]
  have h0 : bE.size = 0 := rfl
  have he : bE.extract (0 : Int).toNat (bE.size : Int).toNat = bE := rfl
  rw [show decide ((bE.size : Int) < (0 : Int)) = false from rfl, cond_false]
  rw [show (decide (0 ≤ (0 : Int)) && (decide ((0 : Int) ≤ (0 : Int)) && decide ((0 : Int) ≤ (bE.size : Int)))) = true from rfl, cond_true]
  rw [show (decide (0 ≤ (0 : Int)) && (decide ((0 : Int) ≤ (bE.size : Int)) && decide ((bE.size : Int) ≤ (bE.size : Int)))) = true from rfl, cond_true]
  rw [he]
  refine Ok.bind ⟨_, w50056_ok bE true (by omega), rfl⟩ ?_
  rintro r rfl
  exact Ok.pure rfl
theorem w50062_ok (s : ByteArray) (b : Bool) (hs : s.size ≤ 2097152) (hb : b = true → s = bE) : W 50062 [.ptr 41 0 0, .tup [.str s, .bool b]] = some ((textF s b).1, (RReader.mk (textF s b).2.1 (textF s b).2.2, ())) := by
 refine (w50062 ⟨s, b⟩).trans ?_
 unfold t50062
 rw [E0_C]
 dsimp only
 have hn := w50091_ok 58 sep58 s b hs
 refine Ok.eq (Ok.bind ⟨_, hn, rfl⟩ ?_)
 rintro r rfl
 dsimp only
 unfold textF
 rcases numF_ok 58 sep58 s b hb with ⟨m, t, hm, h, hts⟩ | h
 ·rw [h]
  simp only [cond_false]
  refine Ok.bif (fun hlt => ?_) (fun hlt => ?_)
  ·simp only [decide_eq_true_eq] at hlt
   have hnil : (t.extract (m : Int).toNat t.size).data.toList = [] := by
    rw [ext1]
    simp only
    rw [List.drop_eq_nil_of_le (by rw [← bsz]; omega)]
   rw [closeO_nil hnil]
   refine Ok.bind ⟨_, w50092 ⟨t, false⟩, rfl⟩ ?_
   rintro r rfl
   exact Ok.pure rfl
  ·simp only [decide_eq_false_iff_not] at hlt
   rw [show (decide (0 ≤ (0 : Int)) && (decide ((0 : Int) ≤ (m : Int)) && decide ((m : Int) ≤ (t.size : Int)))) = true from by simp; omega, cond_true]
   rw [show (decide (0 ≤ (m : Int)) && (decide ((m : Int) ≤ (t.size : Int)) && decide ((t.size : Int) ≤ (t.size : Int)))) = true from by simp; omega, cond_true]
   rw [show ((t.size : Int)).toNat = t.size from Int.toNat_natCast _]
   have hes : (t.extract (m : Int).toNat t.size).size ≤ 2097152 := by
    have : (t.extract (m : Int).toNat t.size).size ≤ t.size := by rw [ext1, bsz, bsz t]; simp
    omega
   refine Ok.bind ⟨_, w50093_ok _ false hes, rfl⟩ ?_
   rintro r rfl
   dsimp only
   unfold endR
   cases closeO (t.extract (m : Int).toNat t.size) with
   | none => exact Ok.pure rfl
   | some r => exact Ok.pure rfl
 ·rw [h]
  simp only [cond_true]
  refine Ok.bind ⟨_, w50092 ⟨bE, true⟩, rfl⟩ ?_
  rintro r rfl
  exact Ok.pure rfl
end Go.Fw.S1
set_option linter.unusedVariables false
set_option maxHeartbeats 1000000
set_option maxRecDepth 100000
namespace Go.Fw.S1
open Go.Proofs
theorem numF_inv (e : UInt8) (he : Sep e) (least : Int) (s : ByteArray) (b : Bool) (hb : b = true → s = bE) : (numF e least s b).2.2 = true → (numF e least s b).2.1 = bE := by
 rcases numF_cases e he least s b with ⟨m, t, hg, hl, h⟩ | h
 ·rw [h]
  intro hbt
  have hbt : b = true := hbt
  have h2 := hg.2
  rw [hb hbt] at h2
  simp [bE] at h2
 ·rw [h]; intro _; rfl
noncomputable def tx (st : ByteArray × Bool) : Nat → List ByteArray × ByteArray × Bool
 | 0 => ([], st.1, st.2)
 | k + 1 => ((tx st k).1 ++ [(textF (tx st k).2.1 (tx st k).2.2).1], (textF (tx st k).2.1 (tx st k).2.2).2)
structure TxOk (st : ByteArray × Bool) (k : Nat) : Prop where
 len : (tx st k).1.length = k
 inv : (tx st k).2.2 = true → (tx st k).2.1 = bE
 rest : (tx st k).2.1.size ≤ st.1.size
 parts : ∀ x, x ∈ (tx st k).1 → x.size ≤ st.1.size
theorem tx_ok {st : ByteArray × Bool} (h0 : st.2 = true → st.1 = bE) : ∀ k, TxOk st k := by
 intro k
 induction k with
 | zero => exact ⟨rfl, h0, Nat.le_refl _, fun x hx => by cases hx⟩
 | succ k ih =>
  obtain ⟨h1, h2⟩ := textF_inv (tx st k).2.1 (tx st k).2.2 ih.inv
  refine ⟨by simp [tx, ih.len], fun h => (h1 h).2, ?_, ?_⟩
  ·show (textF (tx st k).2.1 (tx st k).2.2).2.1.size ≤ st.1.size
   have := ih.rest
   cases hb : (textF (tx st k).2.1 (tx st k).2.2).2.2 with
   | true => rw [(h1 hb).2]; exact Nat.zero_le _
   | false => have := (h2 hb).2; omega
  ·intro x hx
   simp only [tx, List.mem_append, List.mem_singleton] at hx
   rcases hx with hx | hx
   ·exact ih.parts x hx
   ·subst hx
    have := ih.rest
    cases hb : (textF (tx st k).2.1 (tx st k).2.2).2.2 with
    | true => rw [(h1 hb).1]; exact Nat.zero_le _
    | false => have := (h2 hb).1; omega
theorem tx_step {st : ByteArray × Bool} (h0 : st.2 = true → st.1 = bE) (k : Nat) (hp : 0 < (tx st k).2.1.size) : (tx st (k + 1)).2.1.size < (tx st k).2.1.size := by
 obtain ⟨h1, h2⟩ := textF_inv (tx st k).2.1 (tx st k).2.2 (tx_ok h0 k).inv
 show (textF (tx st k).2.1 (tx st k).2.2).2.1.size < _
 cases hb : (textF (tx st k).2.1 (tx st k).2.2).2.2 with
 | true => rw [(h1 hb).2]; exact hp
 | false => exact (h2 hb).2
theorem textF_empty (b : Bool) : textF bE b = (bE, bE, true) := by
 unfold textF
 rw [show numF 58 0 bE b = (0, bE, true) from numF_empty 58 0 b]
 rfl
theorem size0 {s : ByteArray} (h : s.size = 0) : s = bE := by
 refine bx ?_
 rw [bsz] at h
 rw [List.eq_nil_of_length_eq_zero h]
 rfl
theorem tx_past {st : ByteArray × Bool} (h0 : st.2 = true → st.1 = bE) {k : Nat} (hk : (tx st k).2.1.size = 0) : ∀ j, k < j → (tx st j).2 = (bE, true) := by
 intro j hj
 induction j with
 | zero => omega
 | succ j ih =>
  show (textF (tx st j).2.1 (tx st j).2.2).2 = _
  have : (tx st j).2.1 = bE := by
   rcases Nat.lt_or_ge k j with h | h
   ·rw [ih h]
   ·have : j = k := by omega
    subst this
    exact size0 hk
  rw [this, textF_empty]
def doneB (s : ByteArray) (b : Bool) : Bool := bif (!b) then (s.toList == (⟨#[]⟩ : ByteArray).toList) else false
section
variable (s : ByteArray)
noncomputable def hdC : Int × ByteArray × Bool := numF 59 (-9223372036854775808) s false
noncomputable def hdN : Int × ByteArray × Bool := numF 59 0 (hdC s).2.1 (hdC s).2.2
noncomputable def st0 : ByteArray × Bool := (hdN s).2
end
theorem hdC_inv (s : ByteArray) : (hdC s).2.2 = true → (hdC s).2.1 = bE := numF_inv 59 sep59 _ s false (fun h => by cases h)
theorem st0_inv (s : ByteArray) : (st0 s).2 = true → (st0 s).1 = bE := numF_inv 59 sep59 _ _ _ (hdC_inv s)
theorem hdC_size (s : ByteArray) : (hdC s).2.1.size ≤ s.size := (numF_size 59 sep59 _ s false).1
theorem st0_size (s : ByteArray) : (st0 s).1.size ≤ s.size := Nat.le_trans (numF_size 59 sep59 _ _ _).1 (hdC_size s)
theorem hdC_rng (s : ByteArray) : Rng (hdC s).1 := (numF_size 59 sep59 _ s false).2.1
theorem hdN_rng (s : ByteArray) : Rng (hdN s).1 := (numF_size 59 sep59 _ _ _).2.1
theorem hdN_nn (s : ByteArray) : 0 ≤ (hdN s).1 := (numF_size 59 sep59 0 (hdC s).2.1 (hdC s).2.2).2.2 (Int.le_refl _)
noncomputable def wholeB (s : ByteArray) (n : Nat) : Bool := doneB (tx (st0 s) n).2.1 (tx (st0 s) n).2.2 && ((hdN s).1 == (n : Int))
theorem done_past (s : ByteArray) {k j : Nat} (hk : (tx (st0 s) k).2.1.size = 0) (hj : k < j) : doneB (tx (st0 s) j).2.1 (tx (st0 s) j).2.2 = false := by
 rw [tx_past (st0_inv s) hk j hj]
 rfl
theorem w37_ok (s : ByteArray) (hs : s.size ≤ 2097152) : Ok (W 37 [.str s]) (fun (r : (Int × List ByteArray × Bool) × Unit) => ∃ k : Nat, (k : Int) ≤ (hdN s).1 ∧ ((k : Int) = (hdN s).1 ∨ (tx (st0 s) k).2.1.size = 0) ∧ r = (((hdC s).1, (tx (st0 s) k).1, bif doneB (tx (st0 s) k).2.1 (tx (st0 s) k).2.2 then ((k : Int) == (hdN s).1) else false), ())) := by
 rw [w37 s]
 unfold t37
 rw [E0_C, E0_lp]
 refine Ok.bind ⟨_, (w58 s).trans (show t58 E0 s = some (RReader.mk s false, ()) from rfl), rfl⟩ ?_
 rintro r rfl
 dsimp only
 have e1 : W 50059 [.ptr 5 0 0, .tup [.str s, .bool false]] = some ((hdC s).1, (RReader.mk (hdC s).2.1 (hdC s).2.2, ())) := by
  refine (w50059 ⟨s, false⟩).trans ?_
  unfold t50059
  rw [E0_C]
  refine Ok.eq (Ok.bind ⟨_, w50090_ok 59 sep59 s false hs, rfl⟩ ?_)
  rintro r rfl
  exact Ok.pure rfl
 refine Ok.bind ⟨_, e1, rfl⟩ ?_
 rintro r rfl
 dsimp only
 have hcs := hdC_size s
 have e2 : W 50060 [.ptr 5 0 0, .tup [.str (hdC s).2.1, .bool (hdC s).2.2]] = some ((hdN s).1, (RReader.mk (hdN s).2.1 (hdN s).2.2, ())) := by
  refine (w50060 ⟨(hdC s).2.1, (hdC s).2.2⟩).trans ?_
  unfold t50060
  rw [E0_C]
  refine Ok.eq (Ok.bind ⟨_, w50091_ok 59 sep59 _ _ (Nat.le_trans hcs hs), rfl⟩ ?_)
  rintro r rfl
  exact Ok.pure rfl
 refine Ok.bind ⟨_, e2, rfl⟩ ?_
 rintro r rfl
 dsimp only
 have hn0 := hdN_nn s
 have hss := st0_size s
 refine Ok.after ((Ok.range (Q := fun o => match o with
   | .out v => ∃ k : Nat, (k : Int) ≤ (hdN s).1 ∧ ((k : Int) = (hdN s).1 ∨ (tx (st0 s) k).2.1.size = 0) ∧ ∃ z0 z1 z2 z3, v = ((z0, z1, z2, (hdC s).1, (hdN s).1, (k : Int), ()), (z3, (tx (st0 s) k).1, ((tx (st0 s) k).2.1, (tx (st0 s) k).2.2, ()), ()))
   | .ret r => False) (st0 s).1.size (fun k v => (k : Int) ≤ (hdN s).1 ∧ (tx (st0 s) k).2.1.size + k ≤ (st0 s).1.size ∧ ∃ z0 z1 z2 z3, v = ((z0, z1, z2, (hdC s).1, (hdN s).1, (k : Int), ()), (z3, (tx (st0 s) k).1, ((tx (st0 s) k).2.1, (tx (st0 s) k).2.2, ()), ()))) ?_ ?_ _ ⟨by omega, Nat.le_refl _, _, _, _, _, rfl⟩).mono ?_)
 ·rintro k v hk ⟨hkn, hkr, z0, z1, z2, z3, rfl⟩
  dsimp only
  have hT := tx_ok (st0_inv s) k
  cases hlt : decide ((k : Int) < (hdN s).1) with
  | false =>
   refine Ok.bind (Q := fun _ => True) ⟨_, rfl, trivial⟩ fun r _ => ?_
   simp only [decide_eq_false_iff_not] at hlt
   exact Ok.pure ⟨k, hkn, .inl (by omega), _, _, _, _, rfl⟩
  | true =>
   simp only [decide_eq_true_eq] at hlt
   simp only [cond_true]
   refine Ok.bind ⟨_, (w50061 (tx (st0 s) k).2.1 (tx (st0 s) k).2.2).trans (show t50061 E0 (tx (st0 s) k).2.1 (tx (st0 s) k).2.2 = some (((tx (st0 s) k).2.1.size : Int), ()) from rfl), rfl⟩ ?_
   rintro r rfl
   dsimp only
   refine Ok.bif (fun h => ?_) (fun h => ?_)
   ·simp only [decide_eq_true_eq] at h
    refine Ok.bind ⟨_, w50062_ok _ _ (by have := hT.rest; omega) hT.inv, rfl⟩ ?_
    rintro r rfl
    dsimp only
    rw [hT.len]
    rw [room (by simp only [List.length_singleton]; omega), cond_true]
    rw [show wrapK .i64 ((k : Int) + 1) = ((k + 1 : Nat) : Int) from wrapK_succ hk (by omega)]
    have hst := tx_step (st0_inv s) k (by omega)
    exact Ok.pure ⟨by omega, by omega, _, _, _, _, rfl⟩
   ·simp only [decide_eq_false_iff_not] at h
    exact Ok.pure ⟨k, hkn, .inr (by omega), _, _, _, _, rfl⟩
 ·rintro v ⟨hkn, hkr, z0, z1, z2, z3, rfl⟩
  dsimp only
  have h0 : (tx (st0 s) (st0 s).1.size).2.1.size = 0 := by omega
  cases hlt : decide ((((st0 s).1.size : Nat) : Int) < (hdN s).1) with
  | false =>
   refine Ok.bind (Q := fun _ => True) ⟨_, rfl, trivial⟩ fun r _ => ?_
   exact Ok.pure ⟨_, hkn, .inr h0, _, _, _, _, rfl⟩
  | true =>
   simp only [cond_true]
   refine Ok.bind ⟨_, (w50061 (tx (st0 s) (st0 s).1.size).2.1 (tx (st0 s) (st0 s).1.size).2.2).trans (show t50061 E0 (tx (st0 s) (st0 s).1.size).2.1 (tx (st0 s) (st0 s).1.size).2.2 = some (((tx (st0 s) (st0 s).1.size).2.1.size : Int), ()) from rfl), rfl⟩ ?_
   rintro r rfl
   dsimp only
   rw [h0]
   exact Ok.pure ⟨_, hkn, .inr h0, _, _, _, _, rfl⟩
 ·intro o ho
  cases o with
  | ret r => exact ho.elim
  | out v =>
   obtain ⟨k, hk1, hk2, z0, z1, z2, z3, rfl⟩ := ho
   dsimp only
   refine Ok.bind ⟨_, (w50063 (tx (st0 s) k).2.1 (tx (st0 s) k).2.2).trans (show t50063 E0 (tx (st0 s) k).2.1 (tx (st0 s) k).2.2 = some (doneB (tx (st0 s) k).2.1 (tx (st0 s) k).2.2, ()) from rfl), rfl⟩ ?_
   rintro r rfl
   refine Ok.pure ⟨k, hk1, hk2, ?_⟩
   dsimp only
   rw [(tx_ok (st0_inv s) k).len]
theorem rd9_get {xs : List ByteArray} {i : Nat} (h : i < xs.length) : rd9 xs (i : Int) = xs[i] := rdl_get (e := 9) h
section
variable (F : List Go.Fw.S1.Func) (N : List Node) (G : List Go.Fw.S1.Func) (M : List Node) (l : List Match) (s : ByteArray)
noncomputable def partB (k : Nat) : ByteArray := bif operB (rd43 M (k : Int)) then rd9 (tx (st0 s) N.length).1 (rd52 l (k : Int)).f0 else (⟨#[]⟩ : ByteArray)
noncomputable def outB : Nat → ByteArray
 | 0 => intB (hdC s).1 ++ intB (M.length : Int)
 | k + 1 => outB k ++ textB (partB N M l s k)
noncomputable def carryV : ByteArray × Int := bif (checkV F N G M l != 0) then (⟨#[]⟩, checkV F N G M l) else bif wholeB s N.length then (bif decide ((0 : Int) < ((freshL M l M.length).length : Int)) then (⟨#[]⟩, 4) else (outB N M l s M.length, 0)) else (⟨#[]⟩, 2)
end
section
variable {F : List Go.Fw.S1.Func} {N : List Node} {G : List Go.Fw.S1.Func} {M : List Node} {l : List Match} {s : ByteArray}
theorem check_zero (h : checkV F N G M l = 0) : l.length = M.length ∧ ∀ k, k < l.length → badB N.length k (rd52 l (k : Int)) = false := by
 unfold checkV at h
 cases h1 : ((l.length : Int) != (M.length : Int)) with
 | true => rw [h1] at h; cases h
 | false =>
  rw [h1, cond_false] at h
  refine ⟨len_eq h1, fun k hk => ?_⟩
  cases h2 : (List.range l.length).any (fun k => badB N.length k (rd52 l (k : Int))) with
  | true => rw [h2] at h; cases h
  | false =>
   rw [List.any_eq_false] at h2
   have := h2 k (by simpa using hk)
   simpa using this
theorem part_there (h : checkV F N G M l = 0) (hf : ¬ (0 : Int) < ((freshL M l M.length).length : Int)) {k : Nat} (hk : k < M.length) (ho : operB (rd43 M (k : Int)) = true) : ∃ j : Nat, (rd52 l (k : Int)).f0 = (j : Int) ∧ j < N.length := by
 obtain ⟨hl, hb⟩ := check_zero h
 have hfp : freshP M l k = false := by
  cases hp : freshP M l k with
  | false => rfl
  | true =>
   exfalso
   refine hf ?_
   have : (k : Int) ∈ freshL M l M.length := by
    unfold freshL
    rw [List.mem_map]
    exact ⟨k, by rw [List.mem_filter]; exact ⟨by simpa using hk, hp⟩, rfl⟩
   have := List.length_pos_of_mem this
   omega
 unfold freshP at hfp
 rw [ho] at hfp
 simp only [Bool.true_and, Bool.not_eq_false'] at hfp
 rw [List.any_eq_true] at hfp
 obtain ⟨x, hx, hkx⟩ := hfp
 obtain ⟨i, hi, rfl⟩ := List.getElem_of_mem hx
 have hbi := hb i hi
 rw [rd52_get hi] at hbi
 obtain ⟨q1, q2⟩ := badB_no hbi
 unfold keepB at hkx
 obtain ⟨k1, k2⟩ := andb hkx
 have : i = k := by have := eqz k1; omega
 subst this
 rw [rd52_get hi]
 rcases q2 with ⟨q2, _⟩ | ⟨_, j, q3, q4⟩
 ·exact absurd q2 (nez' k2)
 ·exact ⟨j, q3, q4⟩
theorem part_size (h : checkV F N G M l = 0) (hf : ¬ (0 : Int) < ((freshL M l M.length).length : Int)) {k : Nat} (hk : k < M.length) : (partB N M l s k).size ≤ s.size := by
 unfold partB
 cases ho : operB (rd43 M (k : Int)) with
 | false => exact Nat.zero_le _
 | true =>
  simp only [cond_true]
  obtain ⟨j, h1, h2⟩ := part_there h hf hk ho
  have hT := tx_ok (st0_inv s) N.length
  have hj : j < (tx (st0 s) N.length).1.length := by rw [hT.len]; exact h2
  rw [h1, rd9_get hj]
  exact Nat.le_trans (hT.parts _ (List.getElem_mem hj)) (st0_size s)
theorem out_size (hs : s.size ≤ 2097152) (hm : M.length ≤ 2097152) (h : checkV F N G M l = 0) (hf : ¬ (0 : Int) < ((freshL M l M.length).length : Int)) : ∀ k, k ≤ M.length → (outB N M l s k).size ≤ 42 + k * 2097174 := by
 intro k
 induction k with
 | zero =>
  intro _
  show (intB (hdC s).1 ++ intB (M.length : Int)).size ≤ _
  have h1 := itoaB_size (hdC s).1 (hdC_rng s)
  have h2 := itoaB_size (M.length : Int) (by omega)
  unfold intB
  rw [bszapp, bszapp, bszapp, sz59]
  omega
 | succ k ih =>
  intro hk
  show (outB N M l s k ++ textB (partB N M l s k)).size ≤ _
  rw [bszapp]
  have h1 := ih (by omega)
  have h2 := part_size (s := s) h hf (show k < M.length by omega)
  have h3 := textB_size (partB N M l s k) (by omega)
  omega
theorem ref_whole (s : ByteArray) (n k : Nat) (hk1 : (k : Int) ≤ (hdN s).1) (hk2 : (k : Int) = (hdN s).1 ∨ (tx (st0 s) k).2.1.size = 0) : ((bif doneB (tx (st0 s) k).2.1 (tx (st0 s) k).2.2 then ((k : Int) == (hdN s).1) else false) = true ∧ k = n) ↔ wholeB s n = true := by
 unfold wholeB
 constructor
 ·rintro ⟨h, rfl⟩
  obtain ⟨h1, h2⟩ := andb h
  rw [h1, Bool.true_and]
  have := eqz h2
  rw [← this]
  exact beq_self_eq_true _
 ·intro h
  rw [Bool.and_eq_true] at h
  obtain ⟨h1, h2⟩ := h
  have h2 := eqz h2
  have hkn : k = n := by
   rcases Nat.lt_or_ge k n with hlt | hge
   ·rcases hk2 with h3 | h3
    ·omega
    ·rw [done_past s h3 hlt] at h1; cases h1
   ·omega
  subst hkn
  refine ⟨?_, rfl⟩
  rw [h1, cond_true, h2]
  exact beq_self_eq_true _
theorem w14_ok (hN : OkPl F N) (hM : OkPl G M) (oN : ∀ (i : Nat) (h : i < N.length), OpIn N[i]) (oM : ∀ (i : Nat) (h : i < M.length), OpIn M[i]) (hs : s.size ≤ 2097152) (hll : l.length ≤ 2097152) :
  W 14 [vP F N, vP G M, .lst 52 l, .str s] = (some (carryV F N G M l s, ()) : Option ((ByteArray × Int) × Unit)) := by
 refine (w14 ⟨F, N⟩ ⟨G, M⟩ l s).trans ?_
 unfold t14 carryV
 rw [E0_C, E0_lp]
 have hm := hM.len
 refine Ok.eq (Ok.bind ⟨_, w10_eq hN hM oN oM l, rfl⟩ ?_)
 rintro r rfl
 dsimp only
 refine Ok.bif (fun h => ?_) (fun h => ?_)
 ·rw [h]; exact Ok.pure rfl
 rw [h, cond_false]
 have hc : checkV F N G M l = 0 := eqz' h
 refine Ok.bind (w37_ok s hs) ?_
 rintro r ⟨k, hk1, hk2, rfl⟩
 dsimp only
 have hT := tx_ok (st0_inv s) k
 rw [hT.len]
 have hwhole := ref_whole s N.length k hk1 hk2
 refine Ok.bif (fun h => ?_) (fun h => ?_)
 ·have : wholeB s N.length = false := by
   cases hw : wholeB s N.length with
   | false => rfl
   | true =>
    obtain ⟨h1, h2⟩ := hwhole.2 hw
    rw [h1, h2] at h
    simp at h
  rw [this]
  exact Ok.pure rfl
 have hw : wholeB s N.length = true ∧ k = N.length := by
  obtain ⟨h1, h2⟩ := norb h
  have hkN : k = N.length := by have := eqz' h2; omega
  exact ⟨hwhole.1 ⟨by simpa using h1, hkN⟩, hkN⟩
 obtain ⟨hw, rfl⟩ := hw
 rw [hw, cond_true]
 refine Ok.bind ⟨_, w12_eq G M hm l hll, rfl⟩ ?_
 rintro r rfl
 dsimp only
 refine Ok.bif (fun h => ?_) (fun hf => ?_)
 ·rw [h]; exact Ok.pure rfl
 rw [hf, cond_false]
 simp only [decide_eq_false_iff_not] at hf
 have hsz := fun k hk => out_size (N := N) (s := s) hs hm hc hf k hk
 have h0 := hsz 0 (Nat.zero_le _)
 refine Ok.bind ⟨_, w38_ok _ (hdC_rng s), rfl⟩ ?_
 rintro r rfl
 dsimp only
 refine Ok.bind ⟨_, w39_ok _ (by omega) (by omega), rfl⟩ ?_
 rintro r rfl
 dsimp only
 have e0 : intB (hdC s).1 ++ intB (M.length : Int) = outB N M l s 0 := rfl
 rw [← bszapp, e0, decide_eq_true (show (outB N M l s 0).size ≤ 9223372036854775807 by omega), cond_true]
 have hlM := (check_zero hc).1
 refine Ok.after (Ok.range M.length (fun i v => ∃ z1 z2 z3 z4 z5 z6, v = ((l, z1, z2, z3, z4, z5, z6, outB N M l s i, (i : Int), ()), ((F, N, ()), (G, M, ()), (tx (st0 s) N.length).1, ()))) ?_ ?_ _ ⟨_, _, _, _, _, _, rfl⟩)
 ·rintro i v hi ⟨z1, z2, z3, z4, z5, z6, rfl⟩
  dsimp only
  have hil : i < l.length := by omega
  have hsi := hsz i (by omega)
  have hsi1 := hsz (i + 1) (by omega)
  have hps := part_size (s := s) hc hf hi
  have hst : outB N M l s (i + 1) = outB N M l s i ++ textB (partB N M l s i) := rfl
  rw [hst, bszapp] at hsi1
  have hMs : M.length * 2097174 ≤ 2097152 * 2097174 := Nat.mul_le_mul_right _ hm
  have hMi : (i + 1) * 2097174 ≤ M.length * 2097174 := Nat.mul_le_mul_right _ hi
  simp only [ltb hi, ltb hil, nnb, Bool.and_true, cond_true]
  refine Ok.bind ⟨_, (w28 (rd43 M (i : Int))).trans (show t28 E0 (rd43 M (i : Int)) = some (operB (rd43 M (i : Int)), ()) from rfl), rfl⟩ ?_
  rintro r rfl
  dsimp only
  refine Ok.bif (fun ho => ?_) (fun ho => ?_)
  ·obtain ⟨j, hj1, hj2⟩ := part_there hc hf hi ho
   have hjT : j < (tx (st0 s) N.length).1.length := by rw [hT.len]; exact hj2
   have hpart : rd9 (tx (st0 s) N.length).1 (j : Int) = partB N M l s i := by unfold partB; rw [ho, cond_true, hj1]
   have hjn : (bif decide ((0 : Int) < (j : Int)) then (j : Int) else (0 : Int)) = (j : Int) := by
    cases j with
    | zero => rfl
    | succ j => rw [decide_eq_true (show (0 : Int) < ((j + 1 : Nat) : Int) by omega)]; rfl
   simp only [hj1, hjn, ltb hjT, nnb, Bool.and_true, cond_true, hpart]
   refine Ok.bind ⟨_, w40_ok _ (by omega), rfl⟩ ?_
   rintro r rfl
   dsimp only
   rw [decide_eq_true (show (outB N M l s i).size + (textB (partB N M l s i)).size ≤ 9223372036854775807 by omega), cond_true]
   simp only [wrapK_succ hi (by omega)]
   exact Ok.pure ⟨_, _, _, _, _, _, rfl⟩
  ·have hpart : (⟨#[]⟩ : ByteArray) = partB N M l s i := by unfold partB; rw [ho]; rfl
   refine Ok.bind ⟨_, w40_ok _ (Nat.zero_le _), rfl⟩ ?_
   rintro r rfl
   dsimp only
   rw [hpart]
   rw [decide_eq_true (show (outB N M l s i).size + (textB (partB N M l s i)).size ≤ 9223372036854775807 by omega), cond_true]
   simp only [wrapK_succ hi (by omega)]
   exact Ok.pure ⟨_, _, _, _, _, _, rfl⟩
 ·rintro v ⟨z1, z2, z3, z4, z5, z6, rfl⟩
  dsimp only
  rw [geb (Nat.le_refl _), cond_false]
  refine Ok.pure ?_
  exact Ok.pure rfl
theorem w13_ok (hN : OkPl F N) (hM : OkPl G M) (oN : ∀ (i : Nat) (h : i < N.length), OpIn N[i]) (oM : ∀ (i : Nat) (h : i < M.length), OpIn M[i]) (hs : s.size ≤ 2097152) (hll : l.length ≤ 2097152) :
  W 13 [vP F N, vP G M, .lst 52 l, .str s] = (some (carryV F N G M l s, ()) : Option ((ByteArray × Int) × Unit)) := by
 refine (w13 ⟨F, N⟩ ⟨G, M⟩ l s).trans ?_
 unfold t13 carryV
 rw [E0_C, E0_lp]
 have hm := hM.len
 have hnl := hN.len
 refine Ok.eq (Ok.bind ⟨_, w9_eq hN hM oN oM l, rfl⟩ ?_)
 rintro r rfl
 dsimp only
 refine Ok.bif (fun h => ?_) (fun h => ?_)
 ·rw [h]; exact Ok.pure rfl
 rw [h, cond_false]
 have hc : checkV F N G M l = 0 := eqz' h
 refine Ok.bind ⟨_, (w29 s).trans (show t29 E0 s = some (Reader.mk s false, ()) from rfl), rfl⟩ ?_
 rintro r rfl
 dsimp only
 have e1 : W 50030 [.ptr 5 0 0, .tup [.str s, .bool false]] = some ((hdC s).1, (Reader.mk (hdC s).2.1 (hdC s).2.2, ())) := by
  refine (w50030 ⟨s, false⟩).trans ?_
  unfold t50030
  rw [E0_C]
  refine Ok.eq (Ok.bind ⟨_, w50054_ok 59 sep59 (-9223372036854775808) s false hs, rfl⟩ ?_)
  rintro r rfl
  exact Ok.pure rfl
 refine Ok.bind ⟨_, e1, rfl⟩ ?_
 rintro r rfl
 dsimp only
 have hcs := hdC_size s
 have e2 : W 50031 [.ptr 5 0 0, .tup [.str (hdC s).2.1, .bool (hdC s).2.2]] = some ((hdN s).1, (Reader.mk (hdN s).2.1 (hdN s).2.2, ())) := by
  refine (w50031 ⟨(hdC s).2.1, (hdC s).2.2⟩).trans ?_
  unfold t50031
  rw [E0_C]
  refine Ok.eq (Ok.bind ⟨_, w50054_ok 59 sep59 0 _ _ (Nat.le_trans hcs hs), rfl⟩ ?_)
  rintro r rfl
  exact Ok.pure rfl
 refine Ok.bind ⟨_, e2, rfl⟩ ?_
 rintro r rfl
 dsimp only
 have hn0 := hdN_nn s
 have hss := st0_size s
 have hK : (bif decide ((N.length : Int) < (hdN s).1) then (N.length : Int) else (hdN s).1) = ((min N.length (hdN s).1.toNat : Nat) : Int) := by
  by_cases h : (N.length : Int) < (hdN s).1
  ·rw [decide_eq_true h, cond_true]; omega
  ·rw [decide_eq_false h, cond_false]; omega
 refine Ok.after (Ok.range (min N.length (hdN s).1.toNat) (fun i v => ∃ z1 z2 z3 z4 z7 z8 z9 z10 z11 z12 z13, v = ((l, z1, z2, z3, z4, (hdC s).1, (hdN s).1, z7, z8, z9, z10, z11, z12, z13, ()), ((F, N, ()), (G, M, ()), (tx (st0 s) i).1, ((tx (st0 s) i).2.1, (tx (st0 s) i).2.2, ()), ()))) ?_ ?_ _ ⟨_, _, _, _, _, _, _, _, _, _, _, rfl⟩)
 ·rintro i v hi ⟨z1, z2, z3, z4, z7, z8, z9, z10, z11, z12, z13, rfl⟩
  dsimp only
  have hT := tx_ok (st0_inv s) i
  rw [hT.len, hK, ltb hi, cond_true]
  refine Ok.bind ⟨_, w50032_ok _ _ (by have := hT.rest; omega) hT.inv, rfl⟩ ?_
  rintro r rfl
  dsimp only
  rw [room (by simp only [List.length_singleton]; omega), cond_true]
  exact Ok.pure ⟨_, _, _, _, _, _, _, _, _, _, _, rfl⟩
 ·rintro v ⟨z1, z2, z3, z4, z7, z8, z9, z10, z11, z12, z13, rfl⟩
  dsimp only
  have hT := tx_ok (st0_inv s) (min N.length (hdN s).1.toNat)
  rw [hT.len, hK, geb (Nat.le_refl _), cond_false]
  refine Ok.pure ?_
  dsimp only
  refine Ok.bind ⟨_, (w50033 (tx (st0 s) (min N.length (hdN s).1.toNat)).2.1 (tx (st0 s) (min N.length (hdN s).1.toNat)).2.2).trans (show t50033 E0 (tx (st0 s) (min N.length (hdN s).1.toNat)).2.1 (tx (st0 s) (min N.length (hdN s).1.toNat)).2.2 = some (doneB (tx (st0 s) (min N.length (hdN s).1.toNat)).2.1 (tx (st0 s) (min N.length (hdN s).1.toNat)).2.2, ()) from rfl), rfl⟩ ?_
  rintro r rfl
  dsimp only
  refine Ok.bif (fun h => ?_) (fun h => ?_)
  ·have : wholeB s N.length = false := by
    cases hw : wholeB s N.length with
    | false => rfl
    | true =>
     unfold wholeB at hw
     rw [Bool.and_eq_true] at hw
     obtain ⟨h1, h2⟩ := hw
     have h2 := eqz h2
     rw [show min N.length (hdN s).1.toNat = N.length from by omega, h1, h2] at h
     simp at h
   rw [this]
   exact Ok.pure rfl
  obtain ⟨g1, g2⟩ := norb h
  have g2 := eqz' g2
  have hmin : min N.length (hdN s).1.toNat = N.length := by omega
  rw [hmin] at g1 ⊢
  have hw : wholeB s N.length = true := by
   unfold wholeB
   rw [show doneB (tx (st0 s) N.length).2.1 (tx (st0 s) N.length).2.2 = true from by simpa using g1, g2, Bool.true_and]
   exact beq_self_eq_true _
  rw [hw, cond_true]
  refine Ok.bind ⟨_, w11_eq G M hm l hll, rfl⟩ ?_
  rintro r rfl
  dsimp only
  refine Ok.bif (fun h => ?_) (fun hf => ?_)
  ·rw [h]; exact Ok.pure rfl
  rw [hf, cond_false]
  simp only [decide_eq_false_iff_not] at hf
  have hsz := fun k hk => out_size (N := N) (s := s) hs hm hc hf k hk
  have h0 := hsz 0 (Nat.zero_le _)
  refine Ok.bind ⟨_, w34_ok _ (hdC_rng s), rfl⟩ ?_
  rintro r rfl
  dsimp only
  refine Ok.bind ⟨_, w35_ok _ (by omega) (by omega), rfl⟩ ?_
  rintro r rfl
  dsimp only
  have e0 : intB (hdC s).1 ++ intB (M.length : Int) = outB N M l s 0 := rfl
  rw [← bszapp, e0, decide_eq_true (show (outB N M l s 0).size ≤ 9223372036854775807 by omega), cond_true]
  have hlM := (check_zero hc).1
  have hTN := tx_ok (st0_inv s) N.length
  refine Ok.after (Ok.range M.length (fun i v => ∃ z1 z2 z3 z4 z5 z6 z8 z9 z10 z11 z12 z13 z14 z15 z16 z17 z18 z19 z20 z21 z22 z23 z24 z25 z26 z27 z28 z29 z30, v = ((l, z1, z2, z3, z4, z5, z6, outB N M l s i, z8, z9, z10, z11, z12, z13, z14, z15, z16, z17, z18, z19, z20, z21, z22, z23, z24, z25, z26, z27, z28, z29, z30, M, (M.length : Int), (i : Int), ()), ((F, N, ()), (G, M, ()), (tx (st0 s) N.length).1, ((tx (st0 s) N.length).2.1, (tx (st0 s) N.length).2.2, ()), ()))) ?_ ?_ _ ⟨_, _, _, _, _, _, _, _, _, _, _, _, _, _, _, _, _, _, _, _, _, _, _, _, _, _, _, _, _, rfl⟩)
  ·rintro i v hi ⟨z1, z2, z3, z4, z5, z6, z8, z9, z10, z11, z12, z13, z14, z15, z16, z17, z18, z19, z20, z21, z22, z23, z24, z25, z26, z27, z28, z29, z30, rfl⟩
   dsimp only
   have hil : i < l.length := by omega
   have hsi := hsz i (by omega)
   have hsi1 := hsz (i + 1) (by omega)
   have hps := part_size (s := s) hc hf hi
   have hst : outB N M l s (i + 1) = outB N M l s i ++ textB (partB N M l s i) := rfl
   rw [hst, bszapp] at hsi1
   have hMs : M.length * 2097174 ≤ 2097152 * 2097174 := Nat.mul_le_mul_right _ hm
   have hMi : (i + 1) * 2097174 ≤ M.length * 2097174 := Nat.mul_le_mul_right _ hi
   simp only [ltb hi, ltb hil, nnb, Bool.and_true, cond_true]
   refine Ok.bind ⟨_, (w27 (rd43 M (i : Int))).trans (show t27 E0 (rd43 M (i : Int)) = some (operB (rd43 M (i : Int)), ()) from rfl), rfl⟩ ?_
   rintro r rfl
   dsimp only
   refine Ok.bif (fun ho => ?_) (fun ho => ?_)
   ·obtain ⟨j, hj1, hj2⟩ := part_there hc hf hi ho
    have hjT : j < (tx (st0 s) N.length).1.length := by rw [hTN.len]; exact hj2
    have hpart : rd9 (tx (st0 s) N.length).1 (j : Int) = partB N M l s i := by unfold partB; rw [ho, cond_true, hj1]
    simp only [hj1, ltb hjT, nnb, Bool.and_true, cond_true, hpart]
    refine Ok.bind ⟨_, w36_ok _ (by omega), rfl⟩ ?_
    rintro r rfl
    dsimp only
    rw [decide_eq_true (show (outB N M l s i).size + (textB (partB N M l s i)).size ≤ 9223372036854775807 by omega), cond_true]
    simp only [wrapK_succ hi (by omega)]
    exact Ok.pure ⟨_, _, _, _, _, _, _, _, _, _, _, _, _, _, _, _, _, _, _, _, _, _, _, _, _, _, _, _, _, rfl⟩
   ·have hpart : (⟨#[]⟩ : ByteArray) = partB N M l s i := by unfold partB; rw [ho]; rfl
    refine Ok.bind ⟨_, w36_ok _ (Nat.zero_le _), rfl⟩ ?_
    rintro r rfl
    dsimp only
    rw [hpart]
    rw [decide_eq_true (show (outB N M l s i).size + (textB (partB N M l s i)).size ≤ 9223372036854775807 by omega), cond_true]
    simp only [wrapK_succ hi (by omega)]
    exact Ok.pure ⟨_, _, _, _, _, _, _, _, _, _, _, _, _, _, _, _, _, _, _, _, _, _, _, _, _, _, _, _, _, rfl⟩
  ·rintro v ⟨z1, z2, z3, z4, z5, z6, z8, z9, z10, z11, z12, z13, z14, z15, z16, z17, z18, z19, z20, z21, z22, z23, z24, z25, z26, z27, z28, z29, z30, rfl⟩
   dsimp only
   rw [geb (Nat.le_refl _), cond_false]
   refine Ok.pure ?_
   exact Ok.pure rfl
end
end Go.Fw.S1
set_option linter.unusedVariables false
set_option maxHeartbeats 1000000
set_option maxRecDepth 100000
namespace Go.Fw.S1
open Go.Proofs
theorem okPl_of {F : List Go.Fw.S1.Func} {N : List Node} (hP : SzP F N) (hf : Fit F N) : OkPl F N := by
 refine ⟨⟨hP.funcs.len, hP.funcs.body, hf.funcs⟩, hP.len, fun i h => ?_⟩
 have ha := hP.nodes _ (List.getElem_mem h)
 have hc := hf.chk i h
 exact ⟨⟨fun e he => ⟨ha.e4 e he, hc.exprs e he⟩, fun p hp => ⟨ha.e14 p hp, hc.pats p hp⟩, ha.l1, ha.l4, ha.l8, ha.l9, ha.l13, ha.l14, ha.c15.len⟩, hc.inb⟩
theorem freshL_le (N : List Node) (l : List Match) : (freshL N l N.length).length ≤ N.length := freshL_len N l N.length
theorem w3_true (h4 : W 4 [] = (some (true, ()) : Option (Bool × Unit))) {F G : List Go.Fw.S1.Func} {N M : List Node} (hP : SzP F N) (hQ : SzP G M) (l : List Match) (s : ByteArray) :
  W 3 [vP F N, vP G M, .lst 52 l, .str s] = (some (true, ()) : Option (Bool × Unit)) := by
 refine (w3 ⟨F, N⟩ ⟨G, M⟩ l s).trans ?_
 unfold t3
 rw [E0_C, E0_lp]
 refine Ok.eq (Ok.bind ⟨_, h4, rfl⟩ ?_)
 rintro r rfl
 refine Ok.bind (w5_ok F N hP 2) ?_
 rintro ⟨(b1 : Bool), u1⟩ hb1
 dsimp only at hb1 ⊢
 refine Ok.bind (Q := fun (r : Bool × Unit) => b1 = true → r.1 = true → Fit G M) ?_ ?_
 ·cases b1 with
  | false => exact ⟨_, rfl, fun h => by cases h⟩
  | true => exact (w5_ok G M hQ 2).mono fun r hr _ h => hr h
 rintro ⟨(b2 : Bool), u2⟩ hb2
 dsimp only at hb2 ⊢
 refine Ok.bif (fun h => Ok.pure rfl) (fun h => ?_)
 obtain ⟨h, hs⟩ := norb h
 obtain ⟨h, hl⟩ := norb h
 obtain ⟨h1, h2⟩ := norb h
 simp only [decide_eq_false_iff_not] at hl hs
 simp only [Bool.not_eq_false'] at h1 h2
 have fN := hb1 h1
 have fM := hb2 h1 h2
 have hN := okPl_of hP fN
 have hM := okPl_of hQ fM
 have oN : ∀ (i : Nat) (h : i < N.length), OpIn N[i] := fun i h => (fN.chk i h).op
 have oM : ∀ (i : Nat) (h : i < M.length), OpIn M[i] := fun i h => (fM.chk i h).op
 have hm := hM.len
 refine Ok.bind ⟨_, w6_ok hN hM oN oM, rfl⟩ ?_
 rintro r rfl
 refine Ok.bind ⟨_, w8_eq hN hM oN oM, rfl⟩ ?_
 rintro r rfl
 dsimp only
 have hlen : ((List.range M.length).map (matchB F N G M)).length = M.length := by simp
 generalize (List.range M.length).map (matchB F N G M) = fd at hlen
 refine Ok.bind ⟨_, w7_ok fd fd (by omega), rfl⟩ ?_
 rintro r rfl
 dsimp only
 rw [eqf_refl matchEq_refl]
 simp only [Bool.not_true, Bool.not_false, cond_true, cond_false]
 refine Ok.bind ⟨_, w9_eq hN hM oN oM l, rfl⟩ ?_
 rintro r rfl
 refine Ok.bind ⟨_, w10_eq hN hM oN oM l, rfl⟩ ?_
 rintro r rfl
 dsimp only
 rw [show (checkV F N G M l != checkV F N G M l) = false from by simp, cond_false]
 refine Ok.bind ⟨_, w11_eq G M hm l (by omega), rfl⟩ ?_
 rintro r rfl
 refine Ok.bind ⟨_, w12_eq G M hm l (by omega), rfl⟩ ?_
 rintro r rfl
 dsimp only
 have hfl := freshL_le M l
 generalize freshL M l M.length = fr at hfl
 rw [show ((fr.length : Int) != (fr.length : Int)) = false from by simp, cond_false]
 refine Ok.after (Ok.range fr.length (fun i v => ∃ z, v = ((l, s, z, true, fd, fr, (i : Int), ()), ((F, N, ()), (G, M, ()), fr, ()))) ?_ ?_ _ ⟨_, rfl⟩)
 ·rintro i v hi ⟨z, rfl⟩
  dsimp only
  simp only [ltb hi, nnb, Bool.and_true, cond_true]
  rw [show (rd3 fr (i : Int) != rd3 fr (i : Int)) = false from by simp, cond_false]
  simp only [wrapK_succ hi (by omega)]
  exact Ok.pure ⟨_, rfl⟩
 ·rintro v ⟨z, rfl⟩
  dsimp only
  rw [geb (Nat.le_refl _), cond_false]
  refine Ok.pure ?_
  dsimp only
  refine Ok.bind ⟨_, w13_ok hN hM oN oM (by omega) (by omega), rfl⟩ ?_
  rintro r rfl
  refine Ok.bind ⟨_, w14_ok hN hM oN oM (by omega) (by omega), rfl⟩ ?_
  rintro r rfl
  refine Ok.bind ⟨_, w13_ok hN hM oN oM (by omega) (by omega), rfl⟩ ?_
  rintro r rfl
  refine Ok.bind ⟨_, w14_ok hN hM oN oM (by omega) (by omega), rfl⟩ ?_
  rintro r rfl
  dsimp only
  simp only [beq_self_eq_true, cond_true]
  exact Ok.pure rfl
end Go.Fw.S1
