import Derived.Test.YtmogfjfdbbggcaaGreatDoorFwA
import Derived.Laws.OwnMore
import Derived.MapKept
import Derived.Laws.BytesString
set_option linter.all false
namespace Go.Fw
open Go.RowKit
set_option linter.unusedVariables false
set_option linter.unusedSimpArgs false
variable {T : Nat → Type} {P : Program} {tb : Tab T} {w0 : Base} {w : World} {N0 N : NS} {h : Nat → Value} {ob : List (Obj' T)}
theorem fill_all (size : Nat) (evl : Operand → Value) : ∀ (parts : List (Nat × Operand)) (n : Nat) (cs : Array Value), parts.map (·.1) = List.range' n parts.length → (∀ p ∈ parts, (evl p.2).cells.size = size) → (n + parts.length) * size ≤ cs.size →
  ∃ out : Array Value, Instr.fill (fun i => some (i * size, size)) cs (parts.map fun (i, x) => (i, evl x)) = some out ∧ out.size = cs.size ∧
   ∀ j, out.getD j undef = if n * size ≤ j ∧ j < (n + parts.length) * size then (parts.flatMap fun p => (evl p.2).cells.toList).getD (j - n * size) undef else cs.getD j undef := by
 intro parts
 induction parts with
 | nil => intro n cs _ _ _; exact ⟨cs, rfl, rfl, fun j => by rw [if_neg (by simp only [List.length_nil, Nat.add_zero]; omega)]⟩
 | cons p r ih =>
  intro n cs hn hs hle
  obtain ⟨i, x⟩ := p
  simp only [List.map_cons, List.length_cons, List.range'_succ, List.cons.injEq] at hn
  obtain ⟨rfl, hn⟩ := hn
  have hx : (evl x).cells.size = size := hs _ (List.mem_cons_self ..)
  simp only [List.length_cons] at hle
  have e1 : (i + (r.length + 1)) * size = i * size + size + r.length * size := by rw [Nat.add_mul, Nat.add_mul]; omega
  obtain ⟨f1, f2⟩ := foldl_splice (evl x).cells.toList (i * size) 0 cs (by simp only [Array.length_toList, hx]; omega)
  have hz1 : ((evl x).cells.zipIdx.foldl (fun cs (c, j) => cs.setIfInBounds (i * size + j) c) cs) = ((evl x).cells.toList.zipIdx 0).foldl (fun cs (c, j) => cs.setIfInBounds (i * size + j) c) cs := by
   rw [← Array.foldl_toList, Array.toList_zipIdx]
  have e2 : (i + 1 + r.length) * size = i * size + size + r.length * size := by rw [Nat.add_mul, Nat.add_mul]; omega
  obtain ⟨out, o1, o2, o3⟩ := ih (i + 1) (((evl x).cells.toList.zipIdx 0).foldl (fun cs (c, j) => cs.setIfInBounds (i * size + j) c) cs) hn (fun p hp => hs p (List.mem_cons_of_mem _ hp)) (by rw [f1]; omega)
  refine ⟨out, ?_, by rw [o2, f1], fun j => ?_⟩
  ·simp only [List.map_cons, Instr.fill]
   rw [if_neg (by simp only [Bool.or_eq_true, bne_iff_ne, decide_eq_true_eq]; omega), hz1]
   exact o1
  ·rw [o3 j, f2 j]
   simp only [Array.length_toList, hx, Nat.add_zero, List.length_cons, List.flatMap_cons, Nat.sub_zero]
   have e3 : (i + 1) * size = i * size + size := by rw [Nat.succ_mul]
   by_cases h1 : (i + 1) * size ≤ j ∧ j < (i + 1 + r.length) * size
   ·rw [if_pos h1, if_pos (by omega)]
    simp only [List.getD_eq_getElem?_getD]
    rw [List.getElem?_append_right (by simp only [Array.length_toList, hx]; omega)]
    simp only [Array.length_toList, hx]
    have : j - (i + 1) * size = j - i * size - size := by omega
    rw [this]
   ·rw [if_neg h1]
    by_cases h2 : i * size ≤ j ∧ j < i * size + size
    ·rw [if_pos h2, if_pos (by omega)]
     simp only [List.getD_eq_getElem?_getD]
     rw [List.getElem?_append_left (by simp only [Array.length_toList, hx]; omega)]
    ·rw [if_neg h2, if_neg (by omega)]
theorem buildSlice_sound (ok : TabOk P tb) (m : Mem tb w0 w N0 N h ob) {t e len d : Nat} (ht : tb.elem t = some e) (hd : d < ob.length) (hn : d < w0.n) {parts : Array (Nat × Operand)} {ρ : Operand → Val T} {evl : Operand → Value}
  (hρ : ∀ x, Rep tb w N h ob (ρ x) (evl x)) (hlen : parts.toList.length = len) (hsz : len * tb.size e ≤ 16777216) {ys : List (T e)} {ob' : List (Obj' T)} (he : elemsV tb e ρ parts.toList 0 ob = some (ys, ob')) :
  OpPost tb w0 w N0 N h ob ((do pure (Next.value (← Instr.buildSlice t len (parts.map fun (i, x) => (i, evl x)))) : Sem Next).run P w) (newRow ob' d e ys).1 (newRow ob' d e ys).2 := by
 obtain ⟨hu, ⟨i, z, hi, hz, hs1, hby, hzs⟩, hpos, hb, hl, _⟩ := ok.elem t e ht
 obtain ⟨N', cvs, m', t1, n1, l1, y1, p1, rfl, s1, z1⟩ := elemsV_sound ok parts.toList 0 m hρ he
 obtain ⟨out, o1, o2, o3⟩ := fill_all (tb.size e) evl parts.toList 0 ((Array.range (len * tb.size e)).map (z.cells[· % z.cells.size]!)) p1 s1 (by simp [hlen])
 have hcl : (parts.toList.flatMap fun p => (evl p.2).cells.toList).length = len * tb.size e := by rw [z1.1, flat_len tb e _ hl, y1, hlen]
 have hout : out = (parts.toList.flatMap fun p => (evl p.2).cells.toList).toArray := by
  have hsz' : out.size = len * tb.size e := by rw [o2]; simp
  apply Array.ext
  ·simp [hcl, hsz']
  ·intro j h1 h2
   have := o3 j
   rw [if_pos (by simp [hlen]; omega)] at this
   simp only [Nat.zero_mul, Nat.sub_zero, Array.getD_eq_getD_getElem?, List.getD_eq_getElem?_getD] at this
   rw [Array.getElem?_eq_getElem h1, List.getElem?_eq_getElem (by simpa using h2)] at this
   simpa using this
 have hrun : (do pure (Next.value (← Instr.buildSlice t len (parts.map fun (i, x) => (i, evl x)))) : Sem Next).run P w = .ok (.value (.slice (some ⟨w.heap.size, 0, none⟩) len len)) (w.alloc (.cells out e)) := by
  have hno : ¬ (len * tb.size e > 2 ^ 24) := by omega
  have hfill : Instr.fill (fun i => some (i * tb.size e, tb.size e)) ((Array.range (len * tb.size e)).map (z.cells[· % z.cells.size]!)) (parts.map fun (i, x) => (i, evl x)).toList = some out := by
   rw [Array.toList_map]; exact o1
  by_cases h0 : len = 0
  ·subst h0
   have hp0 : parts = #[] := by
    apply Array.toList_inj.1
    simpa using List.eq_nil_of_length_eq_zero hlen
   subst hp0
   simp only [List.flatMap_nil] at hout
   subst hout
   simp [Instr.buildSlice, run_underlying hu, sizeOf, typeInfo, hi, hs1, Instr.fill, Go.newRow, newObj, Sem.run]
   congr 2
   exact Array.eq_empty_of_size_eq_zero (by simp)
  ·have h1 : len * tb.size e ≠ 0 := Nat.mul_ne_zero h0 (by omega)
   simp only [Instr.buildSlice, Sem.run_bind, run_underlying hu, Result.andThen_ok]
   simp only [sizeOf, typeInfo, Sem.run_bind, program, Sem.run, hi, Result.andThen_ok, Sem.run_pure, hs1, if_neg hno, if_neg h1, zeroValue, hz]
   have hf2 : Instr.fill (fun i => some (i * tb.size e, tb.size e)) ((Array.range (len * tb.size e)).map (z.cells[· % z.cells.size]!)) (Array.map (fun x => (x.fst, evl x.snd)) parts).toList = some out := hfill
   rw [hf2]
   simp [Go.newRow, newObj, Sem.run]
 have hp := post_row (d := d) m' (by omega) hn ht (xs := ys) (v := .slice (some ⟨w.heap.size, 0, none⟩) len len) (w' := w.alloc (.cells out e)) (cvs := out.toList) (below_alloc w _)
  (by rw [y1, hlen]; exact World.ownsRow_lit w out len (Nat.zero_le _) (by unfold maxLen; have : len ≤ len * tb.size e := Nat.le_mul_of_pos_right _ hpos; omega) (by rw [o2]; simp)) (fun g hg => by simp [blk] at hg; omega) (by rw [hout]; exact z1) hrun
 obtain ⟨u, w', N2, h', r1, r2, r3, r4, r5, r6, r7⟩ := hp
 exact ⟨u, w', N2, h', r1, r2, r3, t1.trans r4, r5.sub n1, fun b o hb => r6 b o (n1 b o hb), by omega⟩
theorem buildRowx_sound (ok : TabOk P tb) (m : Mem tb w0 w N0 N h ob) {t e len d : Nat} (ht : tb.elem t = some e) (hd : d < ob.length) (hn : d < w0.n) {parts : Array (Nat × Operand)} {ρ : Operand → Val T} {evl : Operand → Value}
  (hρ : ∀ x, Rep tb w N h ob (ρ x) (evl x)) {k0 v0 : Nat} (hv : nestV tb t ob d (parts.toList.map fun p => ρ p.2) = some (k0, v0)) (hc : (Nat.beq len 1 && Nat.beq (parts.toList.map (·.1)).sum 0) = true) :
  OpPost tb w0 w N0 N h ob ((do pure (Next.value (← Instr.buildSlice t len (parts.map fun (i, x) => (i, evl x)))) : Sem Next).run P w) (newRowx ob d e k0 v0).1 (newRowx ob d e k0 v0).2 := by
 obtain ⟨hu, ⟨i, z, hi, hz, hs1, hby, hzs⟩, hpos, hb, hl, _⟩ := ok.elem t e ht
 simp only [Bool.and_eq_true] at hc
 obtain ⟨hc1, hc2⟩ := hc
 have hc1 := Nat.eq_of_beq_eq_true hc1
 subst hc1
 obtain ⟨⟨q, x⟩, hpl⟩ : ∃ p, parts.toList = [p] := by
  unfold nestV at hv
  split at hv
  ·rename_i k1 v1 heq
   cases hp : parts.toList with
   | nil => rw [hp] at heq; cases heq
   | cons p r =>
    rw [hp] at heq
    simp only [List.map_cons, List.cons.injEq, List.map_eq_nil_iff] at heq
    obtain ⟨_, rfl⟩ := heq
    exact ⟨p, rfl⟩
  ·cases hv
 rw [hpl] at hv hc2
 simp only [List.map_cons, List.map_nil, List.sum_cons, List.sum_nil, Nat.add_zero] at hv hc2
 have hq := Nat.eq_of_beq_eq_true hc2
 subst hq
 simp only [nestV] at hv
 revert hv
 cases hX : ρ x with
 | own k1 v1 =>
  simp only
  cases hk0 : getO ob k1 with
  | mk v2 bd =>
   split
   ·rename_i v3 e3 xs3 hnest heq
    split
    ·rename_i hcc
     obtain ⟨rfl, hne⟩ := hcc
     intro hh
     simp only [Option.some.injEq, Prod.mk.injEq] at hh
     obtain ⟨rfl, rfl⟩ := hh
     have hx := hρ x
     rw [hX] at hx
     obtain ⟨A, n0, c0, hvs⟩ : ∃ A n c, evl x = .slice A n c := by cases hx with | fz hz => cases hz | own _ h0 _ => exact h0
     have hsz1 : tb.size e = 1 := by
      unfold nestB at hnest
      rw [ht] at hnest
      simp only at hnest
      revert hnest
      repeat' split
      all_goals (intro hnest; first | exact Nat.eq_of_beq_eq_true hnest | cases hnest)
     have hp1 : parts = #[(0, x)] := Array.toList_inj.1 (by rw [hpl])
     have hrun : (do pure (Next.value (← Instr.buildSlice t 1 (parts.map fun (i, x) => (i, evl x)))) : Sem Next).run P w = .ok (.value (.slice (some ⟨w.heap.size, 0, none⟩) 1 1)) (w.alloc (.cells #[evl x] e)) := by
      have hcl : (evl x).cells = #[evl x] := by rw [hvs]; rfl
      have hzc : z.cells.size = 1 := by rw [hzs, hsz1]
      subst hp1
      have hno : ¬ (1 * tb.size e > 2 ^ 24) := by rw [hsz1]; omega
      have h1 : 1 * tb.size e ≠ 0 := by rw [hsz1]; omega
      have hf2 : Instr.fill (fun i => some (i * tb.size e, tb.size e)) ((Array.range (1 * tb.size e)).map (z.cells[· % z.cells.size]!)) [(0, evl x)] = some #[evl x] := by
       rw [hsz1]
       have hrg : (Array.range (1 * 1)).map (z.cells[· % z.cells.size]!) = #[z.cells[0]!] := by
        apply Array.ext
        ·simp
        ·intro i h1 h2
         have : i = 0 := by simpa using h2
         subst this
         simp
       rw [hrg]
       simp [Instr.fill, hcl]
      simp only [Instr.buildSlice, Sem.run_bind, run_underlying hu, Result.andThen_ok]
      simp only [sizeOf, typeInfo, Sem.run_bind, program, Sem.run, hi, Result.andThen_ok, Sem.run_pure, hs1, if_neg hno, if_neg h1, zeroValue, hz]
      simp only [List.map_toArray, List.map_cons, List.map_nil]
      rw [hf2]
      simp [Go.newRow, newObj, Sem.run]
     have hB : Below w.heap.size w (w.alloc (.cells #[evl x] e)) := below_alloc w _
     have hT := Turn.bump (h := h) hd (.rowx e [] k1 v3) (.slice (some ⟨w.heap.size, 0, none⟩) 1 1)
     have hw : Kept w (w.alloc (.cells #[evl x] e)) N := Kept.blocks hB.size fun b o hbN => hB.block b (m.nlt b o hbN)
     have hown : (w.alloc (.cells #[evl x] e)).ownsRow 0 e 1 (.slice (some ⟨w.heap.size, 0, none⟩) 1 1) 1 [evl x] := World.ownsRow_lit w #[evl x] 1 (Nat.zero_le _) (by unfold maxLen; omega) (by simp)
     refine ⟨_, _, N, upd h d _, .inl hrun, m.new hd hn hB (fun g hg => ?_) ?_, ?_, hT, hw, fun _ _ x => x, by simp [newRowx]⟩
     ·simp only [blk, Option.some.injEq] at hg
      subst hg
      exact ⟨Nat.le_refl _, by simp⟩
     ·exact ⟨⟨t, ht⟩, hsz1, [], evl x, hown, ⟨by simp [flat], by simp⟩, hx.mono hw (fun _ _ x => x) hT⟩
     ·exact .ownx (by simp [newRowx, getO_set_same hd]) ⟨_, _, _, rfl⟩ (fun e' xs' hk => by simp [upd])
    ·intro hh; cases hh
   ·intro hh; cases hh
 | _ => simp
theorem makeSlice_sound (ok : TabOk P tb) (m : Mem tb w0 w N0 N h ob) {t e d : Nat} (ht : tb.elem t = some e) {cs : List (Val T)} (hz : tb.zero e = some cs) {z : T e} (hu : tb.unc e cs = some z) (hd : d < ob.length) (hn : d < w0.n) {n : Int} (hn0 : 0 ≤ n)
  (hroom : n.toNat * tb.bytes e ≤ maxRoom) {r : Result Next} (hr : r = (do pure (Next.value (← Instr.makeSlice t (.int .i64 n) (.int .i64 n))) : Sem Next).run P w) :
  OpPost tb w0 w N0 N h ob r (newRow ob d e (List.replicate n.toNat z)).1 (newRow ob d e (List.replicate n.toNat z)).2 := by
 obtain ⟨hun, ⟨i, z1, hi, hzi, hs1, hby, hzs⟩, hpos, hb, hl, hp⟩ := ok.elem t e ht
 obtain ⟨i', z', hi', hzi', hsz', hcs⟩ := ok.zero e cs hz
 rw [hi] at hi'
 cases hi'
 rw [hzi] at hzi'
 cases hzi'
 obtain ⟨k, rfl⟩ : ∃ k : Nat, n = (k : Int) := ⟨n.toNat, by omega⟩
 simp only [Int.toNat_natCast] at hroom ⊢
 unfold maxRoom at hroom
 have hk : k ≤ maxLen := by
  have : k ≤ k * tb.bytes e := Nat.le_mul_of_pos_right _ hb
  unfold maxLen; omega
 obtain ⟨w', h1, h2, h3⟩ := run_make_full (P := P) w 0 t e i z1 (tb.size e) hun hi hzi hs1 .i64 .i64 k (by rw [hby, Nat.mul_comm]; omega) hk (Nat.zero_le _)
 have hsim := ok.unc _ _ _ hu
 have hB : Below w.heap.size w w' := ⟨h3.os, h3.tape, h3.output, h3.size, fun k hk => h3.block k hk (by simp)⟩
 refine post_row m hd hn ht hB (by simpa using h2) (fun g hg => by simp [blk] at hg; omega) ⟨?_, fun j V v hV hv => ?_⟩ (by rw [hr]; simp [h1])
 ·simp [size_madeCells, flat_len tb e _ hl]
 ·obtain ⟨x, hx, hxV⟩ := flat_idx tb e (tb.size e) hpos hl _ j V hV
  have hxz : x = z := by
   have := List.mem_of_getElem? hx
   exact (List.mem_replicate.1 this).2
  subst hxz
  have hj : j < k * tb.size e := by
   have := (List.getElem?_eq_some_iff.1 hV).1
   rwa [flat_len tb e _ hl, List.length_replicate] at this
  have hjm : j % tb.size e < tb.size e := Nat.mod_lt _ hpos
  have hve : v = z1.cells.getD (j % tb.size e) undef := by
   have : (madeCells z1.cells (k * tb.size e))[j]? = some v := by simpa using hv
   simp only [madeCells, Array.getElem?_map] at this
   rw [Array.getElem?_range] at this
   rw [if_pos hj] at this
   simp only [Option.map_some, Option.some.injEq] at this
   rw [← this, hzs]
   rw [getElem!_pos z1.cells (j % tb.size e) (by omega)]
   simp [Array.getD, show j % tb.size e < z1.cells.size by omega]
  rw [hve]
  have hcl : cs.length = tb.size e := by rw [← hsim.1, hl]
  obtain ⟨q, hd⟩ : ∃ q, cs[j % tb.size e]? = some q := ⟨_, List.getElem?_eq_getElem (by omega)⟩
  have hsm := hsim.2 (j % tb.size e) V _ hxV hd
  have hc := hcs _ _ hd
  refine Fz.sim hsm ?_
  generalize z1.cells.getD (j % tb.size e) undef = u at hc
  have hpv := hp x V (List.mem_of_getElem? hxV)
  cases hc with
  | int a => exact .int a
  | bool => exact .bool
  | str a => exact .str a
  | nil => exact .nil
  | junk =>
   cases hsm with
   | rfl => cases hpv
end Go.Fw
namespace Go.Fw
open Go.RowKit
set_option linter.unusedVariables false
set_option linter.unusedSimpArgs false
variable {T : Nat → Type} {P : Program} {tb : Tab T} {w0 : Base} {w : World} {N0 N : NS} {h : Nat → Value} {ob : List (Obj' T)}
theorem store_row (ok : TabOk P tb) (m : Mem tb w0 w N0 N h ob) {t : Nat} (ht : tb.has t = true) {k ver off : Nat} {i : Int} {e : Nat} {xs : List (T e)} {y : T e} {cs' vs vs' : List (Val T)} {V : Val T} {a v : Value} {ob1 : List (Obj' T)}
  (hv : Rep tb w N h ob V v) (hs : storeC tb t V = some vs) (hf : frzL vs ob = some (vs', ob1)) (hk : getO ob1 k = ⟨ver, .row false e xs⟩) (ha : Rep tb w N h ob (.rad k ver i off) a)
  (hsp : splice (tb.cells e (rdl tb e xs i)) off vs' = some cs') (hu : tb.unc e cs' = some y) :
  OpPost tb w0 w N0 N h ob ((do (Instr.storeAt t a v); pure Next.skip : Sem Next).run P w) .junk (ob1.set k ⟨ver, .row false e (xs.set i.toNat y)⟩) := by
 obtain ⟨⟨ti, hi, hsz⟩, hpos, _⟩ := ok.has t ht
 obtain ⟨h1, h2, h3, h4⟩ := storeC_rep hs hv
 obtain ⟨N1, m1, z1, t1, n1, l1⟩ := frzL_sound ok vs (vs := v.cells.toList) m (by simpa using h1) (fun j V v hV hv => by
  have := h4 j V hV
  rw [getD_of_toList hv] at this
  exact this) hf
 have ha1 := ha.mono (w' := w) (N' := N1) (h' := h) (ob' := ob1) (Kept.refl _ _) n1 t1
 obtain ⟨g, c, hg, hi0, hi1, rfl⟩ : ∃ g c, h k = .slice (some ⟨g, 0, none⟩) xs.length c ∧ 0 ≤ i ∧ i < xs.length ∧ a = .pointer (some ⟨g, i.toNat * tb.size e + off, none⟩) := by
  cases ha1 with
  | fz hz => cases hz
  | rad _ _ h2 => exact h2 _ _ _ hk
 obtain ⟨⟨t', ht'⟩, ⟨cvs, hown, hfl⟩, _⟩ := m1.body hk
 obtain ⟨_, _, hsp0, _, hl, _⟩ := ok.elem t' e ht'
 obtain ⟨s1, s2, s3⟩ := splice_get hsp
 rw [hl] at s1 s2
 have hzl : vs'.length = v.cells.size := by rw [← z1.1]; simp
 have hin : i.toNat < xs.length := by omega
 have hx : xs[i.toNat]? = some (rdl tb e xs i) := by simp [rdl, List.getElem?_eq_getElem hin]
 have hrow : (i.toNat + 1) * tb.size e ≤ xs.length * tb.size e := Nat.mul_le_mul_right _ hin
 rw [Nat.succ_mul] at hrow
 obtain ⟨gg, cap, cur, hgv, _, hgh, hnc, hcm, hcs, htake⟩ : ∃ g' cap cur, h k = .slice (some ⟨g', 0, none⟩) xs.length cap ∧ 0 ≤ g' ∧ w.heap[g']? = some (.cells cur e (0, 0)) ∧ xs.length ≤ cap ∧ cap ≤ maxLen ∧ cur.size = cap * tb.size e ∧ cur.toList.take (xs.length * tb.size e) = cvs := by
  rcases hown.2 with ⟨hn, hn2⟩ | hh
  ·omega
  ·exact hh
 have hge : gg = g := by rw [hg] at hgv; simp at hgv; exact hgv.1.symm
 subst hge
 have hcap : xs.length * tb.size e ≤ cap * tb.size e := Nat.mul_le_mul_right _ hnc
 obtain ⟨w', cv', r1, r2, r3, r4, r5, r6, r7, r8, r9⟩ := run_store_block (P := P) hgh (off := i.toNat * tb.size e + off) (vs := v.cells.toList) (by simp only [Array.length_toList]; omega) h3
 have hblk : blk (h k) = some gg := by rw [hg]; rfl
 have hNb : ∀ o, ¬ N1 gg o := fun o => (m1.live k gg (by rw [hk]; rfl) hblk).2.1 o (by rw [hk]; exact Nat.zero_le _)
 have hNN : Kept w w' N1 := Kept.blocks (Nat.le_of_eq r6.symm) fun b' o hb' => r5 b' (by rintro rfl; exact hNb o hb')
 have hsk : sameKind (.row false e xs : Body T) (.row false e (xs.set i.toNat y)) := ⟨rfl, by simp⟩
 have htn := Turn.set (h := h) hk hsk
 have hsim := ok.unc e cs' y hu
 have hbody : BodyRep tb w' N1 h (ob1.set k ⟨ver, .row false e (xs.set i.toNat y)⟩) (h k) (.row false e (xs.set i.toNat y)) := by
  refine ⟨⟨t', ht'⟩, ⟨cv'.toList.take (xs.length * tb.size e), ⟨by simp only [List.length_take, Array.length_toList, List.length_set]; omega, .inr ⟨gg, cap, cv', by rw [hgv, List.length_set], Nat.zero_le _, r2, by simpa using hnc, hcm, by rw [r3, hcs], by simp⟩⟩,
   by simp only [List.length_take, Array.length_toList, flat_len tb e _ hl, List.length_set]; omega, fun q V u hV hq => ?_⟩, fun hh => by cases hh⟩
  have hq1 : q < xs.length * tb.size e := by have := (List.getElem?_eq_some_iff.1 hV).1; rw [flat_len tb e _ hl, List.length_set] at this; exact this
  rw [List.getElem?_take, if_pos hq1] at hq
  have hqv : u = cv'.getD q undef := by rw [Array.getElem?_toList] at hq; simp [Array.getD_eq_getD_getElem?, hq]
  rw [hqv, r4 q]
  obtain ⟨x, hx1, hx2⟩ := flat_idx tb e (tb.size e) hsp0 hl _ q V hV
  have hdm : q / tb.size e * tb.size e + q % tb.size e = q := by rw [Nat.mul_comm]; exact Nat.div_add_mod q _
  have hmod : q % tb.size e < tb.size e := Nat.mod_lt _ hsp0
  have hold : ∀ W, (flat tb e xs)[q]? = some W → Fz tb w' N1 W (cur.getD q undef) := fun W hW => by
   have hqc : q < cvs.length := by rw [hfl.1, flat_len tb e _ hl]; exact hq1
   have hcv : cvs[q]? = some (cur.getD q undef) := by
    rw [← htake, List.getElem?_take, if_pos hq1, Array.getElem?_toList]
    simp [show q < cur.size by omega]
   exact (hfl.2 q W _ hW hcv).mono hNN (fun _ _ x => x)
  by_cases hqi : q / tb.size e = i.toNat
  ·rw [hqi, List.getElem?_set_self (by simpa using hin)] at hx1
   simp only [Option.some.injEq] at hx1
   subst hx1
   have hr : q % tb.size e < cs'.length := by rw [← hsim.1, hl]; exact hmod
   have hsm := hsim.2 _ V _ hx2 (List.getElem?_eq_getElem hr)
   refine Fz.sim hsm ?_
   rw [hqi] at hdm
   rcases s3 _ _ (List.getElem?_eq_getElem hr) with ⟨q1, q2, q3⟩ | ⟨q1, q2⟩
   ·rw [if_pos (by simp only [Array.length_toList]; omega)]
    have hz2 : v.cells.toList[q % tb.size e - off]? = some (v.cells.toList.getD (q - (i.toNat * tb.size e + off)) undef) := by
     have e1 : q - (i.toNat * tb.size e + off) = q % tb.size e - off := by omega
     rw [e1, List.getD_eq_getElem?_getD, List.getElem?_eq_getElem (by simp only [Array.length_toList]; omega)]
     rfl
    exact (z1.2 _ _ _ q3 hz2).mono hNN (fun _ _ x => x)
   ·rw [if_neg (by simp only [Array.length_toList]; omega)]
    have := flat_get tb e (tb.size e) hl xs i.toNat (q % tb.size e) _ _ hx q2
    rw [hdm] at this
    exact hold _ this
  ·rw [List.getElem?_set_ne (Ne.symm hqi)] at hx1
   rw [if_neg (by
    simp only [Array.length_toList]
    intro hc
    apply hqi
    have e1 : q / tb.size e * tb.size e ≤ q := Nat.div_mul_le_self _ _
    have e2 : q < (q / tb.size e + 1) * tb.size e := by rw [Nat.succ_mul]; omega
    rcases Nat.lt_trichotomy (q / tb.size e) i.toNat with hlt | heq | hgt
    ·have : (q / tb.size e + 1) * tb.size e ≤ i.toNat * tb.size e := Nat.mul_le_mul_right _ hlt
     omega
    ·exact heq
    ·have : (i.toNat + 1) * tb.size e ≤ q / tb.size e * tb.size e := Nat.mul_le_mul_right _ hgt
     rw [Nat.succ_mul] at this
     omega)]
   have := flat_get tb e (tb.size e) hl xs _ _ _ _ hx1 hx2
   rw [hdm] at this
   exact hold _ this
 obtain ⟨m', hN⟩ := m1.stored hk hsk rfl rfl rfl (b := gg) hblk r5 r6 r7 r8 r9 hbody
 refine ⟨undef, w', N1, h, .inr ⟨?_, rfl⟩, m', .junk, t1.trans htn, hN.sub n1, n1, by simp [l1]⟩
 have : v.cells.size = ti.size := by omega
 simp [Instr.storeAt, Instr.sureAddr, storeVar, sizeOf, typeInfo, hi, this, r1]
end Go.Fw
namespace Go.Fw
open Go.RowKit
set_option linter.unusedVariables false
set_option linter.unusedSimpArgs false
variable {T : Nat → Type} {P : Program} {tb : Tab T} {w0 : Base} {w : World} {N0 N : NS} {h : Nat → Value} {ob : List (Obj' T)}
theorem rdl_get (tb : Tab T) (e : Nat) {xs : List (T e)} {n : Int} (h0 : 0 ≤ n) (h1 : n < xs.length) : xs[n.toNat]? = some (rdl tb e xs n) := by
 have : n.toNat < xs.length := by omega
 simp [rdl, List.getElem?_eq_getElem this]
theorem indexAddr_lst (ok : TabOk P tb) {t e : Nat} (ht : tb.elem t = some e) {xs : List (T e)} {x : Value} {k : IntKind} {n : Int} (hx : Fz tb w N (.lst e xs) x) (h0 : 0 ≤ n) (h1 : n < xs.length) :
  ∃ u, (Instr.indexAt t x (.int k n)).run P w = .ok u w ∧ Fz tb w N (.adr (tb.cells e (rdl tb e xs n)) 0) u := by
 obtain ⟨hu, ⟨i, z, hinf, hz, hs1, hby, hzs⟩, hpos, hb, hl, _⟩ := ok.elem t e ht
 obtain ⟨A, c, rfl, hc1, hc2, b, o, vs, g1, gN, g2, g3⟩ := hx.lst_inv
 have hin : n.toNat < xs.length := by omega
 obtain ⟨rfl, _⟩ := g1 (by omega)
 refine ⟨.pointer (some ⟨b, o + n.toNat * tb.size e, none⟩), ?_, ?_⟩
 ·have hnl : n < (xs.length : Int) := h1
  simp [Instr.indexAt, asIntOf, run_underlying hu, sizeOf, typeInfo, hinf, hs1, h0, hnl, add_at]
 ·have := Fz.adr (tb := tb) (w := w) (N := N) (cs := tb.cells e (rdl tb e xs n)) (off := 0) (b := b) (o := o + n.toNat * tb.size e) (fun j => vs n.toNat j) (fun j hj => by
   rw [hl] at hj
   have := gN n.toNat j hin hj
   rw [Nat.add_assoc]; exact this) (fun j hj => by
   rw [hl] at hj
   have := g2 n.toNat j hin hj
   rw [Nat.add_assoc]; exact this) (fun j V hV => g3 n.toNat j _ V (rdl_get tb e h0 h1) hV)
  simpa using this
theorem indexAddr_own (ok : TabOk P tb) (m : Mem tb w0 w N0 N h ob) {t e : Nat} (ht : tb.elem t = some e) {kk ver : Nat} {xs : List (T e)} {x : Value} {k : IntKind} {n : Int} (hk : getO ob kk = ⟨ver, .row false e xs⟩)
  (hx : Rep tb w N h ob (.own kk ver) x) (h0 : 0 ≤ n) (h1 : n < xs.length) :
  ∃ u, (Instr.indexAt t x (.int k n)).run P w = .ok u w ∧ Rep tb w N h ob (.rad kk ver n 0) u := by
 obtain ⟨hu, ⟨i, z, hinf, hz, hs1, hby, hzs⟩, hpos, hb, hl, _⟩ := ok.elem t e ht
 have := hx.own_eq hk
 subst this
 obtain ⟨_, ⟨cvs, hown, _⟩, _⟩ := m.body hk
 rcases hown.2 with ⟨_, hn⟩ | ⟨g, cap, cur, hg, _, hh, _⟩
 ·omega
 ·rw [hg]
  refine ⟨.pointer (some ⟨g, n.toNat * tb.size e, none⟩), ?_, .rad (by rw [hk]; exact Nat.le_refl _) ⟨_, rfl⟩ (fun fz e' xs' hk' => ?_)⟩
  ·have hnl : n < (xs.length : Int) := h1
   simp [Instr.indexAt, asIntOf, run_underlying hu, sizeOf, typeInfo, hinf, hs1, h0, hnl, add_at]
  ·rw [hk] at hk'
   simp only [Obj'.mk.injEq, Body.row.injEq, true_and] at hk'
   obtain ⟨rfl, rfl, hx⟩ := hk'
   have hx := eq_of_heq hx
   subst hx
   exact ⟨g, cap, hg, h0, h1, by simp⟩
theorem indexAddr_ownx (ok : TabOk P tb) (m : Mem tb w0 w N0 N h ob) {t e : Nat} (ht : tb.elem t = some e) {kk ver k0 v0 k1 v1 : Nat} {xs : List (T e)} {x : Value} {k : IntKind} {n : Int} (hk : getO ob kk = ⟨ver, .rowx e xs k1 v1⟩)
  (hx : Rep tb w N h ob (.ownx kk ver k0 v0) x) (h0 : k1 = k0) (h0' : v1 = v0) (h1 : n = xs.length) :
  ∃ u, (Instr.indexAt t x (.int k n)).run P w = .ok u w ∧ Rep tb w N h ob (.radx kk ver) u := by
 obtain ⟨hu, ⟨i, z, hinf, hz, hs1, hby, hzs⟩, hpos, hb, hl, _⟩ := ok.elem t e ht
 subst h0; subst h0'
 have := hx.ownx_eq hk
 subst this
 obtain ⟨_, hs1', cvs, hv0, hown, _⟩ := m.body hk
 rcases hown.2 with ⟨_, hn⟩ | ⟨g, cap, cur, hg, _, hh, _⟩
 ·omega
 ·rw [hg]
  subst h1
  refine ⟨.pointer (some ⟨g, xs.length, none⟩), ?_, .radx (by rw [hk]; exact Nat.le_refl _) ⟨_, rfl⟩ (fun e' xs' k2 v2 hk' => ?_)⟩
  ·have hnl : (xs.length : Int) < ((xs.length + 1 : Nat) : Int) := by omega
   have hn0 : (0 : Int) ≤ (xs.length : Int) := by omega
   simp [Instr.indexAt, asIntOf, run_underlying hu, sizeOf, typeInfo, hinf, hs1, add_at, hs1']
  ·rw [hk] at hk'
   simp only [Obj'.mk.injEq, Body.rowx.injEq, true_and] at hk'
   obtain ⟨rfl, hx, rfl, rfl⟩ := hk'
   have hx := eq_of_heq hx
   subst hx
   exact ⟨g, cap, hg, rfl⟩
theorem Rep.ptr_some {k ver off : Nat} {v : Value} (hr : Rep tb w N h ob (.ptr k ver off) v) : ∃ a, v = .pointer (some a) := by
 cases hr with | fz hz => cases hz | ptr _ h0 _ => exact h0
theorem Rep.rad_some {k ver : Nat} {i : Int} {off : Nat} {v : Value} (hr : Rep tb w N h ob (.rad k ver i off) v) : ∃ a, v = .pointer (some a) := by
 cases hr with | fz hz => cases hz | rad _ h0 _ => exact h0
theorem fieldAddr_run (ok : TabOk P tb) {s f o ft : Nat} (hf : tb.fld s f = some (o, ft)) (a : Addr) : (Instr.fieldAt s (.pointer (some a)) f).run P w = .ok (.pointer (some (a.add o))) w := by
 obtain ⟨fs, fd, h1, h2, rfl, rfl, h5⟩ := ok.fld s f o ft hf
 obtain ⟨⟨i, hi, hs⟩, hpos, _⟩ := ok.has _ h5
 have : i.size ≠ 0 := by omega
 simp [Instr.fieldAt, run_underlying h1, h2, Instr.sureAddr, fieldPlace, sizeOf, typeInfo, hi, this]
theorem shift_rep {o : Nat} {X V : Val T} {a : Addr} (hx : Rep tb w N h ob X (.pointer (some a)))
  (hV : (∃ k ver off, X = .ptr k ver off ∧ V = .ptr k ver (off + o)) ∨ (∃ cs off, X = .adr cs off ∧ V = .adr cs (off + o)) ∨ (∃ k ver i off, X = .rad k ver i off ∧ V = .rad k ver i (off + o))) :
  Rep tb w N h ob V (.pointer (some (a.add o))) := by
 rcases hV with ⟨k, ver, off, rfl, rfl⟩ | ⟨cs, off, rfl, rfl⟩ | ⟨k, ver, i, off, rfl, rfl⟩
 ·cases hx with
  | fz hz => cases hz
  | ptr h1 _ h2 =>
   refine .ptr h1 ⟨_, rfl⟩ (fun fz cs hk => ?_)
   obtain ⟨b, hb, he⟩ := h2 fz cs hk
   simp only [Value.pointer.injEq, Option.some.injEq] at he
   subst he
   exact ⟨b, hb, by rw [add_at]⟩
 ·obtain ⟨b, o', vs, he, h1, h2, h3⟩ := hx.adr_inv
  simp only [Value.pointer.injEq, Option.some.injEq] at he
  subst he
  rw [add_at, Nat.add_assoc]
  exact .fz (.adr vs h1 h2 h3)
 ·cases hx with
  | fz hz => cases hz
  | rad h1 _ h2 =>
   refine .rad h1 ⟨_, rfl⟩ (fun fz e xs hk => ?_)
   obtain ⟨g, c, h3, h4, h5, he⟩ := h2 fz e xs hk
   simp only [Value.pointer.injEq, Option.some.injEq] at he
   subst he
   exact ⟨g, c, h3, h4, h5, by rw [add_at, Nat.add_assoc]⟩
theorem addr_some {o : Nat} {X V : Val T} {x : Value} (hx : Rep tb w N h ob X x)
  (hV : (∃ k ver off, X = .ptr k ver off ∧ V = .ptr k ver (off + o)) ∨ (∃ cs off, X = .adr cs off ∧ V = .adr cs (off + o)) ∨ (∃ k ver i off, X = .rad k ver i off ∧ V = .rad k ver i (off + o))) : ∃ a, x = .pointer (some a) := by
 rcases hV with ⟨k, ver, off, rfl, rfl⟩ | ⟨cs, off, rfl, rfl⟩ | ⟨k, ver, i, off, rfl, rfl⟩
 ·exact hx.ptr_some
 ·obtain ⟨b, o', vs, rfl, _⟩ := hx.adr_inv; exact ⟨_, rfl⟩
 ·exact hx.rad_some
theorem fieldAddr_sound (ok : TabOk P tb) {s f o ft : Nat} (hf : tb.fld s f = some (o, ft)) {X V : Val T} {x : Value} (hx : Rep tb w N h ob X x)
  (hV : (∃ k ver off, X = .ptr k ver off ∧ V = .ptr k ver (off + o)) ∨ (∃ cs off, X = .adr cs off ∧ V = .adr cs (off + o)) ∨ (∃ k ver i off, X = .rad k ver i off ∧ V = .rad k ver i (off + o))) :
  ∃ u, (Instr.fieldAt s x f).run P w = .ok u w ∧ Rep tb w N h ob V u := by
 obtain ⟨a, rfl⟩ := addr_some hx hV
 exact ⟨_, fieldAddr_run ok hf a, shift_rep hx hV⟩
theorem indexAddr_run (ok : TabOk P tb) {t e n : Nat} (ht : tb.arr t = some (e, n)) (a : Addr) (k : IntKind) {j : Int} (h0 : 0 ≤ j) (h1 : j < n) : (Instr.indexAt t (.pointer (some a)) (.int k j)).run P w = .ok (.pointer (some (a.add (j.toNat * tb.size e)))) w := by
 obtain ⟨hu, he⟩ := ok.arr t e n ht
 obtain ⟨⟨i, hi, hs⟩, _, _⟩ := ok.has e he
 have h1' : j < (n : Int) := h1
 simp [Instr.indexAt, asIntOf, run_underlying hu, Instr.sureAddr, sizeOf, typeInfo, hi, hs, h0, h1']
theorem indexAddr_arr (ok : TabOk P tb) {t e n : Nat} (ht : tb.arr t = some (e, n)) {X V : Val T} {x : Value} (hx : Rep tb w N h ob X x) (k : IntKind) {j : Int} (h0 : 0 ≤ j) (h1 : j < n)
  (hV : (∃ k ver off, X = .ptr k ver off ∧ V = .ptr k ver (off + j.toNat * tb.size e)) ∨ (∃ cs off, X = .adr cs off ∧ V = .adr cs (off + j.toNat * tb.size e)) ∨ (∃ k ver i off, X = .rad k ver i off ∧ V = .rad k ver i (off + j.toNat * tb.size e))) :
  ∃ u, (Instr.indexAt t x (.int k j)).run P w = .ok u w ∧ Rep tb w N h ob V u := by
 obtain ⟨a, rfl⟩ := addr_some hx hV
 exact ⟨_, indexAddr_run ok ht a k h0 h1, shift_rep hx hV⟩
theorem run_part (ok : TabOk P tb) {t : Nat} (ht : tb.has t = true) {cs : List (Val T)} {off : Nat} {V : Val T} (hm : mkAt (tb.agg t) (tb.size t) cs off = some V) {vs : Array Value} (hsz : vs.size = cs.length)
  (hr : ∀ (j : Nat) V, cs[j]? = some V → Rep tb w N h ob V (vs.getD j undef)) : ∃ u, (Go.part t vs off).run P w = .ok u w ∧ Rep tb w N h ob V u := by
 obtain ⟨⟨i, hi, hs⟩, hpos, hag⟩ := ok.has t ht
 unfold mkAt at hm
 cases hsl : slc cs off (tb.size t) with
 | none => rw [hsl] at hm; cases hm
 | some l =>
  rw [hsl] at hm
  obtain ⟨hl, hg⟩ := sliceCells hsl
  have hlen : ∀ j, j < tb.size t → off + j < cs.length := fun j hj => by
   have : l[j]? = some l[j] := List.getElem?_eq_getElem (by omega)
   rw [hg j hj] at this
   exact (List.getElem?_eq_some_iff.1 this).1
  cases ha : tb.agg t with
  | true =>
   rw [ha] at hm
   simp only [mkVal, Option.some.injEq] at hm
   subst hm
   have hle := hlen (tb.size t - 1) (by omega)
   refine ⟨.agg (vs.extract off (off + tb.size t)), by simp [Go.part, hag, ha, sizeOf, typeInfo, hi, hs], .agg (by simp [hl]; omega) (fun j V hV => ?_)⟩
   have hj : j < tb.size t := by have := (List.getElem?_eq_some_iff.1 hV).1; omega
   rw [hg j hj] at hV
   have := hr _ V hV
   have e1 : (vs.extract off (off + tb.size t)).getD j undef = vs.getD (off + j) undef := by
    have h2 := hlen j hj
    simp [Array.getD_eq_getD_getElem?, Array.getElem?_extract, show j < min (off + tb.size t) vs.size - off by omega, show off + j < vs.size by omega]
   rw [e1]
   exact this
  | false =>
   rw [ha] at hm
   match l, hl, hm with
   | [c], hl, hm =>
    simp only [mkVal, Option.some.injEq] at hm
    subst hm
    have h0 := hlen 0 (by omega)
    have hc : cs[off]? = some c := by have := hg 0 (by omega); simpa using this.symm
    have := hr off c hc
    refine ⟨vs.getD off undef, ?_, this⟩
    have hlt : off < vs.size := by omega
    simp [Go.part, hag, ha, hlt]
   | [], hl, hm => simp [mkVal] at hm
   | _ :: _ :: _, hl, hm => simp [mkVal] at hm
theorem slice_lst (ok : TabOk P tb) {t e : Nat} (ht : tb.elem t = some e) {xs : List (T e)} {x : Value} (hx : Fz tb w N (.lst e xs) x) {l hh : Int} (h0 : 0 ≤ l) (h1 : l ≤ hh) (h2 : hh ≤ xs.length) (lo hi : Option Value)
  (hlo : (lo = none ∧ l = 0) ∨ ∃ k, lo = some (.int k l)) (hhi : (hi = none ∧ hh = xs.length) ∨ ∃ k, hi = some (.int k hh)) :
  ∃ u, (Instr.sliceAt t x lo hi none).run P w = .ok u w ∧ Fz tb w N (.lst e ((xs.drop l.toNat).take (hh.toNat - l.toNat))) u := by
 obtain ⟨hu, ⟨i, z, hinf, hz, hs1, hby, hzs⟩, hpos, hb, hl, _⟩ := ok.elem t e ht
 obtain ⟨A, c, rfl, hc1, hc2, b, o, vs, g1, gN, g2, g3⟩ := hx.lst_inv
 have hlen : ((xs.drop l.toNat).take (hh.toNat - l.toNat)).length = hh.toNat - l.toNat := by simp; omega
 have hrun : (Instr.sliceAt t (.slice A xs.length c) lo hi none).run P w = .ok (.slice (if c = l.toNat then A else A.map (·.add (l.toNat * tb.size e))) (hh.toNat - l.toNat) (c - l.toNat)) w := by
  have hl' : ∀ k, (Instr.sliceBound (.int k l) hh.toNat .sliceB).run P w = .ok l.toNat w := fun k => by
   simp only [Instr.sliceBound, asIntOf, Sem.run_bind, Sem.run_pure, Result.andThen_ok]
   rw [if_pos ⟨h0, by omega⟩]
   rfl
  have hh' : ∀ k, (Instr.sliceBound (.int k hh) c .sliceAcap).run P w = .ok hh.toNat w := fun k => by
   simp only [Instr.sliceBound, asIntOf, Sem.run_bind, Sem.run_pure, Result.andThen_ok]
   rw [if_pos ⟨by omega, by omega⟩]
   rfl
  rcases hlo with ⟨rfl, rfl⟩ | ⟨k1, rfl⟩ <;> rcases hhi with ⟨rfl, rfl⟩ | ⟨k2, rfl⟩ <;>
   simp [Instr.sliceAt, Instr.slice, run_underlying hu, Instr.sliceBounds, sizeOf, typeInfo, hinf, hs1, hl', hh'] <;> simp_all
 refine ⟨_, hrun, ?_⟩
 refine .lst (b := b) (o := o + l.toNat * tb.size e) (fun i j => vs (l.toNat + i) j) hlen (by omega) (by omega) (fun hn => ?_) (fun i j hi hj => ?_) (fun i j hi hj => ?_) (fun i j x V hx hV => ?_)
 ·obtain ⟨rfl, hN⟩ := g1 (by omega)
  refine ⟨?_, hN⟩
  rw [if_neg (by omega)]
  simp [add_at]
 ·have := gN (l.toNat + i) j (by omega) hj
  have e1 : o + l.toNat * tb.size e + (i * tb.size e + j) = o + ((l.toNat + i) * tb.size e + j) := by rw [Nat.add_mul]; omega
  rw [e1]; exact this
 ·have := g2 (l.toNat + i) j (by omega) hj
  rw [← this, Nat.add_mul]
  congr 2
  omega
 ·have hi : i < hh.toNat - l.toNat := by have := (List.getElem?_eq_some_iff.1 hx).1; omega
  rw [List.getElem?_take, if_pos hi, List.getElem?_drop] at hx
  exact g3 _ j x V hx hV
end Go.Fw
namespace Go.Fw
open Go.RowKit
set_option linter.unusedVariables false
set_option linter.unusedSimpArgs false
variable {T : Nat → Type} {P : Program} {tb : Tab T} {w0 : Base} {w : World} {N0 N : NS} {h : Nat → Value} {ob : List (Obj' T)}
def decB : Val T → Option (Body T)
 | .tup cs => some (.box false cs)
 | .agg cs => some (.box true cs)
 | .mpv kt vt kvs => some (.mp kt vt kvs)
 | _ => none
def decL : List (Val T) → Option (List (Body T))
 | [] => some []
 | v :: r => match decB v, decL r with
  | some b, some bs => some (b :: bs)
  | _, _ => none
def obX (n : Nat) (bs : List (Body T)) : List (Obj' T) := List.replicate n ⟨0, .dead⟩ ++ bs.map (fun b => ⟨0, b⟩)
theorem decL_get : ∀ (es : List (Val T)) (bs : List (Body T)), decL es = some bs → bs.length = es.length ∧ ∀ (i : Nat) v, es[i]? = some v → ∃ b, bs[i]? = some b ∧ decB v = some b := by
 intro es
 induction es with
 | nil => intro bs hd; simp only [decL, Option.some.injEq] at hd; subst hd; exact ⟨rfl, fun i v hv => by simp at hv⟩
 | cons e es ih =>
  intro bs hd
  simp only [decL] at hd
  cases h1 : decB e with
  | none => rw [h1] at hd; cases hd
  | some b =>
   cases h2 : decL es with
   | none => rw [h1, h2] at hd; cases hd
   | some bs' =>
    rw [h1, h2] at hd
    simp only [Option.some.injEq] at hd
    subst hd
    obtain ⟨i1, i2⟩ := ih bs' h2
    refine ⟨by simp [i1], fun i v hv => ?_⟩
    cases i with
    | zero => simp at hv; subst hv; exact ⟨b, rfl, h1⟩
    | succ i => simpa using i2 i v (by simpa using hv)
theorem obX_lt {n k : Nat} (bs : List (Body T)) (hk : k < n) : getO (obX n bs) k = ⟨0, .dead⟩ := by
 unfold getO obX
 rw [List.getD_eq_getElem?_getD, List.getElem?_append_left (by simpa using hk), List.getElem?_replicate, if_pos hk]
 rfl
theorem obX_ge {n k : Nat} {bs : List (Body T)} (hk : n ≤ k) : getO (obX n bs) k = ⟨0, (bs[k - n]?).getD .dead⟩ := by
 unfold getO obX
 rw [List.getD_eq_getElem?_getD, List.getElem?_append_right (by simpa using hk), List.getElem?_map]
 simp only [List.length_replicate]
 cases bs[k - n]? <;> rfl
theorem idx_get {k : Nat} : ∀ (L : List Nat) (i0 i : Nat), idx k L i0 = some i → i0 ≤ i ∧ L[i - i0]? = some k := by
 intro L
 induction L with
 | nil => intro i0 i hi; cases hi
 | cons a L ih =>
  intro i0 i hi
  unfold idx at hi
  cases hb : Nat.beq a k with
  | true =>
   rw [hb] at hi
   simp only [Option.some.injEq] at hi
   subst hi
   refine ⟨Nat.le_refl _, ?_⟩
   rw [Nat.sub_self]
   simp [Nat.eq_of_beq_eq_true hb]
  | false =>
   rw [hb] at hi
   obtain ⟨h1, h2⟩ := ih (i0 + 1) i hi
   refine ⟨by omega, ?_⟩
   have : i - i0 = (i - (i0 + 1)) + 1 := by omega
   rw [this]
   simpa using h2
def hX (h : Nat → Value) (n : Nat) (L : List Nat) : Nat → Value := fun k => if n ≤ k then (match L[k - n]? with | some q => h q | none => undef) else undef
theorem hX_at {n i k : Nat} {L : List Nat} (hi : L[i]? = some k) : hX h n L (n + i) = h k := by
 unfold hX
 rw [if_pos (by omega)]
 have : n + i - n = i := by omega
 rw [this, hi]
def mutL (l : List XK) (L : List Nat) (k : Nat) : Prop := ∃ i : Nat, ∃ x : XK, L[i]? = some k ∧ l[i]? = some x ∧ x ≠ XK.cst
def XB (h : Nat → Value) (l : List XK) (L : List Nat) : Nat → Prop := fun b => ∃ k, mutL l L k ∧ blk (h k) = some b
def AllX (w : World) (X : Nat → Prop) : NS := fun b _ => b < w.heap.size ∧ ¬ X b
theorem encL_get {L0 : List Nat} {nb : Nat} : ∀ (l : List XK) (L : List Nat) (es : List (Val T)), encL tb ob L0 nb l L = some es → es.length = l.length ∧ L.length = l.length ∧ ∀ (i : Nat) x k, l[i]? = some x → L[i]? = some k → ∃ v, es[i]? = some v ∧ encB tb ob L0 nb k x = some v := by
 intro l
 induction l with
 | nil =>
  intro L es he
  cases L with
  | nil => simp only [encL, Option.some.injEq] at he; subst he; exact ⟨rfl, rfl, fun i x k hx => by simp at hx⟩
  | cons => cases he
 | cons x l ih =>
  intro L es he
  cases L with
  | nil => cases he
  | cons k L =>
   simp only [encL] at he
   cases h1 : encB tb ob L0 nb k x with
   | none => rw [h1] at he; cases he
   | some v =>
    cases h2 : encL tb ob L0 nb l L with
    | none => rw [h1, h2] at he; cases he
    | some r =>
     rw [h1, h2] at he
     simp only [Option.some.injEq] at he
     subst he
     obtain ⟨i1, i2, i3⟩ := ih L r h2
     refine ⟨by simp [i1], by simp [i2], fun i y k' hy hk' => ?_⟩
     cases i with
     | zero => simp at hy hk'; subst hy; subst hk'; exact ⟨v, rfl, h1⟩
     | succ i => simpa using i3 i y k' (by simpa using hy) (by simpa using hk')
theorem encB_mut {L0 : List Nat} {nb k : Nat} {x : XK} {v : Val T} (he : encB tb ob L0 nb k x = some v) (hx : x ≠ .cst) : mutb (getO ob k).body = true ∧ isRow (getO ob k).body = false ∧ lim tb (getO ob k).body = 0 := by
 cases x with
 | cst => exact absurd rfl hx
 | box t =>
  simp only [encB] at he
  cases hb : (getO ob k).body with
  | box fz cs =>
   cases fz with
   | false => exact ⟨rfl, rfl, rfl⟩
   | true => rw [hb] at he; cases he
  | _ => rw [hb] at he; cases he
 | mp kt vt =>
  simp only [encB] at he
  cases hb : (getO ob k).body with
  | mp kt' vt' kvs => exact ⟨rfl, rfl, rfl⟩
  | _ => rw [hb] at he; cases he
structure Lend (tb : Tab T) (ob : List (Obj' T)) (L : List Nat) (l : List XK) : Prop where
 nodup : L.Nodup
 mtb : ∀ k, mutL l L k → mutb (getO ob k).body = true ∧ isRow (getO ob k).body = false ∧ lim tb (getO ob k).body = 0
theorem Lend.ofEnc {L : List Nat} {l : List XK} {nb : Nat} {es : List (Val T)} (hL : L.Nodup) (he : encL tb ob L nb l L = some es) : Lend tb ob L l := by
 obtain ⟨_, _, h3⟩ := encL_get l L es he
 refine ⟨hL, fun k ⟨i, x, hk, hx, hne⟩ => ?_⟩
 obtain ⟨v, _, hv⟩ := h3 i x k hx hk
 exact encB_mut hv hne
theorem Lend.notN {L : List Nat} {l : List XK} (hl : Lend tb ob L l) (m : Mem tb w0 w N0 N h ob) {b o : Nat} (hb : N b o) : ¬ XB h l L b := by
 rintro ⟨k, hk, hkb⟩
 obtain ⟨h1, _, h3⟩ := hl.mtb k hk
 exact (m.live k b h1 hkb).2.1 o (by omega) hb
theorem Lend.notK {L : List Nat} {l : List XK} (hl : Lend tb ob L l) (m : Mem tb w0 w N0 N h ob) {k b : Nat} (hm : mutb (getO ob k).body = true) (hb : blk (h k) = some b) (hk : ¬ mutL l L k) : ¬ XB h l L b := by
 rintro ⟨k', hk', hkb⟩
 exact m.dist k' k b (fun hh => hk (hh ▸ hk')) (hl.mtb k' hk').1 hm hkb hb
theorem Lend.sub {L : List Nat} {l : List XK} (hl : Lend tb ob L l) (m : Mem tb w0 w N0 N h ob) : ∀ b o, N b o → AllX w (XB h l L) b o := fun b o hb => ⟨m.nlt b o hb, hl.notN m hb⟩
mutual
theorem pass_rep (ok : TabOk P tb) (m : Mem tb w0 w N0 N h ob) {L : List Nat} {l : List XK} (hl : Lend tb ob L l) {nb : Nat} {bs : List (Body T)} {V V' : Val T} {v : Value} (hp : pass ob L nb V = some V') (hr : Rep tb w N h ob V v) :
  Rep tb w (AllX w (XB h l L)) (hX h nb L) (obX nb bs) V' v := by
 have hsub := hl.sub m
 cases V with
 | own k ver =>
  simp only [pass] at hp
  cases hk : getO ob k with
  | mk ver' bd =>
   rw [hk] at hp
   cases bd with
   | row fz e xs =>
    simp only at hp
    split at hp
    ·rename_i hv
     subst hv
     simp only [Option.some.injEq] at hp
     subst hp
     have hv := hr.own_eq hk
     subst hv
     refine .fz (m.row_fz ok hk hsub (fun b o hb _ => ⟨(m.live k b (by rw [hk]; rfl) hb).2.2, ?_⟩))
     refine hl.notK m (by rw [hk]; rfl) hb fun hmk => ?_
     have := (hl.mtb k hmk).2.1
     rw [hk] at this; cases this
    ·cases hp
   | _ => cases hp
 | ptr k ver off =>
  simp only [pass] at hp
  cases hi : idx k L 0 with
  | none => rw [hi] at hp; cases hp
  | some i =>
   rw [hi] at hp
   simp only at hp
   cases hk : getO ob k with
   | mk ver' bd =>
    rw [hk] at hp
    cases bd with
    | box fz cs =>
     simp only at hp
     split at hp
     ·rename_i hv
      subst hv
      simp only [Option.some.injEq] at hp
      subst hp
      obtain ⟨_, hL⟩ := idx_get L 0 i hi
      rw [Nat.sub_zero] at hL
      obtain ⟨b, hb, rfl⟩ := hr.ptr_eq hk
      exact .ptr (Nat.zero_le _) ⟨_, rfl⟩ fun _ _ _ => ⟨b, by rw [hX_at hL, hb], rfl⟩
     ·cases hp
    | _ => cases hp
 | mref k ver =>
  simp only [pass] at hp
  cases hi : idx k L 0 with
  | none => rw [hi] at hp; cases hp
  | some i =>
   rw [hi] at hp
   simp only at hp
   cases hk : getO ob k with
   | mk ver' bd =>
    rw [hk] at hp
    cases bd with
    | mp kt vt kvs =>
     simp only at hp
     split at hp
     ·rename_i hv
      subst hv
      simp only [Option.some.injEq] at hp
      subst hp
      obtain ⟨_, hL⟩ := idx_get L 0 i hi
      rw [Nat.sub_zero] at hL
      have hv := hr.mref_eq hk
      obtain ⟨_, b, es, ck, hb, _⟩ := m.body hk
      exact .mref (Nat.zero_le _) ⟨b, by rw [hv, hb]⟩ fun _ _ _ _ => by rw [hX_at hL, hv]
     ·cases hp
    | _ => cases hp
 | agg cs =>
  simp only [pass] at hp
  cases hc : passL ob L nb cs with
  | none => rw [hc] at hp; cases hp
  | some cs' =>
   rw [hc] at hp
   simp only [Option.some.injEq] at hp
   subst hp
   obtain ⟨vs, rfl, h1, h2⟩ := hr.agg_inv
   obtain ⟨g1, g2⟩ := passL_rep ok m hl (bs := bs) hc h2
   exact .agg (by rw [h1, g1]) g2
 | clo f a b =>
  simp only [pass] at hp
  cases ha : passL ob L nb a with
  | none => rw [ha] at hp; cases hp
  | some a' =>
   cases hb : passL ob L nb b with
   | none => rw [ha, hb] at hp; cases hp
   | some b' =>
    rw [ha, hb] at hp
    simp only [Option.some.injEq] at hp
    subst hp
    obtain ⟨fv, cv, rfl, h1, h2, h3, h4⟩ := hr.clo_inv
    obtain ⟨g1, g2⟩ := passL_rep ok m hl (bs := bs) ha h3
    obtain ⟨k1, k2⟩ := passL_rep ok m hl (bs := bs) hb h4
    exact .clo (by rw [h1, g1]) (by rw [h2, k1]) g2 k2
 | int k n => simp only [pass, Option.some.injEq] at hp; subst hp; exact .fz ((hr.pure1 rfl).mono (Kept.refl _ _) hsub)
 | bool b => simp only [pass, Option.some.injEq] at hp; subst hp; exact .fz ((hr.pure1 rfl).mono (Kept.refl _ _) hsub)
 | ifc b => simp only [pass, Option.some.injEq] at hp; subst hp; exact .fz ((hr.pure1 rfl).mono (Kept.refl _ _) hsub)
 | str s => simp only [pass, Option.some.injEq] at hp; subst hp; exact .fz ((hr.pure1 rfl).mono (Kept.refl _ _) hsub)
 | nil => simp only [pass, Option.some.injEq] at hp; subst hp; exact .fz ((hr.pure1 rfl).mono (Kept.refl _ _) hsub)
 | lst e xs => simp only [pass, Option.some.injEq] at hp; subst hp; exact .fz ((hr.pure1 rfl).mono (Kept.refl _ _) hsub)
 | adr cs off => simp only [pass, Option.some.injEq] at hp; subst hp; exact .fz ((hr.pure1 rfl).mono (Kept.refl _ _) hsub)
 | _ => cases hp
theorem passL_rep (ok : TabOk P tb) (m : Mem tb w0 w N0 N h ob) {L : List Nat} {l : List XK} (hl : Lend tb ob L l) {nb : Nat} {bs : List (Body T)} {cs cs' : List (Val T)} {r : Nat → Value} (hp : passL ob L nb cs = some cs') (hr : ∀ (j : Nat) V, cs[j]? = some V → Rep tb w N h ob V (r j)) :
  cs'.length = cs.length ∧ ∀ (j : Nat) V, cs'[j]? = some V → Rep tb w (AllX w (XB h l L)) (hX h nb L) (obX nb bs) V (r j) := by
 cases cs with
 | nil => simp only [passL, Option.some.injEq] at hp; subst hp; exact ⟨rfl, fun j V hV => by simp at hV⟩
 | cons c cs =>
  simp only [passL] at hp
  cases h1 : pass ob L nb c with
  | none => rw [h1] at hp; cases hp
  | some c' =>
   cases h2 : passL ob L nb cs with
   | none => rw [h1, h2] at hp; cases hp
   | some r' =>
    rw [h1, h2] at hp
    simp only [Option.some.injEq] at hp
    subst hp
    have g0 := pass_rep ok m hl (bs := bs) h1 (hr 0 c rfl)
    obtain ⟨g1, g2⟩ := passL_rep ok m hl (bs := bs) h2 (r := fun j => r (j + 1)) (fun j V hV => hr (j + 1) V (by simpa using hV))
    refine ⟨by simp [g1], fun j V hV => ?_⟩
    cases j with
    | zero => simp at hV; subst hV; exact g0
    | succ j => exact g2 j V (by simpa using hV)
end
theorem encB_dec {L0 : List Nat} {nb k : Nat} {x : XK} {v : Val T} (he : encB tb ob L0 nb k x = some v) : ∃ b, decB v = some b := by
 cases x with
 | cst =>
  simp only [encB] at he
  revert he
  repeat' split
  all_goals (intro he; cases he; try exact ⟨_, rfl⟩)
 | box t =>
  simp only [encB] at he
  revert he
  repeat' split
  all_goals (intro he; cases he; try exact ⟨_, rfl⟩)
 | mp kt vt =>
  simp only [encB] at he
  revert he
  repeat' split
  all_goals (intro he; cases he; try exact ⟨_, rfl⟩)
theorem encL_dec {L0 : List Nat} {nb : Nat} : ∀ (l : List XK) (L : List Nat) (es : List (Val T)), encL tb ob L0 nb l L = some es → ∃ bs, decL es = some bs := by
 intro l
 induction l with
 | nil =>
  intro L es he
  cases L with
  | nil => simp only [encL, Option.some.injEq] at he; subst he; exact ⟨[], rfl⟩
  | cons => cases he
 | cons x l ih =>
  intro L es he
  cases L with
  | nil => cases he
  | cons k L =>
   simp only [encL] at he
   cases h1 : encB tb ob L0 nb k x with
   | none => rw [h1] at he; cases he
   | some v =>
    cases h2 : encL tb ob L0 nb l L with
    | none => rw [h1, h2] at he; cases he
    | some r =>
     rw [h1, h2] at he
     simp only [Option.some.injEq] at he
     subst he
     obtain ⟨b, hb⟩ := encB_dec h1
     obtain ⟨bs, hbs⟩ := ih L r h2
     exact ⟨b :: bs, by simp only [decL, hb, hbs]⟩
theorem nodup_get {L : List Nat} (hL : L.Nodup) {i j k : Nat} (hi : L[i]? = some k) (hj : L[j]? = some k) : i = j := by
 obtain ⟨h1, e1⟩ := List.getElem?_eq_some_iff.1 hi
 obtain ⟨h2, e2⟩ := List.getElem?_eq_some_iff.1 hj
 exact (List.getElem_inj hL (h₀ := h1) (h₁ := h2)).1 (e1.trans e2.symm)
theorem lent_mem (ok : TabOk P tb) (m : Mem tb w0 w N0 N h ob) {L : List Nat} {l : List XK} {nb : Nat} {es : List (Val T)} {bs : List (Body T)} (hL : L.Nodup) (he : encL tb ob L nb l L = some es) (hd : decL es = some bs) :
  Mem tb ⟨w, XB h l L, nb, hX h nb L⟩ w (AllX w (XB h l L)) (AllX w (XB h l L)) (hX h nb L) (obX nb bs) := by
 have hl := Lend.ofEnc hL he
 obtain ⟨e1, e2, e3⟩ := encL_get l L es he
 obtain ⟨d1, d2⟩ := decL_get es bs hd
 have hat : ∀ k bd, nb ≤ k → bs[k - nb]? = some bd → ∃ q x v, L[k - nb]? = some q ∧ l[k - nb]? = some x ∧ encB tb ob L nb q x = some v ∧ decB v = some bd ∧ hX h nb L k = h q := by
  intro k bd hk hb
  have hlt := (List.getElem?_eq_some_iff.1 hb).1
  obtain ⟨q, hq⟩ : ∃ q, L[k - nb]? = some q := ⟨_, List.getElem?_eq_getElem (by omega)⟩
  obtain ⟨x, hx⟩ : ∃ x, l[k - nb]? = some x := ⟨_, List.getElem?_eq_getElem (by omega)⟩
  obtain ⟨v, hv, hev⟩ := e3 _ x q hx hq
  obtain ⟨b2, hb2, hdv⟩ := d2 _ v hv
  rw [hb] at hb2
  simp only [Option.some.injEq] at hb2
  subst hb2
  refine ⟨q, x, v, hq, hx, hev, hdv, ?_⟩
  have := hX_at (h := h) (n := nb) hq
  have hkk : nb + (k - nb) = k := by omega
  rw [hkk] at this
  exact this
 have hbody : ∀ k, mutb (getO (obX nb bs) k).body = true → nb ≤ k ∧ ∃ bd, bs[k - nb]? = some bd ∧ (getO (obX nb bs) k).body = bd := by
  intro k hm
  rcases Nat.lt_or_ge k nb with h1 | h1
  ·rw [obX_lt bs h1] at hm; cases hm
  ·rw [obX_ge h1] at hm ⊢
   cases hb : bs[k - nb]? with
   | none => rw [hb] at hm; cases hm
   | some bd => exact ⟨h1, bd, rfl, rfl⟩
 have hmutl : ∀ k bd, nb ≤ k → bs[k - nb]? = some bd → mutb bd = true → ∃ q, L[k - nb]? = some q ∧ mutL l L q ∧ hX h nb L k = h q ∧ isRow bd = false := by
  intro k bd hk hb hm
  obtain ⟨q, x, v, hq, hx, hev, hdv, hh⟩ := hat k bd hk hb
  refine ⟨q, hq, ⟨k - nb, x, hq, hx, fun hxx => ?_⟩, hh, ?_⟩
  ·subst hxx
   simp only [encB] at hev
   revert hev
   repeat' split
   all_goals (intro hev; cases hev; try (simp only [decB, Option.some.injEq] at hdv; subst hdv; cases hm))
  ·cases v <;> simp [decB] at hdv <;> subst hdv <;> rfl
 refine ⟨BelowX.refl _ _ _, fun b o hb => hb.1, fun b o hb => hb, fun b o hb => .inl hb, fun k => ?_, fun k b hm hb => ?_, fun k k' b hne hm hm' hb hb' => ?_, fun k hk => ?_, ⟨m.gnow.1, m.gnow.2, fun b hb => by obtain ⟨q, hq, hqb⟩ := hb; exact m.gown (hl.mtb q hq).1 hqb⟩⟩
 ·rcases Nat.lt_or_ge k nb with h1 | h1
  ·rw [obX_lt bs h1]; trivial
  ·rw [obX_ge h1]
   cases hb : bs[k - nb]? with
   | none => trivial
   | some bd =>
    obtain ⟨q, x, v, hq, hx, hev, hdv, hh⟩ := hat k bd h1 hb
    simp only [Option.getD_some]
    rw [hh]
    have hqb := m.objs q
    cases x with
    | cst =>
     simp only [encB] at hev
     cases hbq : (getO ob q).body with
     | box fz cs =>
      rw [hbq] at hev hqb
      simp only at hev
      cases hp : passL ob L nb cs with
      | none => rw [hp] at hev; cases hev
      | some cs' =>
       rw [hp] at hev
       simp only [Option.some.injEq] at hev
       subst hev
       simp only [decB, Option.some.injEq] at hdv
       subst hdv
       cases fz with
       | false =>
        obtain ⟨b, e, cv, q1, q2, q3, q4⟩ := hqb
        obtain ⟨p1, p2⟩ := passL_rep ok m hl (bs := bs) hp q4
        have hnk : ¬ mutL l L q := by
         rintro ⟨i, x, hi, hxi, hne⟩
         obtain rfl := nodup_get hL hi hq
         rw [hx] at hxi
         cases hxi
         exact hne rfl
        refine ⟨b, fun j => cv.getD j undef, q1, fun j hj => ⟨(m.live q b (by rw [hbq]; rfl) (by rw [q1]; rfl)).2.2, hl.notK m (by rw [hbq]; rfl) (by rw [q1]; rfl) hnk⟩, fun j hj => cell_at q2 (by omega), p2⟩
       | true =>
        obtain ⟨b, vs, q1, q2, q3, q4⟩ := hqb
        obtain ⟨p1, p2⟩ := passL_rep ok m hl (bs := bs) hp q4
        exact ⟨b, vs, q1, fun j hj => hl.sub m b j (q2 j (by omega)), fun j hj => q3 j (by omega), p2⟩
     | _ => rw [hbq] at hev; cases hev
    | box t =>
     simp only [encB] at hev
     cases hbq : (getO ob q).body with
     | box fz cs =>
      rw [hbq] at hev hqb
      cases fz with
      | true => cases hev
      | false =>
       simp only at hev
       revert hev
       split
       ·rename_i x0 cs' _ _ hp
        intro hev
        simp only [Option.some.injEq] at hev
        subst hev
        simp only [decB, Option.some.injEq] at hdv
        subst hdv
        obtain ⟨b, e, cv, q1, q2, q3, q4⟩ := hqb
        obtain ⟨p1, p2⟩ := passL_rep ok m hl (bs := bs) hp q4
        exact ⟨b, e, cv, q1, q2, by rw [q3, p1], p2⟩
       ·intro hev; cases hev
     | _ => rw [hbq] at hev; cases hev
    | mp kt vt =>
     simp only [encB] at hev
     cases hbq : (getO ob q).body with
     | mp kt' vt' kvs =>
      rw [hbq] at hev hqb
      simp only at hev
      revert hev
      repeat' split
      ·intro hev
       simp only [Option.some.injEq] at hev
       subst hev
       simp only [decB, Option.some.injEq] at hdv
       subst hdv
       exact hqb
      ·intro hev; cases hev
      ·intro hev; cases hev
     | _ => rw [hbq] at hev; cases hev
 ·obtain ⟨h1, bd, hbd, hbe⟩ := hbody k hm
  rw [hbe] at hm ⊢
  obtain ⟨q, hq, hmq, hh, hir⟩ := hmutl k bd h1 hbd hm
  rw [hh] at hb
  have hXb : XB h l L b := ⟨q, hmq, hb⟩
  exact ⟨.inr ⟨hXb, h1⟩, fun o _ hN => hN.2 hXb, (m.live q b (hl.mtb q hmq).1 hb).2.2⟩
 ·obtain ⟨h1, bd, hbd, hbe⟩ := hbody k hm
  obtain ⟨h1', bd', hbd', hbe'⟩ := hbody k' hm'
  rw [hbe] at hm
  rw [hbe'] at hm'
  obtain ⟨q, hq, hmq, hh, _⟩ := hmutl k bd h1 hbd hm
  obtain ⟨q', hq', hmq', hh', _⟩ := hmutl k' bd' h1' hbd' hm'
  rw [hh] at hb
  rw [hh'] at hb'
  by_cases hqq : q = q'
  ·subst hqq
   have := nodup_get hL hq hq'
   omega
  ·exact m.dist q q' b hqq (hl.mtb q hmq).1 (hl.mtb q' hmq').1 hb hb'
 ·simp only at hk
  refine ⟨rfl, ?_, ?_⟩
  ·rw [obX_ge hk]
  ·rw [obX_ge hk]
   cases hb : bs[k - nb]? with
   | none => rfl
   | some bd =>
    obtain ⟨q, x, v, hq, hx, hev, hdv, hh⟩ := hat k bd hk hb
    cases v <;> simp [decB] at hdv <;> subst hdv <;> rfl
theorem keysOf_nodup (ob : List (Obj' T)) : ∀ (ks L : List Nat), L.Nodup → (keysOf ob L ks).Nodup := by
 intro ks
 induction ks with
 | nil => intro L hL; exact hL
 | cons k ks ih =>
  intro L hL
  have hstep : (bif inB k L then L else L ++ [k]).Nodup := by
   cases hb : inB k L with
   | true => exact hL
   | false =>
    simp only [cond_false]
    refine List.nodup_append.2 ⟨hL, by simp, fun a ha b hb' => ?_⟩
    simp only [List.mem_singleton] at hb'
    subst hb'
    rintro rfl
    have : ∀ (L : List Nat), a ∈ L → inB a L = true := by
     intro L
     induction L with
     | nil => intro h; cases h
     | cons c L ih =>
      intro h
      simp only [inB, Bool.or_eq_true]
      rcases List.mem_cons.1 h with rfl | h
      ·exact .inl (Nat.beq_refl _)
      ·exact .inr (ih h)
    rw [this L ha] at hb
    cases hb
  unfold keysOf
  split
  ·exact ih _ hstep
  ·exact ih _ hstep
  ·exact ih _ hL
theorem extK_nodup (ob : List (Obj' T)) : ∀ (n : Nat) (L : List Nat), L.Nodup → (extK ob n L).Nodup := by
 intro n
 induction n with
 | zero => intro L hL; exact hL
 | succ n ih => intro L hL; exact ih _ (keysOf_nodup _ _ _ hL)
theorem extKeys_nodup (ob : List (Obj' T)) (args : List (Val T)) : (extKeys ob args).Nodup := by
 have h := keysOf_nodup ob (refsL args) [] List.nodup_nil
 unfold extKeys
 revert h
 cases keysOf ob [] (refsL args) with
 | nil => intro _; exact List.nodup_nil
 | cons k ks => intro h; exact extK_nodup ob 3 _ h
end Go.Fw
namespace Go.Fw
open Go.RowKit
set_option linter.unusedVariables false
set_option linter.unusedSimpArgs false
variable {T : Nat → Type} {P : Program} {tb : Tab T} {w0 : Base} {w : World} {N0 N : NS} {h : Nat → Value} {ob : List (Obj' T)}
theorem argsV_rep {ρ : Operand → Val T} {evl : Operand → Value} (hρ : ∀ x, Rep tb w N h ob (ρ x) (evl x)) : ∀ (xs : List Operand) (ts : List Nat), (argsV tb ρ xs ts).length = xs.length ∧
    ∀ (j : Nat) V v, (argsV tb ρ xs ts)[j]? = some V → (xs.map evl)[j]? = some v → Rep tb w N h ob V v := by
  intro xs
  induction xs with
  | nil => intro ts; exact ⟨rfl, fun j V v hV => by simp [argsV] at hV⟩
  | cons x r ih =>
    intro ts
    cases ts with
    | nil =>
      obtain ⟨h1, h2⟩ := ih []
      refine ⟨by simp [argsV, h1], fun j V v hV hv => ?_⟩
      cases j with
      | zero => simp [argsV] at hV hv; subst hV; subst hv; exact hρ x
      | succ j => exact h2 j V v (by simpa [argsV] using hV) (by simpa using hv)
    | cons t ts =>
      obtain ⟨h1, h2⟩ := ih ts
      refine ⟨by simp [argsV, h1], fun j V v hV hv => ?_⟩
      cases j with
      | zero =>
        simp [argsV] at hV hv
        subst hV; subst hv
        have := hρ x
        unfold argV
        split
        · rename_i hn
          rw [hn] at this
          split
          · exact .fz (Fz.sim .nil (by rw [this.nil_inv]; exact .nil))
          · exact this
        · exact this
      | succ j => exact h2 j V v (by simpa [argsV] using hV) (by simpa using hv)
def CallPost (tb : Tab T) (w0 : Base) (w : World) (N0 N : NS) (h : Nat → Value) (ob : List (Obj' T)) (r : Result Next) (f : Nat) (as : List (Val T)) (L : List Nat) (ob' : List (Obj' T)) : Prop :=
  ∃ vargs : Array Value, ∃ N' : NS, r = .ok (.enter (realF f) vargs) w ∧ Mem tb w0 w N0 N' h ob' ∧ Turn ob ob' h h ∧ (∀ b o, N b o → N' b o) ∧ ob'.length = ob.length ∧
    ((tb.xk f = [] ∧ L = [] ∧ (FzL tb w N' as vargs.toList ∨ (allFlat (tb.rk f) = true ∧ FzL tb w (All w) as vargs.toList))) ∨
     (tb.xk f ≠ [] ∧ ob' = ob ∧ allFlat (tb.rk f) = true ∧ L.Nodup ∧ ∃ vals es : List (Val T), as = vals ++ es ∧ encL tb ob L (tb.nt f) (tb.xk f) L = some es ∧ vals.length = vargs.toList.length ∧
        ∀ (bs : List (Body T)) (j : Nat) V v, vals[j]? = some V → vargs.toList[j]? = some v → Rep tb w (AllX w (XB h (tb.xk f) L)) (hX h (tb.nt f) L) (obX (tb.nt f) bs) V v))
theorem appV_ne {rk : Nat → List Knd} (d e : Nat) (a b : Val T) (f : Nat) (as : List (Val T)) (L : List Nat) (ob' : List (Obj' T)) : (appV tb ob d e a b : OpR T rk) ≠ .call f as L ob' := by
  unfold appV appX
  repeat' split
  all_goals (intro hh; cases hh)
theorem call_vals (ok : TabOk P tb) {ρ : Operand → Val T} {evl : Operand → Value} (hρ : ∀ x, Rep tb w N h ob (ρ x) (evl x)) {c : Call} {g : Operand} (hc : c.callee = .value g) {f : Nat} {first caps : List (Val T)} (hg : ρ g = .clo f first caps) (hfn : tb.fn f = true) (dst : Option Tmp) (ty : TypeId) (pos : String) (after : Array Edge) (guard : Option (Nat × Bool)) :
    ∃ vargs : Array Value, (execOp evl ⟨dst, .call c, ty, pos, after, guard⟩).run P w = .ok (.enter f vargs) w ∧ vargs.toList.length = (first ++ argsV tb ρ c.args.toList c.argTypes.toList ++ caps).length ∧
      ∀ (j : Nat) V v, (first ++ argsV tb ρ c.args.toList c.argTypes.toList ++ caps)[j]? = some V → vargs.toList[j]? = some v → Rep tb w N h ob V v := by
  have hgr := hρ g
  rw [hg] at hgr
  obtain ⟨fv, cv, hgv, s1, s2, z1, z2⟩ := hgr.clo_inv
  obtain ⟨a1, a2⟩ := argsV_rep hρ c.args.toList c.argTypes.toList
  refine ⟨fv ++ c.args.map evl ++ cv, by simp [execOp, resolve, hc, hgv, Deferred.ofValue, invoke, ok.fn f hfn], by simp [s1, s2, a1], ?_⟩
  intro j V v hV hv
  simp only [Array.toList_append, Array.toList_map] at hv
  rw [List.append_assoc] at hV hv
  rw [List.getElem?_append] at hV hv
  simp only [Array.length_toList, s1] at hv
  by_cases h1 : j < first.length
  · rw [if_pos h1] at hV hv
    rw [← getD_of_toList hv]
    exact z1 j V hV
  · rw [if_neg h1] at hV hv
    rw [List.getElem?_append] at hV hv
    simp only [List.length_map, a1] at hV hv
    by_cases h2 : j - first.length < c.args.toList.length
    · rw [if_pos h2] at hV hv
      exact a2 _ V v hV hv
    · rw [if_neg h2] at hV hv
      rw [← getD_of_toList hv]
      exact z2 _ V hV
theorem realF_num {f : Nat} (h : f < 50000) (b : Bool) (args : List (Val T)) : realF (numF f b args) = f := by
  unfold realF numF
  cases cloNo args <;> cases b <;> simp only [cond_true, cond_false] <;> omega
theorem callP_post (ok : TabOk P tb) (m : Mem tb w0 w N0 N h ob) {r : Result Next} {f' f : Nat} {vals : List (Val T)} {vargs : Array Value} (hrun : r = .ok (.enter (realF f') vargs) w) (hlen : vargs.toList.length = vals.length)
    (hrep : ∀ (j : Nat) V v, vals[j]? = some V → vargs.toList[j]? = some v → Rep tb w N h ob V v) {as : List (Val T)} {L : List Nat} {ob' : List (Obj' T)} (he : callP tb f' vals ob = .call f as L ob') : CallPost tb w0 w N0 N h ob r f as L ob' := by
  unfold callP at he
  cases hx : tb.xk f' with
  | cons => rw [hx] at he; cases he
  | nil =>
    rw [hx] at he
    simp only at he
    have frz : ∀ as' ob2, frzA vals ob = some (as', ob2) → (OpR.call f' as' [] ob2 : OpR T tb.rk) = .call f as L ob' → CallPost tb w0 w N0 N h ob r f as L ob' := by
      intro as' ob2 hfz heq
      simp only [OpR.call.injEq] at heq
      obtain ⟨rfl, rfl, rfl, rfl⟩ := heq
      obtain ⟨N', m', z, t, n, l⟩ := frzA_sound ok _ m hlen hrep hfz
      exact ⟨_, N', hrun, m', t, n, l, .inl ⟨hx, rfl, .inl z⟩⟩
    split at he
    · rename_i hfl
      cases hl : lendA tb ob vals with
      | some as' =>
        rw [hl] at he
        simp only [OpR.call.injEq] at he
        obtain ⟨rfl, rfl, rfl, rfl⟩ := he
        exact ⟨_, N, hrun, m, Turn.refl _ _, fun _ _ x => x, rfl, .inl ⟨hx, rfl, .inr ⟨hfl, lendA_sound ok m _ hlen hrep hl⟩⟩⟩
      | none =>
        rw [hl] at he
        simp only at he
        cases hz : frzA vals ob with
        | none => rw [hz] at he; cases he
        | some q => rw [hz] at he; exact frz _ _ hz he
    · cases hz : frzA vals ob with
      | none => rw [hz] at he; cases he
      | some q => rw [hz] at he; exact frz _ _ hz he
theorem callX_post (ok : TabOk P tb) (m : Mem tb w0 w N0 N h ob) {r : Result Next} {f' f : Nat} {vals : List (Val T)} {vargs : Array Value} {L0 : List Nat} (hL0 : L0 ≠ []) (hnd : L0.Nodup) (hrun : r = .ok (.enter (realF f') vargs) w) (hlen : vargs.toList.length = vals.length)
    (hrep : ∀ (j : Nat) V v, vals[j]? = some V → vargs.toList[j]? = some v → Rep tb w N h ob V v) {as : List (Val T)} {L : List Nat} {ob' : List (Obj' T)} (he : callX tb f' L0 vals ob = .call f as L ob') : CallPost tb w0 w N0 N h ob r f as L ob' := by
  unfold callX at he
  split at he
  · rename_i hfl
    cases hp : passL ob L0 (tb.nt f') vals with
    | none => rw [hp] at he; cases he
    | some as' =>
      cases hn : encL tb ob L0 (tb.nt f') (tb.xk f') L0 with
      | none => rw [hp, hn] at he; cases he
      | some es =>
        rw [hp, hn] at he
        simp only [OpR.call.injEq] at he
        obtain ⟨rfl, rfl, rfl, rfl⟩ := he
        have hl := Lend.ofEnc hnd hn
        have hxne : tb.xk f' ≠ [] := fun hh => by
          have := (encL_get _ _ _ hn).2.1
          rw [hh] at this
          exact hL0 (List.eq_nil_of_length_eq_zero this)
        have hpl : as'.length = vals.length := (passL_rep ok m hl (bs := []) hp (r := fun j => vargs.toList.getD j undef) (fun j V hV => hrep j V _ hV (by
          have hj : j < vargs.toList.length := by rw [hlen]; exact (List.getElem?_eq_some_iff.1 hV).1
          rw [List.getD_eq_getElem?_getD, List.getElem?_eq_getElem hj]; rfl))).1
        refine ⟨_, N, hrun, m, Turn.refl _ _, fun _ _ x => x, rfl, .inr ⟨hxne, rfl, hfl, hnd, as', es, rfl, hn, by rw [hpl, hlen], fun bs j V v hV hv => ?_⟩⟩
        have := (passL_rep ok m hl (bs := bs) hp (r := fun j => vargs.toList.getD j undef) (fun j V hV => hrep j V _ hV (by
          have hj : j < vargs.toList.length := by rw [hlen]; exact (List.getElem?_eq_some_iff.1 hV).1
          rw [List.getD_eq_getElem?_getD, List.getElem?_eq_getElem hj]; rfl))).2 j V hV
        rw [List.getD_eq_getElem?_getD, hv] at this
        exact this
  · cases he
theorem callV_post (ok : TabOk P tb) (m : Mem tb w0 w N0 N h ob) {r : Result Next} {f' f : Nat} {vals : List (Val T)} {vargs : Array Value} (hrun : r = .ok (.enter f' vargs) w) (hlen : vargs.toList.length = vals.length)
    (hrep : ∀ (j : Nat) V v, vals[j]? = some V → vargs.toList[j]? = some v → Rep tb w N h ob V v) {as : List (Val T)} {L : List Nat} {ob' : List (Obj' T)} (he : callV tb f' vals ob = .call f as L ob') : CallPost tb w0 w N0 N h ob r f as L ob' := by
  unfold callV at he
  split at he
  · rename_i hfn
    simp only [Bool.and_eq_true, Nat.blt_eq] at hfn
    cases hL : extKeys ob vals with
    | nil =>
      rw [hL] at he
      exact callP_post ok m (by rw [realF_num hfn.2]; exact hrun) hlen hrep he
    | cons k ks =>
      rw [hL] at he
      exact callX_post ok m (by simp) (by rw [← hL]; exact extKeys_nodup ob vals) (by rw [realF_num hfn.2]; exact hrun) hlen hrep he
  · cases he
theorem evOp_call (ok : TabOk P tb) (m : Mem tb w0 w N0 N h ob) {ρ ρ0 : Operand → Val T} {evl : Operand → Value} (hρ : ∀ x, Rep tb w N h ob (ρ x) (evl x)) (o : Oper) {d f : Nat} {as : List (Val T)} {L : List Nat} {ob' : List (Obj' T)}
    (he : evOp tb ρ ρ0 ob d o.op o.type = .call f as L ob') : CallPost tb w0 w N0 N h ob ((execOp evl o).run P w) f as L ob' := by
  obtain ⟨dst, op, ty, pos, after, guard⟩ := o
  cases op
  case call c =>
    simp only [evOp] at he
    cases hc : c.callee with
    | value g =>
      rw [hc] at he
      simp only at he
      cases hg : ρ g with
      | clo f' first caps =>
        rw [hg] at he
        simp only at he
        have hfn : tb.fn f' = true := by
          unfold callV at he
          split at he
          · rename_i hh; simp only [Bool.and_eq_true] at hh; exact hh.1
          · cases he
        obtain ⟨vargs, hrun, hlen, hrep⟩ := call_vals (P := P) (w := w) ok hρ hc hg hfn dst ty pos after guard
        exact callV_post ok m hrun hlen hrep he
      | _ => rw [hg] at he; cases he
    | invoke r m' => rw [hc] at he; cases he
    | builtin b =>
      exfalso
      rw [hc] at he
      cases b <;> simp only at he <;> first
        | (cases he; done)
        | skip
      all_goals
        revert he
        repeat' split
        all_goals first
          | (intro he; cases he; done)
          | exact fun he => appV_ne _ _ _ _ _ _ _ _ he
  case pick c x y => cases c <;> exfalso <;> simp only [evOp] at he <;> revert he <;> repeat' split
                     all_goals (intro he; cases he)
  case unOp u t x => cases u <;> exfalso <;> simp only [evOp] at he <;> revert he <;> repeat' split
                     all_goals (intro he; cases he)
  case makeFunc fn a b => cases fn <;> exfalso <;> simp only [evOp] at he <;> revert he <;> repeat' split
                          all_goals (intro he; cases he)
  case slice t x lo hi mx => cases mx <;> exfalso <;> simp only [evOp] at he <;> revert he <;> repeat' split
                             all_goals (intro he; cases he)
  case makeSlice t a b => cases a <;> cases b <;> exfalso <;> simp only [evOp] at he <;> revert he <;> repeat' split
                          all_goals (intro he; cases he)
  case makeMap t r => cases r <;> exfalso <;> simp only [evOp, okp] at he <;> revert he <;> repeat' split
                      all_goals (intro he; cases he)
  all_goals
    exfalso
    simp only [evOp, okp] at he
    revert he
    repeat' split
    all_goals (intro he; cases he)
end Go.Fw
namespace Go.Fw
open Go.RowKit
set_option linter.unusedVariables false
set_option linter.unusedSimpArgs false
variable {T : Nat → Type} {P : Program} {tb : Tab T} {w0 : Base} {w : World} {N0 N : NS} {h : Nat → Value} {ob : List (Obj' T)}
theorem run_builtin {evl : Operand → Value} {b : Builtin} {c : Call} (hc : c.callee = .builtin b) (dst : Option Tmp) (ty : TypeId) (pos : String) (after : Array Edge) (guard : Option (Nat × Bool)) :
  ∃ cs, (execOp evl ⟨dst, .call c, ty, pos, after, guard⟩).run P w = (builtin b c.argTypes ty cs (c.args.map evl)).run P w :=
 ⟨_, by simp only [execOp, resolve, hc, Sem.run_bind, Sem.run_pure, Result.andThen_ok, invoke]; rfl⟩
theorem call_ok (ok : TabOk P tb) (m : Mem tb w0 w N0 N h ob) {ρ ρ0 : Operand → Val T} {evl : Operand → Value} (hρ : ∀ x, Rep tb w N h ob (ρ x) (evl x)) {c : Call} {dst : Option Tmp} {ty : TypeId} {pos : String} {after : Array Edge} {guard : Option (Nat × Bool)} {d : Nat}
  (hd : needsDst (.call c) = true → d < ob.length ∧ d < w0.n) {V : Val T} {ob' : List (Obj' T)} (he : evOp tb ρ ρ0 ob d (.call c) ty = .ok true V ob') :
  OpPost tb w0 w N0 N h ob ((execOp evl ⟨dst, .call c, ty, pos, after, guard⟩).run P w) V ob' := by
 simp only [evOp] at he
 obtain ⟨callee, args, argTypes⟩ := c
 cases callee with
 | value g =>
  simp only at he
  revert he
  simp only [callV, callP, callX]
  repeat' split
  all_goals (intro he; cases he)
 | invoke r n => cases he
 | builtin b =>
  obtain ⟨consts, hrb⟩ := run_builtin (P := P) (w := w) (evl := evl) (b := b) (c := ⟨.builtin b, args, argTypes⟩) rfl dst ty pos after guard
  rw [hrb]
  obtain ⟨args⟩ := args
  obtain ⟨argTypes⟩ := argTypes
  simp only at he ⊢
  cases b with
  | len =>
   match args, argTypes, he with
   | [x], [t], he =>
    try simp only at he
    cases hl : lenV ob (ρ x) with
    | none => rw [hl] at he; cases he
    | some n =>
     rw [hl] at he
     simp only at he
     split at he
     ·rename_i hty
      simp only [OpR.ok.injEq, true_and] at he
      obtain ⟨rfl, rfl⟩ := he
      have hx := hρ x
      have key : ∃ v, evl x = v ∧ ((∃ s : ByteArray, v = .string s ∧ n = s.size ∧ s.size ≤ 9223372036854775807 ∧ True) ∨ (∃ A k c, v = .slice A k c ∧ n = (k : Int) ∧ k ≤ 9223372036854775807)) := by
       refine ⟨_, rfl, ?_⟩
       cases hX : ρ x with
       | str s =>
        rw [hX] at hl hx
        simp only [lenV, Option.some.injEq] at hl
        exact .inl ⟨s, hx.str_inv.1, hl.symm, hx.str_inv.2, trivial⟩
       | nil =>
        rw [hX] at hl hx
        simp only [lenV, Option.some.injEq] at hl
        exact .inr ⟨none, 0, 0, hx.nil_inv, by rw [← hl]; rfl, by omega⟩
       | lst e xs =>
        rw [hX] at hl hx
        simp only [lenV, Option.some.injEq] at hl
        obtain ⟨A, c, hv, h1, h2, _⟩ := hx.lst_inv.lst_inv
        exact .inr ⟨A, _, c, hv, hl.symm, by omega⟩
       | own k ver =>
        rw [hX] at hl hx
        simp only [lenV] at hl
        cases hk : getO ob k with
        | mk ver' bd =>
         rw [hk] at hl
         cases bd with
         | dead => simp at hl
         | box => simp at hl
         | mp => simp at hl
         | rowx => simp at hl
         | row fz e xs =>
          simp only at hl
          split at hl
          ·rename_i hv
           subst hv
           simp only [Option.some.injEq] at hl
           have hv := hx.own_eq hk
           obtain ⟨_, ⟨cvs, ho, _⟩, _⟩ := m.body hk
           rcases ho.2 with ⟨hs, hn⟩ | ⟨g, cap, cur, hs, _, _, h1, h2, _⟩
           ·exact .inr ⟨none, 0, 0, hv.trans hs, by rw [← hl, hn], by omega⟩
           ·exact .inr ⟨_, _, cap, hv.trans hs, hl.symm, by unfold maxLen at h2; omega⟩
          ·cases hl
       | _ => rw [hX] at hl; simp [lenV] at hl
      obtain ⟨v, hv, hcase⟩ := key
      have hrep : Rep tb w N h ob (.int .i64 n) (.int .i64 n) := by
       rcases hcase with ⟨s, _, rfl, hs, _⟩ | ⟨A, k, c, _, rfl, hk⟩ <;> exact .fz (.int (inR_i64 (by omega) (by omega)))
      refine OpPost.same m ?_ hrep
      have hstr : tb.isStr t = true → P.underlying t = some .string := ok.isStr t
      have hel : (tb.elem t).isSome = true → ∃ e, P.underlying t = some (.slice e) := fun hh => by
       cases he : tb.elem t with
       | none => rw [he] at hh; cases hh
       | some e => exact ⟨e, (ok.elem t e he).1⟩
      have hx' := hρ x
      cases hX : ρ x with
      | str s =>
       rw [hX] at hty hx'
       simp only [lenOk] at hty
       have hu := hstr hty
       rcases hcase with ⟨s', rfl, rfl, hs, _⟩ | ⟨A, k, c, rfl, rfl, hk⟩
       ·simp [builtin, Builtin.len_, hv, run_underlying hu, goInt]
       ·rw [hx'.str_inv.1] at hv; cases hv
      | _ =>
       rw [hX] at hty hx'
       simp only [lenOk] at hty
       obtain ⟨e, hu⟩ := hel hty
       rcases hcase with ⟨s', rfl, rfl, hs, _⟩ | ⟨A, k, c, rfl, rfl, hk⟩
       ·exfalso
        rw [hX] at hl
        first
         | (simp [lenV] at hl; done)
         | (rw [hx'.nil_inv] at hv; cases hv)
         | (obtain ⟨A, c, h1, _⟩ := hx'.lst_inv.lst_inv; rw [h1] at hv; cases hv)
         | (cases hx' with | fz hz => cases hz | own _ h0 _ => obtain ⟨A, n', c, h1⟩ := h0; rw [h1] at hv; cases hv)
       ·simp [builtin, Builtin.len_, hv, run_underlying hu, goInt]
     ·cases he
   | [], _, he => simp at he
   | _ :: _ :: _, _, he => simp at he
   | [_], [], he => simp at he
   | [_], _ :: _ :: _, he => simp at he
  | append =>
   match args, argTypes, he with
   | [x, y], [t, t'], he =>
    simp only at he
    split at he
    ·rename_i htt
     subst htt
     cases hel : tb.elem t with
     | none => rw [hel] at he; cases he
     | some e =>
      rw [hel] at he
      simp only at he
      have := appV_sound (P := P) ok m hel ty (hd rfl).1 (hd rfl).2 (hρ x) (hρ y) he
      simpa [builtin] using this
    ·cases he
   | [], _, he => simp at he
   | [_], _, he => simp at he
   | _ :: _ :: _ :: _, _, he => simp at he
   | [_, _], [], he => simp at he
   | [_, _], [_], he => simp at he
   | [_, _], _ :: _ :: _ :: _, he => simp at he
  | min =>
   simp only at he
   match args, he with
   | [x, y], he =>
    simp only [List.map_cons, List.map_nil] at he
    cases hX : ρ x <;> rw [hX] at he <;> (try (simp at he; done))
    cases hY : ρ y <;> rw [hY] at he <;> (try (simp at he; done))
    rename_i k a k' b
    simp only at he
    split at he
    ·rename_i hk
     subst hk
     simp only [OpR.ok.injEq, true_and] at he
     obtain ⟨rfl, rfl⟩ := he
     have hx := hρ x
     have hy := hρ y
     rw [hX] at hx; rw [hY] at hy
     refine OpPost.same m ?_ (.fz (.int (inR_cond (b := decide (b < a)) hy.int_inv.2 hx.int_inv.2)))
     simp only [builtin, Builtin.min_, Builtin.min2, hx.int_inv.1, hy.int_inv.1, List.foldlM, List.map_toArray, List.map_cons, List.map_nil, Sem.run_bind, Sem.run_pure, Result.andThen_ok]
     by_cases hh : b < a <;> simp [hh]
    ·cases he
   | [], he => simp at he
   | [_], he => simp at he
   | _ :: _ :: _ :: _, he => simp at he
  | max =>
   simp only at he
   match args, he with
   | [x, y], he =>
    simp only [List.map_cons, List.map_nil] at he
    cases hX : ρ x <;> rw [hX] at he <;> (try (simp at he; done))
    cases hY : ρ y <;> rw [hY] at he <;> (try (simp at he; done))
    rename_i k a k' b
    simp only at he
    split at he
    ·rename_i hk
     subst hk
     simp only [OpR.ok.injEq, true_and] at he
     obtain ⟨rfl, rfl⟩ := he
     have hx := hρ x
     have hy := hρ y
     rw [hX] at hx; rw [hY] at hy
     refine OpPost.same m ?_ (.fz (.int (inR_cond (b := decide (a < b)) hy.int_inv.2 hx.int_inv.2)))
     simp only [builtin, Builtin.max_, Builtin.max2, hx.int_inv.1, hy.int_inv.1, List.foldlM, List.map_toArray, List.map_cons, List.map_nil, Sem.run_bind, Sem.run_pure, Result.andThen_ok]
     by_cases hh : a < b <;> simp [hh]
    ·cases he
   | [], he => simp at he
   | [_], he => simp at he
   | _ :: _ :: _ :: _, he => simp at he
  | _ => simp at he
end Go.Fw
namespace Go.Fw
open Go.RowKit
set_option linter.unusedVariables false
set_option linter.unusedSimpArgs false
variable {T : Nat → Type} {P : Program} {tb : Tab T} {w0 : Base} {w : World} {N0 N : NS} {h : Nat → Value} {ob : List (Obj' T)}
theorem flat1_any {V : Val T} {v : Value} (hf : V.flat1 = true) (hr : Rep tb w N h ob V v) (w' : World) (N' : NS) : Fz tb w' N' V v := by
 cases V with
 | int k n => obtain ⟨rfl, h1⟩ := hr.int_inv; exact .int h1
 | bool b => obtain rfl := hr.bool_inv; exact .bool
 | str s => obtain ⟨rfl, h1⟩ := hr.str_inv; exact .str h1
 | _ => cases hf
theorem Sim.flat {c d : Val T} (hs : Sim c d) (hf : c.flat1 = true) : d = c := by
 cases hs with
 | rfl => rfl
 | nil => cases hf
theorem SimL.flat {cs ds : List (Val T)} (hs : SimL cs ds) (hf : ∀ V ∈ cs, V.flat1 = true) : ds = cs := by
 apply List.ext_getElem?
 intro j
 by_cases hj : j < cs.length
 ·have h1 := List.getElem?_eq_getElem hj
  have h2 : ds[j]? = some (ds[j]'(by rw [← hs.1]; exact hj)) := List.getElem?_eq_getElem _
  rw [h1, h2, (hs.2 j _ _ h1 h2).flat (hf _ (List.getElem_mem hj))]
 ·have h1 := hs.1
  rw [List.getElem?_eq_none (by omega), List.getElem?_eq_none (by omega)]
theorem cells_flat (ok : TabOk P tb) {t : Nat} (hf : tb.flt t = true) (x : T t) : ∀ V ∈ tb.cells t x, V.flat1 = true := fun V hV => ok.flt t x V hf hV
theorem typedV_lit (ok : TabOk P tb) {t : Nat} {V : Val T} {x : T t} {v : Value} (ht : typedV tb t V = some x) (hr : Rep tb w N h ob V v) : Lit tb t x v := by
 intro w' N'
 unfold typedV at ht
 have one : ∀ (c : Val T), tb.flt t = true → tb.agg t = false → V = c → tb.unc t [c] = some x → Fz tb w' N' (valT tb t x) v := by
  intro c hf ha hV hu
  have hc := (ok.unc t _ x hu).flat (cells_flat ok hf x)
  have hfl := cells_flat ok hf x c (by rw [← hc]; simp)
  unfold valT
  rw [ha, ← hc]
  subst hV
  exact flat1_any hfl hr w' N'
 split at ht
 ·rename_i cs hf ha
  have hc := (ok.unc t cs x ht).flat (cells_flat ok hf x)
  unfold valT
  rw [ha, ← hc]
  obtain ⟨vs, rfl, h1, h2⟩ := hr.agg_inv
  exact .agg h1 fun j W hW => flat1_any (cells_flat ok hf x W (by rw [← hc]; exact List.mem_of_getElem? hW)) (h2 j W hW) w' N'
 ·rename_i k n hf ha; exact one _ hf ha rfl ht
 ·rename_i b hf ha; exact one _ hf ha rfl ht
 ·rename_i s hf ha; exact one _ hf ha rfl ht
 ·cases ht
theorem flat1_det {V : Val T} {v v' : Value} (hf : V.flat1 = true) (h1 : Fz tb w N V v) (h2 : Fz tb w N V v') : v = v' := by
 cases V with
 | int k n => cases h1; cases h2; rfl
 | bool b => cases h1; cases h2; rfl
 | str s => cases h1; cases h2; rfl
 | _ => cases hf
theorem lit_det (ok : TabOk P tb) {t : Nat} (hf : tb.flt t = true) {x : T t} {v v' : Value} (h1 : Lit tb t x v) (h2 : Lit tb t x v') (w : World) : v = v' := by
 have h1 := h1 w (fun _ _ => False)
 have h2 := h2 w (fun _ _ => False)
 have hc := cells_flat ok hf x
 unfold valT at h1 h2
 cases ha : tb.agg t with
 | true =>
  rw [ha] at h1 h2
  simp only at h1 h2
  cases h1 with
  | agg a b =>
   cases h2 with
   | agg a' b' =>
    rename_i vs vs'
    congr 1
    apply Array.ext (by rw [a, a'])
    intro j hj hj'
    have hV : (tb.cells t x)[j]? = some ((tb.cells t x)[j]'(by omega)) := List.getElem?_eq_getElem _
    have := flat1_det (hc _ (List.mem_of_getElem? hV)) (b j _ hV) (b' j _ hV)
    simpa [Array.getD_eq_getD_getElem?, hj, hj'] using this
 | false =>
  rw [ha] at h1 h2
  match hcs : tb.cells t x, h1, h2 with
  | [c], h1, h2 => exact flat1_det (hc c (by rw [hcs]; simp)) h1 h2
  | [], h1, h2 => cases h1
  | _ :: _ :: _, h1, h2 => cases h1
theorem eqC_true {a b : Val T} (he : eqC a b = some true) : a = b := by
 unfold eqC at he
 split at he
 ·split at he
  ·rename_i hk; subst hk
   simp only [Option.some.injEq, beq_iff_eq] at he
   subst he; rfl
  ·cases he
 ·simp only [Option.some.injEq, beq_iff_eq] at he; subst he; rfl
 ·simp only [Option.some.injEq] at he
  have he := (MapKept.bytes_beq _ _).1 he
  subst he; rfl
 ·cases he
theorem eqCs_true : ∀ {cs ds : List (Val T)}, eqCs cs ds = some true → cs = ds := by
 intro cs
 induction cs with
 | nil => intro ds he; cases ds <;> first | rfl | cases he
 | cons c cs ih =>
  intro ds he
  cases ds with
  | nil => cases he
  | cons d ds =>
   simp only [eqCs] at he
   cases h1 : eqC c d with
   | none => rw [h1] at he; cases he
   | some a =>
    cases h2 : eqCs cs ds with
    | none => rw [h1, h2] at he; cases he
    | some b =>
     rw [h1, h2] at he
     simp only [Option.some.injEq, Bool.and_eq_true] at he
     obtain ⟨rfl, rfl⟩ := he
     rw [eqC_true h1, ih h2]
theorem eqT_lit (ok : TabOk P tb) {t : Nat} (hf : tb.flt t = true) {x y : T t} (he : eqT tb t x y = some true) {v v' : Value} (h1 : Lit tb t x v) (h2 : Lit tb t y v') (w : World) : v = v' := by
 have hc := eqCs_true he
 have : valT tb t x = valT tb t y := by unfold valT; rw [hc]
 refine lit_det ok hf h1 (x := x) (fun w N => ?_) w
 rw [this]
 exact h2 w N
def Ents (tb : Tab T) (kt vt : Nat) (es : List MapEntry) (kvs : List (T kt × T vt)) : Prop :=
 es.length = kvs.length ∧ ∀ (i : Nat) k v, kvs[i]? = some (k, v) → ∃ e, es[i]? = some e ∧ Lit tb kt k e.key ∧ Lit tb vt v e.val
def Hit (tb : Tab T) (kt vt : Nat) (es : List MapEntry) (kvs : List (T kt × T vt)) (x : T kt) (i : Nat) (q : Option (T vt)) (r : Option (Nat × Value)) : Prop :=
 (q = none ∧ r = none ∧ ∀ y, putKV tb kt vt kvs x y = some (kvs ++ [(x, y)])) ∨
 (∃ v j e k0, q = some v ∧ r = some (i + j, e.val) ∧ es[j]? = some e ∧ kvs[j]? = some (k0, v) ∧ eqT tb kt x k0 = some true ∧ ∀ y, putKV tb kt vt kvs x y = some (kvs.set j (x, y)))
theorem Ents.tail {kt vt : Nat} {e : MapEntry} {es : List MapEntry} {p : T kt × T vt} {kvs : List (T kt × T vt)} (hm : Ents tb kt vt (e :: es) (p :: kvs)) : Ents tb kt vt es kvs ∧ Lit tb kt p.1 e.key ∧ Lit tb vt p.2 e.val := by
 obtain ⟨h1, h2⟩ := hm
 refine ⟨⟨by simpa using h1, fun i k v hi => by simpa using h2 (i + 1) k v (by simpa using hi)⟩, ?_⟩
 obtain ⟨e', he, h3, h4⟩ := h2 0 p.1 p.2 rfl
 simp at he
 subst he
 exact ⟨h3, h4⟩
theorem findKV_cons {kt vt : Nat} {p : T kt × T vt} {kvs : List (T kt × T vt)} {x : T kt} {q : Option (T vt)} (hq : findKV tb kt vt (p :: kvs) x = some q) : ∃ b q', eqT tb kt x p.1 = some b ∧ findKV tb kt vt kvs x = some q' ∧ q = bif b then some p.2 else q' := by
 obtain ⟨k, v⟩ := p
 simp only [findKV] at hq
 cases h1 : eqT tb kt x k with
 | none => rw [h1] at hq; cases hq
 | some b =>
  cases h2 : findKV tb kt vt kvs x with
  | none => rw [h1, h2] at hq; cases hq
  | some q' =>
   rw [h1, h2] at hq
   simp only [Option.some.injEq] at hq
   exact ⟨b, q', rfl, rfl, hq.symm⟩
theorem hit_cons {kt vt : Nat} {e : MapEntry} {es : List MapEntry} {p : T kt × T vt} {kvs : List (T kt × T vt)} {x : T kt} {i : Nat} {q' : Option (T vt)} {r : Option (Nat × Value)} (hb : eqT tb kt x p.1 = some false) (hh : Hit tb kt vt es kvs x (i + 1) q' r) : Hit tb kt vt (e :: es) (p :: kvs) x i q' r := by
 obtain ⟨k, v⟩ := p
 simp only at hb
 rcases hh with ⟨rfl, rfl, h3⟩ | ⟨v', j, e', k0, rfl, rfl, h3, h4, h5, h6⟩
 ·refine .inl ⟨rfl, rfl, fun y => ?_⟩
  simp only [putKV, hb, h3 y, cond_false, List.cons_append]
 ·refine .inr ⟨v', j + 1, e', k0, rfl, by rw [Nat.add_assoc, Nat.add_comm 1 j], by simpa using h3, by simpa using h4, h5, fun y => ?_⟩
  simp only [putKV, hb, h6 y, cond_false, List.set_cons_succ]
theorem putKV_some {kt vt : Nat} : ∀ {kvs : List (T kt × T vt)} {x : T kt} {q : Option (T vt)}, findKV tb kt vt kvs x = some q → ∀ y, ∃ z, putKV tb kt vt kvs x y = some z := by
 intro kvs
 induction kvs with
 | nil => intro x q _ y; exact ⟨_, rfl⟩
 | cons p kvs ih =>
  intro x q hq y
  obtain ⟨b, q', h1, h2, _⟩ := findKV_cons hq
  obtain ⟨z, hz⟩ := ih h2 y
  obtain ⟨k, v⟩ := p
  exact ⟨_, by simp only [putKV]; rw [h1, hz]⟩
theorem hit_here {kt vt : Nat} {e : MapEntry} {es : List MapEntry} {p : T kt × T vt} {kvs : List (T kt × T vt)} {x : T kt} {i : Nat} {q' : Option (T vt)} (hb : eqT tb kt x p.1 = some true) (hq : findKV tb kt vt kvs x = some q') : Hit tb kt vt (e :: es) (p :: kvs) x i (some p.2) (some (i, e.val)) := by
 obtain ⟨k, v⟩ := p
 simp only at hb
 refine .inr ⟨v, 0, e, k, rfl, rfl, rfl, rfl, hb, fun y => ?_⟩
 obtain ⟨z, hz⟩ := putKV_some hq y
 simp only [putKV, hb, hz, cond_true, List.set_cons_zero]
theorem findT_eq (ok : TabOk P tb) {kt vt : Nat} (hf : tb.flt kt = true) : ∀ (kvs : List (T kt × T vt)) (x : T kt), findKV tb kt vt kvs x = some (findT tb kt vt kvs x) := by
 intro kvs
 induction kvs with
 | nil => intro x; rfl
 | cons p kvs ih =>
  intro x
  obtain ⟨k, v⟩ := p
  obtain ⟨r, hr⟩ := ok.eqS kt x k hf
  simp only [findKV, findT, eqTb, hr, ih x]
theorem putT_eq (ok : TabOk P tb) {kt vt : Nat} (hf : tb.flt kt = true) : ∀ (kvs : List (T kt × T vt)) (x : T kt) (y : T vt), putKV tb kt vt kvs x y = some (putT tb kt vt kvs x y) := by
 intro kvs
 induction kvs with
 | nil => intro x y; rfl
 | cons p kvs ih =>
  intro x y
  obtain ⟨k, v⟩ := p
  obtain ⟨r, hr⟩ := ok.eqS kt x k hf
  simp only [putKV, putT, eqTb, hr, ih x y]
theorem findAsking_run {kt vt : Nat} (mo : MapOk P tb kt vt) {x : T kt} {a : Value} (ha : Lit tb kt x a) : ∀ (es : List MapEntry) (kvs : List (T kt × T vt)) (i : Nat) (q : Option (T vt)), Ents tb kt vt es kvs → findKV tb kt vt kvs x = some q →
  ∃ r, (Instr.findAsking kt a es i).run P w = .ok r w ∧ Hit tb kt vt es kvs x i q r := by
 intro es
 induction es with
 | nil =>
  intro kvs i q hm hq
  have : kvs = [] := List.eq_nil_of_length_eq_zero hm.1.symm
  subst this
  simp only [findKV, Option.some.injEq] at hq
  subst hq
  exact ⟨none, rfl, .inl ⟨rfl, rfl, fun y => rfl⟩⟩
 | cons e es ih =>
  intro kvs i q hm hq
  cases kvs with
  | nil => have := hm.1; simp at this
  | cons p kvs =>
   obtain ⟨hm', hk, hv⟩ := hm.tail
   obtain ⟨b, q', h1, h2, rfl⟩ := findKV_cons hq
   have heq := (mo.eq x p.1 b a e.key w h1 ha hk).1
   simp only [Instr.findAsking, Sem.run_bind, heq, Result.andThen_ok]
   cases b with
   | true => exact ⟨some (i, e.val), rfl, hit_here h1 h2⟩
   | false =>
    obtain ⟨r, hr, hh⟩ := ih kvs (i + 1) q' hm' h2
    exact ⟨r, by simpa using hr, hit_cons h1 hh⟩
theorem findNow_hit {kt vt : Nat} (mo : MapOk P tb kt vt) {x : T kt} {a : Value} (ha : Lit tb kt x a) {d : TypeDesc} (hd : P.underlying kt = some d) (w : World) : ∀ (es : List MapEntry) (kvs : List (T kt × T vt)) (i : Nat) (q : Option (T vt)) (r : Option (Nat × Value)), Ents tb kt vt es kvs → findKV tb kt vt kvs x = some q →
  Instr.findNow d a es i = some r → Hit tb kt vt es kvs x i q r := by
 intro es
 induction es with
 | nil =>
  intro kvs i q r hm hq hr
  have : kvs = [] := List.eq_nil_of_length_eq_zero hm.1.symm
  subst this
  simp only [findKV, Option.some.injEq] at hq
  simp only [Instr.findNow, Option.some.injEq] at hr
  subst hq; subst hr
  exact .inl ⟨rfl, rfl, fun y => rfl⟩
 | cons e es ih =>
  intro kvs i q r hm hq hr
  cases kvs with
  | nil => have := hm.1; simp at this
  | cons p kvs =>
   obtain ⟨hm', hk, hv⟩ := hm.tail
   obtain ⟨b, q', h1, h2, rfl⟩ := findKV_cons hq
   have heq := (mo.eq x p.1 b a e.key w h1 ha hk).2 d
   simp only [Instr.findNow] at hr
   cases hs : Instr.sameNow d a e.key with
   | none => rw [hs] at hr; cases hr
   | some b' =>
    have := heq b' hd hs
    subst this
    rw [hs] at hr
    cases b' with
    | true =>
     simp only [Option.some.injEq] at hr
     subst hr
     exact hit_here h1 h2
    | false => exact hit_cons h1 (ih kvs (i + 1) q' r hm' h2 hr)
theorem findKey_run {kt vt : Nat} (mo : MapOk P tb kt vt) {x : T kt} {a : Value} (ha : Lit tb kt x a) {d : TypeDesc} (hd : P.underlying kt = some d) {es : List MapEntry} {kvs : List (T kt × T vt)} {q : Option (T vt)} (hm : Ents tb kt vt es kvs) (hq : findKV tb kt vt kvs x = some q) :
  ∃ r, (Instr.findKey kt a es).run P w = .ok r w ∧ Hit tb kt vt es kvs x 0 q r := by
 simp only [Instr.findKey, Sem.run_bind, run_underlying hd, Result.andThen_ok]
 cases hn : Instr.findNow d a es 0 with
 | some r => exact ⟨r, rfl, findNow_hit mo ha hd w es kvs 0 q r hm hq hn⟩
 | none => exact findAsking_run mo ha es kvs 0 q hm hq
theorem lookup_sound (ok : TabOk P tb) (m : Mem tb w0 w N0 N h ob) {t kt vt : Nat} (ht : tb.mp t = some (kt, vt)) {d : TypeDesc} (hd : P.underlying kt = some d) {k ver : Nat} {kvs : List (T kt × T vt)} (hk : getO ob k = ⟨ver, .mp kt vt kvs⟩) {X : Val T} {mv xv : Value} (hmv : Rep tb w N h ob (.mref k ver) mv) (hx : Rep tb w N h ob X xv)
  {x : T kt} {z : T vt} {q : Option (T vt)} (hxx : typedV tb kt X = some x) (hz : zeroT tb vt = some z) (hq : findKV tb kt vt kvs x = some q) (okk : Bool) :
  ∃ u, (Instr.lookup t mv xv okk).run P w = .ok u w ∧ Rep tb w N h ob (lookV tb okk vt (q.getD z) q.isSome) u := by
 obtain ⟨hu, hf1, hf2, mo⟩ := ok.mp t kt vt ht
 have hmv := hmv.mref_eq hk
 subst hmv
 obtain ⟨_, b, es, ck, hb, hh, hsz, hent⟩ := m.body hk
 have hm : Ents tb kt vt es.toList kvs := ⟨by simpa using hsz, fun i k v hi => by simpa using hent i k v hi⟩
 have hl := typedV_lit ok hxx hx
 obtain ⟨r, hr, hhit⟩ := findKey_run (P := P) (w := w) mo hl hd hm hq
 obtain ⟨zv, hzr, hzl⟩ := mo.zero z hz
 have hkey := mo.key x xv es.isEmpty w hl
 rw [hb]
 have hres : ∃ v, (match r with | some (_, v) => (pure (v, true) : Sem (Value × Bool)) | none => do pure (← zeroValue vt, false)).run P w = .ok (v, q.isSome) w ∧ Lit tb vt (q.getD z) v := by
  rcases hhit with ⟨rfl, rfl, _⟩ | ⟨v, j, e, k0, rfl, rfl, h3, h4, h5, _⟩
  ·exact ⟨zv, by simp [hzr w], hzl⟩
  ·obtain ⟨e', he', _, h7⟩ := hm.2 j k0 v h4
   rw [h3] at he'
   simp only [Option.some.injEq] at he'
   subst he'
   exact ⟨e.val, by simp, h7⟩
 obtain ⟨v, hv, hvl⟩ := hres
 refine ⟨if okk then .tuple #[v, .bool q.isSome] else v, ?_, ?_⟩
 ·simp only [Instr.lookup, Sem.run_bind, run_underlying hu, Result.andThen_ok, MapKept.run_getObj_map hh, Sem.run_pure, hkey, hr]
  have hv' := hv
  cases r with
  | none =>
   simp only [Sem.run_bind, hzr w, Result.andThen_ok, Sem.run_pure, Result.ok.injEq, Prod.mk.injEq, and_true] at hv
   cases okk <;> simp [hzr w, hv.1, ← hv.2]
  | some p =>
   obtain ⟨i, v'⟩ := p
   simp only [Sem.run_pure, Result.ok.injEq, Prod.mk.injEq, and_true] at hv
   cases okk <;> simp [hv.1, ← hv.2]
 ·cases okk with
  | false => exact .fz (hvl w N)
  | true =>
   refine .tup rfl fun j V hV => ?_
   match j, hV with
   | 0, hV => simp only [List.getElem?_cons_zero, Option.some.injEq] at hV; subst hV; exact .fz (hvl w N)
   | 1, hV => simp only [List.getElem?_cons_succ, List.getElem?_cons_zero, Option.some.injEq] at hV; subst hV; exact .fz .bool
   | j + 2, hV => simp at hV
theorem sameBits_flat {V : Val T} {v : Value} (hf : V.flat1 = true) (hz : Fz tb w N V v) (n : Nat) : Instr.sameBits n v v = true := by
 cases V with
 | int k x => cases hz; cases n <;> simp [Instr.sameBits]
 | bool b => cases hz; cases n <;> simp [Instr.sameBits]
 | str s => cases hz; cases n <;> simp only [Instr.sameBits] <;> exact (MapKept.bytes_beq _ _).2 rfl
 | _ => cases hf
theorem sameBits_lit (ok : TabOk P tb) {t : Nat} (hf : tb.flt t = true) {x : T t} {v : Value} (h1 : Lit tb t x v) (w : World) : Instr.sameBits 10000 v v = true := by
 have h1 := h1 w (fun _ _ => False)
 have hc := cells_flat ok hf x
 unfold valT at h1
 cases ha : tb.agg t with
 | true =>
  rw [ha] at h1
  simp only at h1
  cases h1 with
  | agg a b =>
   rename_i vs
   simp only [Instr.sameBits, beq_self_eq_true, Bool.true_and, List.all_eq_true]
   rintro ⟨p, q⟩ hpq
   obtain ⟨j, hj, he⟩ := List.getElem_of_mem hpq
   simp only [List.getElem_zip, Prod.mk.injEq] at he
   obtain ⟨rfl, rfl⟩ := he
   have hj' : j < vs.size := by simpa using hj
   have hV : (tb.cells t x)[j]? = some ((tb.cells t x)[j]'(by omega)) := List.getElem?_eq_getElem _
   have := sameBits_flat (hc _ (List.mem_of_getElem? hV)) (b j _ hV) 9999
   simpa [Array.getD_eq_getD_getElem?, hj'] using this
 | false =>
  rw [ha] at h1
  match hcs : tb.cells t x, h1 with
  | [c], h1 => exact sameBits_flat (hc c (by rw [hcs]; simp)) h1 10000
  | [], h1 => cases h1
  | _ :: _ :: _, h1 => cases h1
theorem putKV_find {kt vt : Nat} : ∀ {kvs : List (T kt × T vt)} {x : T kt} {y : T vt} {z}, putKV tb kt vt kvs x y = some z → ∃ q, findKV tb kt vt kvs x = some q := by
 intro kvs
 induction kvs with
 | nil => intro x y z _; exact ⟨_, rfl⟩
 | cons p kvs ih =>
  intro x y z hz
  obtain ⟨k, v⟩ := p
  simp only [putKV] at hz
  cases h1 : eqT tb kt x k with
  | none => rw [h1] at hz; cases hz
  | some b =>
   cases h2 : putKV tb kt vt kvs x y with
   | none => rw [h1, h2] at hz; cases hz
   | some z' =>
    obtain ⟨q, hq⟩ := ih h2
    exact ⟨_, by simp only [findKV]; rw [h1, hq]⟩
theorem mapUpdate_sound (ok : TabOk P tb) (m : Mem tb w0 w N0 N h ob) {t kt vt : Nat} (ht : tb.mp t = some (kt, vt)) {d : TypeDesc} (hd : P.underlying kt = some d) {k ver : Nat} {kvs kvs' : List (T kt × T vt)} (hk : getO ob k = ⟨ver, .mp kt vt kvs⟩) {X Y : Val T} {mv xv yv : Value} (hmv : Rep tb w N h ob (.mref k ver) mv)
  (hx : Rep tb w N h ob X xv) (hy : Rep tb w N h ob Y yv) {x : T kt} {y : T vt} (hxx : typedV tb kt X = some x) (hyy : typedV tb vt Y = some y) (hq : putKV tb kt vt kvs x y = some kvs') :
  OpPost tb w0 w N0 N h ob ((do (Instr.mapUpdate t mv xv yv); pure Next.skip : Sem Next).run P w) .junk (ob.set k ⟨ver, .mp kt vt kvs'⟩) := by
 obtain ⟨hu, hf1, hf2, mo⟩ := ok.mp t kt vt ht
 have hmv := hmv.mref_eq hk
 subst hmv
 obtain ⟨_, b, es, ck, hb, hh, hsz, hent⟩ := m.body hk
 have hm : Ents tb kt vt es.toList kvs := ⟨by simpa using hsz, fun i k v hi => by simpa using hent i k v hi⟩
 have hl := typedV_lit ok hxx hx
 have hly := typedV_lit ok hyy hy
 obtain ⟨q, hfind⟩ := putKV_find hq
 obtain ⟨r, hr, hhit⟩ := findKey_run (P := P) (w := w) mo hl hd hm hfind
 have hkey := mo.key x xv false w hl
 have hbl : b < w.heap.size := (Array.getElem?_eq_some_iff.1 hh).1
 -- what the map is behind the update
 have main : ∃ (es' : Array MapEntry) (ck' : Nat), (Instr.mapUpdate t (h k) xv yv).run P w = .ok () { w with heap := w.heap.setIfInBounds b (.map es' ck') } ∧ es'.size = kvs'.length ∧ ∀ (i : Nat) k v, kvs'[i]? = some (k, v) → ∃ e, es'[i]? = some e ∧ Lit tb kt k e.key ∧ Lit tb vt v e.val := by
  rw [hb]
  rcases hhit with ⟨rfl, rfl, hput⟩ | ⟨v, j, e, k0, rfl, rfl, h3, h4, h5, hput⟩
  ·have := hput y
   rw [hq] at this
   simp only [Option.some.injEq] at this
   subst this
   refine ⟨es.push { key := xv, val := yv, born := ck }, ck + 1, ?_, by simp [hsz], fun i k v hi => ?_⟩
   ·simp [Instr.mapUpdate, run_underlying hu, MapKept.run_getObj_map hh, hkey, hr, MapKept.run_setObj_map _ hh]
   ·rw [List.getElem?_append] at hi
    split at hi
    ·rename_i hlt
     obtain ⟨e, he, h6⟩ := hent i k v hi
     exact ⟨e, by rw [Array.getElem?_push, if_neg (by omega)]; exact he, h6⟩
    ·rename_i hlt
     have hi0 : i - kvs.length = 0 := by
      rcases Nat.eq_zero_or_pos (i - kvs.length) with h0 | h0
      ·exact h0
      ·rw [List.getElem?_eq_none (by simp; omega)] at hi; cases hi
     rw [hi0] at hi
     simp only [List.getElem?_cons_zero, Option.some.injEq, Prod.mk.injEq] at hi
     obtain ⟨rfl, rfl⟩ := hi
     exact ⟨_, by rw [Array.getElem?_push, if_pos (by omega)], hl, hly⟩
  ·have := hput y
   rw [hq] at this
   simp only [Option.some.injEq] at this
   subst this
   have h3' : es[j]? = some e := by simpa using h3
   obtain ⟨e', he', h6, h7⟩ := hent j k0 v h4
   rw [h3'] at he'
   simp only [Option.some.injEq] at he'
   subst he'
   have hsame : e.key = xv := (eqT_lit ok hf1 h5 hl h6 w).symm
   have hstay : (Instr.keyThatStays (((es[j]?).map (·.key)).getD xv) xv).run P w = .ok xv w := by
    rw [h3']
    simp only [Option.map_some, Option.getD_some, Instr.keyThatStays, hsame, sameBits_lit ok hf1 hl w, if_true, Sem.run_pure]
   refine ⟨es.modify j fun e => { e with key := xv, val := yv }, ck, ?_, by simp [hsz], fun i k v hi => ?_⟩
   ·simp [Instr.mapUpdate, run_underlying hu, MapKept.run_getObj_map hh, hkey, hr, hstay, MapKept.run_setObj_map _ hh]
   ·by_cases hij : j = i
    ·subst hij
     rw [List.getElem?_set_self (by have := (List.getElem?_eq_some_iff.1 h4).1; exact this)] at hi
     simp only [Option.some.injEq, Prod.mk.injEq] at hi
     obtain ⟨rfl, rfl⟩ := hi
     exact ⟨{ e with key := xv, val := yv }, by rw [Array.getElem?_modify, if_pos rfl, h3']; rfl, hl, hly⟩
    ·rw [List.getElem?_set_ne hij] at hi
     obtain ⟨e2, he2, h8⟩ := hent i k v hi
     exact ⟨e2, by rw [Array.getElem?_modify, if_neg hij]; exact he2, h8⟩
 obtain ⟨es', ck', hrun, hsz', hent'⟩ := main
 have hother : ∀ b', b' ≠ b → ({ w with heap := w.heap.setIfInBounds b (.map es' ck') } : World).heap[b']? = w.heap[b']? := fun b' hb' => by
  simp only [Array.getElem?_setIfInBounds]
  rw [if_neg (fun hh => hb' hh.symm)]
 have htn := Turn.set (h := h) hk (bd' := .mp kt vt kvs') trivial
 obtain ⟨m', hN⟩ := m.stored hk (bd' := .mp kt vt kvs') trivial rfl rfl rfl (b := b) (by rw [hb]; rfl) hother (by simp) rfl rfl rfl
  ⟨⟨hf1, hf2⟩, b, es', ck', hb, by simp [hbl], hsz', hent'⟩
 exact ⟨undef, _, N, h, .inr ⟨by simp [hrun], rfl⟩, m', .junk, htn, hN, fun _ _ x => x, by simp⟩
theorem capV_rep (ok : TabOk P tb) (m : Mem tb w0 w N0 N h ob) {V V' : Val T} {v : Value} (hr : Rep tb w N h ob V v) (hf : capV ob V = some V') : Rep tb w N h ob V' v := by
 have c1 : cap1 ob V = some V' → Rep tb w N h ob V' v := by
  intro hf
  have pl : (if (res ob V).pure1 then some (res ob V) else none) = some V' → Rep tb w N h ob V' v := by
   intro hf
   split at hf
   ·cases hf; exact res_rep ok m hr
   ·cases hf
  cases V with
  | ptr k ver off => cases hf; exact hr
  | mref k ver => cases hf; exact hr
  | clo f a b => cases hf; exact hr
  | _ => exact pl hf
 cases V with
 | agg cs =>
  simp only [capV] at hf
  split at hf
  ·cases hf; exact hr
  ·cases hf
 | _ => exact c1 hf
theorem capA_rep (ok : TabOk P tb) (m : Mem tb w0 w N0 N h ob) : ∀ (cs : List (Val T)) {cs' : List (Val T)} {r : Nat → Value}, (∀ (j : Nat) V, cs[j]? = some V → Rep tb w N h ob V (r j)) → capA ob cs = some cs' →
  cs'.length = cs.length ∧ ∀ (j : Nat) V, cs'[j]? = some V → Rep tb w N h ob V (r j) := by
 intro cs
 induction cs with
 | nil =>
  intro cs' r hr hf
  simp only [capA, Option.some.injEq] at hf
  subst hf
  exact ⟨rfl, fun j V hV => by simp at hV⟩
 | cons c cs ih =>
  intro cs' r hr hf
  simp only [capA] at hf
  cases h1 : capV ob c with
  | none => rw [h1] at hf; cases hf
  | some c' =>
   cases h2 : capA ob cs with
   | none => rw [h1, h2] at hf; cases hf
   | some r' =>
    rw [h1, h2] at hf
    simp only [Option.some.injEq] at hf
    subst hf
    obtain ⟨e2, z2⟩ := ih (r := fun j => r (j + 1)) (fun j V hV => hr (j + 1) V (by simpa using hV)) h2
    refine ⟨by simp [e2], fun j V hV => ?_⟩
    cases j with
    | zero => simp at hV; subst hV; exact capV_rep ok m (hr 0 c rfl) h1
    | succ j => exact z2 j V (by simpa using hV)
end Go.Fw
namespace Go.Fw
open Go.RowKit
set_option linter.unusedVariables false
set_option linter.unusedSimpArgs false
variable {T : Nat → Type} {P : Program} {tb : Tab T} {w0 : Base} {w : World} {N0 N : NS} {h : Nat → Value} {ob : List (Obj' T)}
theorem OpPost.of (m : Mem tb w0 w N0 N h ob) {r : Result Next} {s : Sem Value} {V : Val T} (hr : r = (do pure (Next.value (← s)) : Sem Next).run P w) (hs : ∃ u, s.run P w = .ok u w ∧ Rep tb w N h ob V u) : OpPost tb w0 w N0 N h ob r V ob := by
 obtain ⟨u, h1, h2⟩ := hs
 exact OpPost.same m (by rw [hr]; simp [h1]) h2
theorem boundV_rep {ρ : Operand → Val T} {evl : Operand → Value} (hρ : ∀ x, Rep tb w N h ob (ρ x) (evl x)) {d n : Int} {x : Option Operand} (hb : boundV ρ d x = some n) : (x.map evl = none ∧ n = d) ∨ ∃ k, x.map evl = some (.int k n) := by
 cases x with
 | none =>
  simp only [boundV, Option.some.injEq] at hb
  exact .inl ⟨rfl, hb.symm⟩
 | some x =>
  right
  have := hρ x
  simp only [boundV] at hb
  cases hx : ρ x with
  | int k m =>
   rw [hx] at hb this
   simp only [Option.some.injEq] at hb
   subst hb
   exact ⟨k, by rw [Option.map_some, this.int_inv.1]⟩
  | _ => rw [hx] at hb; simp at hb
theorem slice_str (ok : TabOk P tb) {t : Nat} (ht : tb.isStr t = true) {s : ByteArray} {l hh : Int} (h0 : 0 ≤ l) (h1 : l ≤ hh) (h2 : hh ≤ s.size) (lo hi : Option Value)
  (hlo : (lo = none ∧ l = 0) ∨ ∃ k, lo = some (.int k l)) (hhi : (hi = none ∧ hh = s.size) ∨ ∃ k, hi = some (.int k hh)) : (Instr.sliceAt t (.string s) lo hi none).run P w = .ok (.string (s.extract l.toNat hh.toNat)) w := by
 have hu := ok.isStr t ht
 have hl' : ∀ k, (Instr.sliceBound (.int k l) hh.toNat .sliceB).run P w = .ok l.toNat w := fun k => by
  simp only [Instr.sliceBound, asIntOf, Sem.run_bind, Sem.run_pure, Result.andThen_ok]
  rw [if_pos ⟨h0, by omega⟩]
  rfl
 have hh' : ∀ k, (Instr.sliceBound (.int k hh) s.size .sliceAlen).run P w = .ok hh.toNat w := fun k => by
  simp only [Instr.sliceBound, asIntOf, Sem.run_bind, Sem.run_pure, Result.andThen_ok]
  rw [if_pos ⟨by omega, by omega⟩]
  rfl
 rcases hlo with ⟨rfl, rfl⟩ | ⟨k1, rfl⟩ <;> rcases hhi with ⟨rfl, rfl⟩ | ⟨k2, rfl⟩ <;>
  simp [Instr.sliceAt, Instr.slice, run_underlying hu, Instr.sliceBounds, hl', hh'] <;> simp_all
theorem bytesL_get {e : Nat} : ∀ {xs : List (T e)} {bs : List UInt8}, bytesL tb e xs = some bs → bs.length = xs.length ∧ ∀ (i : Nat) (x : T e), xs[i]? = some x → ∃ n, tb.cells e x = [.int .u8 n] ∧ bs[i]? = some (UInt8.ofNat n.toNat) := by
 intro xs
 induction xs with
 | nil => intro bs h; cases h; exact ⟨rfl, fun i x h => by simp at h⟩
 | cons x r ih =>
  intro bs h
  unfold bytesL at h
  split at h
  ·rename_i n bs' h1 h2
   cases h
   obtain ⟨l1, l2⟩ := ih h2
   refine ⟨by simp [l1], fun i y hy => ?_⟩
   cases i with
   | zero => simp at hy; subst hy; exact ⟨n, h1, rfl⟩
   | succ i => simpa using l2 i y (by simpa using hy)
  ·cases h
theorem foldl_bytes (ns : List Int) : ∀ (s : ByteArray), ns.foldl (fun r n => r.push (UInt8.ofNat n.toNat)) s = ⟨s.data ++ (ns.map fun n => UInt8.ofNat n.toNat).toArray⟩ := by
 induction ns with
 | nil => intro s; simp
 | cons n ns ih => intro s; rw [List.foldl_cons, ih]; simp [ByteArray.push]
theorem bytes_run (ok : TabOk P tb) {s t e : Nat} (hel : tb.elem s = some e) (hku : tb.ikind e = some .u8) (hst : tb.isStr t = true) {N' : NS} {xs : List (T e)} {v : Value} (hz : Fz tb w N' (.lst e xs) v) {bs : List UInt8} (hb : bytesL tb e xs = some bs) :
  (Go.convert s t v).run P w = .ok (.string ⟨bs.toArray⟩) w := by
 obtain ⟨l1, l2⟩ := bytesL_get hb
 have hu := (ok.elem s e hel).1
 have hd := ok.isStr t hst
 have hk := ok.ikind e _ hku
 cases hz with
 | @lst _ _ A n c b o vs h1 h2 h3 h4 h4' h5 h6 =>
  rw [run_convert_bytes_string w s t e A n c hu hk hd]
  cases n with
  | zero =>
   have hx : xs = [] := List.length_eq_zero_iff.1 h1
   subst hx
   cases hb
   cases A with
   | none => simp [Conv.bytesToString, Sem.run_pure]; rfl
   | some a =>
    rw [run_bytesToString w a 0 c [] (by simp [loadCells, loadCellsFrom, Sem.run_pure])]
    rfl
  | succ n =>
   obtain ⟨rfl, hbl⟩ := h4 (by omega)
   have hsz : tb.size e = 1 := by
    have hx0 : ∃ x, xs[0]? = some x := ⟨xs[0]'(by omega), List.getElem?_eq_getElem (by omega)⟩
    obtain ⟨x, hx⟩ := hx0
    obtain ⟨m, hm, _⟩ := l2 0 x hx
    have := (ok.elem s e hel).2.2.2.2.1 x
    rw [hm] at this
    simpa using this.symm
   have hvs : ∀ i, i < n + 1 → ∃ m : Int, vs i 0 = .int .u8 m ∧ bs[i]? = some (UInt8.ofNat m.toNat) := fun i hi => by
    obtain ⟨m, hm, hbm⟩ := l2 i (xs[i]'(by omega)) (List.getElem?_eq_getElem (by omega))
    have := h6 i 0 _ (.int .u8 m) (List.getElem?_eq_getElem (by omega)) (by rw [hm]; rfl)
    exact ⟨m, (Rep.fz (h := fun _ => undef) (ob := []) this).int_inv.1, hbm⟩
   have hch : ∃ f : Nat → Int, ∀ i, i < n + 1 → vs i 0 = .int .u8 (f i) ∧ bs[i]? = some (UInt8.ofNat (f i).toNat) := by
    refine ⟨fun i => if h : i < n + 1 then (hvs i h).choose else 0, fun i hi => ?_⟩
    simp only [dif_pos hi]
    exact (hvs i hi).choose_spec
   obtain ⟨f, hf⟩ := hch
   have hload := run_loadCells (P := P) (w := w) ⟨b, o, none⟩ (n + 1) (fun j => vs j 0) (fun j hj => by
    have := h5 j 0 hj (by omega)
    rw [hsz] at this
    have ha : (⟨b, o, none⟩ : Addr).add j = ⟨b, o + j, none⟩ := by unfold Addr.add; split <;> simp_all
    rw [ha]
    simpa using this)
   have hl : ((List.range (n + 1)).map (fun j => vs j 0)) = ((List.range (n + 1)).map f).map (Value.int .u8) := by
    rw [List.map_map]
    exact List.map_congr_left fun j hj => (hf j (by simpa using hj)).1
   rw [hl] at hload
   rw [run_bytesToString w _ (n + 1) c _ hload, foldl_bytes]
   have hbs : bs = ((List.range (n + 1)).map f).map (fun m => UInt8.ofNat m.toNat) := by
    apply List.ext_getElem?
    intro i
    by_cases hi : i < n + 1
    ·rw [(hf i hi).2]
     simp [List.getElem?_map, hi]
    ·rw [List.getElem?_eq_none (by omega), List.getElem?_eq_none (by simp; omega)]
   rw [hbs]
   congr 3
   simp [ByteArray.empty, ByteArray.emptyWithCapacity]
   rfl
theorem evOp_ok (ok : TabOk P tb) (m : Mem tb w0 w N0 N h ob) {ρ ρ0 : Operand → Val T} {evl : Operand → Value} (hρ : ∀ x, Rep tb w N h ob (ρ x) (evl x)) (hρ0 : ∀ x, Rep tb w N h ob (ρ0 x) (evl x))
  (hpk : ∀ x t wt e v b, ρ0 x = .cnd t wt e v → ρ (.tmp t) = .bool b → b = wt → e = true) (hcon : ∀ v, evl (.const v) = v) (o : Oper) {d : Nat} (hd : needsDst o.op = true → d < ob.length ∧ d < w0.n) {V : Val T} {ob' : List (Obj' T)}
  (he : evOp tb ρ ρ0 ob d o.op o.type = .ok true V ob') : OpPost tb w0 w N0 N h ob ((execOp evl o).run P w) V ob' := by
 obtain ⟨dst, op, ty, pos, after, guard⟩ := o
 cases op
 case call c => exact call_ok ok m (ρ0 := ρ0) hρ hd he
 case move x =>
  simp only [evOp, OpR.ok.injEq, true_and] at he
  obtain ⟨rfl, rfl⟩ := he
  exact OpPost.same m rfl (hρ x)
 case assign x =>
  simp only [evOp] at he
  have hx := hρ x
  have plain : OpR.ok true (ρ x) ob = (OpR.ok true V ob' : OpR T tb.rk) → OpPost tb w0 w N0 N h ob ((execOp evl ⟨dst, .assign x, ty, pos, after, guard⟩).run P w) V ob' := by
   intro hh
   simp only [OpR.ok.injEq, true_and] at hh
   obtain ⟨rfl, rfl⟩ := hh
   exact OpPost.same m rfl hx
  cases hX : ρ x with
  | nil =>
   rw [hX] at he hx
   simp only at he
   cases hel : tb.elem ty with
   | none =>
    rw [hel] at he
    simp only [OpR.ok.injEq, true_and] at he
    obtain ⟨rfl, rfl⟩ := he
    exact OpPost.same m rfl hx
   | some e =>
    rw [hel] at he
    simp only [okp, OpR.ok.injEq, true_and] at he
    obtain ⟨rfl, rfl⟩ := he
    exact post_row m (hd rfl).1 (hd rfl).2 hel (xs := []) (v := evl x) (cvs := []) (Below.refl _ _) (by rw [hx.nil_inv]; exact World.ownsRow_nil w 0 e _) (fun g hg => by rw [hx.nil_inv] at hg; simp [blk] at hg) ⟨by simp [flat], by simp⟩ rfl
  | _ => rw [hX] at he plain; exact plain he
 case pick c x y =>
  cases c with
  | tmp t =>
   simp only [evOp] at he
   cases hb : ρ (.tmp t) with
   | bool b =>
    rw [hb] at he
    simp only [OpR.ok.injEq, true_and] at he
    obtain ⟨rfl, rfl⟩ := he
    have hc := hρ (.tmp t)
    rw [hb] at hc
    have hcv := hc.bool_inv
    refine OpPost.same m (u := if b then evl x else evl y) ?_ (pickV_sound (hρ0 x) (hρ0 y) (fun e v hx hbt => hpk x t true e v b hx hb hbt) (fun e v hy hbf => hpk y t false e v b hy hb hbf))
    simp [execOp, hcv, asBool]
   | _ => rw [hb] at he; simp at he
  | const v => simp [evOp] at he
  | global g => simp [evOp] at he
  | func f => simp [evOp] at he
 case alloc e =>
  simp only [evOp] at he
  cases hz : tb.zero e with
  | none => rw [hz] at he; cases he
  | some cs =>
   rw [hz] at he
   simp only [okp, OpR.ok.injEq, true_and] at he
   obtain ⟨rfl, rfl⟩ := he
   obtain ⟨i, z, hi, hzi, hsz, hc⟩ := ok.zero e cs hz
   refine post_box m (hd rfl).1 (hd rfl).2 (cv := z.cells) (t := e) hsz (fun j V hV => (hc j V hV).rep) ?_
   simp [execOp, Instr.alloc, zeroValue, typeInfo, hi, hzi, run_newVar]
 case box e x =>
  simp only [evOp] at he
  cases hc : cellsV (ρ x) with
  | none => rw [hc] at he; cases he
  | some cs =>
   rw [hc] at he
   simp only [okp, OpR.ok.injEq, true_and] at he
   obtain ⟨rfl, rfl⟩ := he
   obtain ⟨h1, h2⟩ := cellsV_rep hc (hρ x)
   refine post_box m (hd rfl).1 (hd rfl).2 (cv := (evl x).cells) (t := e) h1 h2 ?_
   simp [execOp, Instr.box, run_newVar]
 case build t parts =>
  simp only [evOp] at he
  split at he
  ·cases he
  ·rename_i hag
   cases hz : tb.zero t with
   | none => rw [hz] at he; cases he
   | some zs =>
    rw [hz] at he
    simp only at he
    cases hf : fillV tb t ρ parts.toList zs with
    | none => rw [hf] at he; cases he
    | some cs =>
     rw [hf] at he
     simp only [OpR.ok.injEq, true_and] at he
     obtain ⟨rfl, rfl⟩ := he
     obtain ⟨i, z, hi, hzi, hsz, hc⟩ := ok.zero t zs hz
     obtain ⟨pl, hpl, hbld⟩ := ok.bld t (by simpa using hag)
     obtain ⟨out, o1, o2, o3⟩ := fillV_sound (w := w) (N := N) (h := h) (ob := ob) hpl hρ parts.toList zs cs z.cells hsz (fun j V hV => (hc j V hV).rep) hf
     refine OpPost.of (P := P) m (s := Instr.build t (parts.map fun (i, x) => (i, evl x))) rfl ⟨.agg out, hbld _ w z out (by simp [zeroValue, typeInfo, hi, hzi]) (by rw [Array.toList_map]; exact o1), .agg o2 o3⟩
 case buildSlice t len parts =>
  simp only [evOp] at he
  cases hel : tb.elem t with
  | none => rw [hel] at he; cases he
  | some e =>
   rw [hel] at he
   simp only at he
   cases hnv : nestV tb t ob d (parts.toList.map fun p => ρ p.2) with
   | some q =>
    obtain ⟨k0, v0⟩ := q
    rw [hnv] at he
    simp only at he
    split at he
    ·rename_i hc
     simp only [okp, OpR.ok.injEq, true_and] at he
     obtain ⟨rfl, rfl⟩ := he
     exact buildRowx_sound ok m hel (hd rfl).1 (hd rfl).2 hρ hnv hc
    ·cases he
   | none =>
   rw [hnv] at he
   simp only at he
   split at he
   ·rename_i hl
    cases hf : elemsV tb e ρ parts.toList 0 ob with
    | none => rw [hf] at he; cases he
    | some q =>
     obtain ⟨ys, ob1⟩ := q
     rw [hf] at he
     simp only [okp, OpR.ok.injEq, true_and] at he
     obtain ⟨rfl, rfl⟩ := he
     exact buildSlice_sound ok m hel (hd rfl).1 (hd rfl).2 hρ hl.1 hl.2 hf
   ·cases he
 case load t x =>
  simp only [evOp] at he
  split at he
  ·rename_i ht
   cases hr : readAt tb ob (tb.agg t) (tb.size t) (ρ x) with
   | none => rw [hr] at he; cases he
   | some v =>
    rw [hr] at he
    simp only [OpR.ok.injEq, true_and] at he
    obtain ⟨rfl, rfl⟩ := he
    obtain ⟨ad, u, h1, h2, h3⟩ := readAt_sound ok m ht (hρ x) hr
    exact OpPost.of (P := P) m (s := Instr.loadAt t (evl x)) rfl ⟨u, by simp [Instr.loadAt, Instr.sureAddr, h1, h2], h3⟩
  ·cases he
 case store t a x =>
  simp only [evOp] at he
  split at he
  ·cases he
  ·rename_i ht
   have ht : tb.has t = true := by simpa using ht
   have ha := hρ a
   have hx := hρ x
   cases hA : ρ a with
   | ptr k ver off =>
    rw [hA] at he ha
    cases hs : storeC tb t (ρ x) with
    | none => rw [hs] at he; simp at he
    | some vs =>
     rw [hs] at he
     simp only at he
     cases hk : getO ob k with
     | mk ver' bd =>
      rw [hk] at he
      cases bd with
      | dead => simp at he
      | row => simp at he
      | rowx => simp at he
      | mp => simp at he
      | box fz cs =>
       cases fz with
       | true => simp at he
       | false =>
        simp only at he
        split at he
        ·rename_i hv
         subst hv
         cases hsp : splice cs off vs with
         | none => rw [hsp] at he; cases he
         | some cs' =>
          rw [hsp] at he
          simp only [OpR.ok.injEq, true_and] at he
          obtain ⟨rfl, rfl⟩ := he
          exact store_box ok m ht hk ha hx hs hsp
        ·cases he
   | rad k ver i off =>
    rw [hA] at he ha
    cases hs : storeC tb t (ρ x) with
    | none => rw [hs] at he; simp at he
    | some vs =>
     rw [hs] at he
     simp only at he
     cases hf : frzL vs ob with
     | none => rw [hf] at he; cases he
     | some q =>
      obtain ⟨vs', ob1⟩ := q
      rw [hf] at he
      simp only at he
      cases hk : getO ob1 k with
      | mk ver' bd =>
       rw [hk] at he
       cases bd with
       | dead => simp at he
       | box => simp at he
       | rowx => simp at he
       | mp => simp at he
       | row fz e xs =>
        cases fz with
        | true => simp at he
        | false =>
         simp only at he
         split at he
         ·rename_i hv
          subst hv
          cases hsp : splice (tb.cells e (rdl tb e xs i)) off vs' with
          | none => rw [hsp] at he; cases he
          | some cs' =>
           rw [hsp] at he
           simp only at he
           cases hu : tb.unc e cs' with
           | none => rw [hu] at he; cases he
           | some y =>
            rw [hu] at he
            simp only [OpR.ok.injEq, true_and] at he
            obtain ⟨rfl, rfl⟩ := he
            exact store_row ok m ht hx hs hf hk ha hsp hu
         ·cases he
   | _ => rw [hA] at he; simp at he
 case nilCheck x =>
  simp only [evOp] at he
  have hx := hρ x
  cases hX : ρ x with
  | ptr k ver off =>
   rw [hX] at he hx
   simp only [OpR.ok.injEq, true_and] at he
   obtain ⟨rfl, rfl⟩ := he
   obtain ⟨a, ha⟩ := hx.ptr_some
   exact OpPost.same m (u := evl x) (by simp [execOp, ha]) hx
  | adr cs off =>
   rw [hX] at he hx
   simp only [OpR.ok.injEq, true_and] at he
   obtain ⟨rfl, rfl⟩ := he
   obtain ⟨b, o', vs, ha, _⟩ := hx.adr_inv
   exact OpPost.same m (u := evl x) (by simp [execOp, ha]) hx
  | _ => rw [hX] at he; simp at he
 case binOp op t x y t' =>
  simp only [evOp] at he
  cases hif : ifcV tb op t (ρ x) y with
  | some V' =>
   rw [hif] at he
   simp only [OpR.ok.injEq, true_and] at he
   obtain ⟨rfl, rfl⟩ := he
   exact OpPost.of (P := P) m (s := do eqGuard op t x y (evl x) (evl y); binOp op t (evl x) (evl y)) rfl (ifcV_sound ok (hρ x) x y hif (fun hy => by subst hy; exact hcon _))
  | none =>
  rw [hif] at he
  simp only [OpR.ok.injEq] at he
  obtain ⟨h1, h2, rfl⟩ := he
  exact OpPost.of (P := P) m (s := do eqGuard op t x y (evl x) (evl y); binOp op t (evl x) (evl y)) rfl (binV_sound ok (hρ x) (hρ y) x y (by rw [← h1, ← h2]))
 case unOp u t x =>
  have hx := hρ x
  cases u with
  | not =>
   simp only [evOp] at he
   cases hX : ρ x with
   | bool b =>
    rw [hX] at he hx
    simp only [OpR.ok.injEq, true_and] at he
    obtain ⟨rfl, rfl⟩ := he
    exact OpPost.of (P := P) m (s := Op.unary .not (evl x)) rfl ⟨_, by rw [hx.bool_inv]; rfl, .fz .bool⟩
   | _ => rw [hX] at he; simp at he
  | neg =>
   simp only [evOp] at he
   cases hX : ρ x with
   | int k n =>
    rw [hX] at he hx
    simp only [OpR.ok.injEq, true_and] at he
    obtain ⟨rfl, rfl⟩ := he
    exact OpPost.of (P := P) m (s := Op.unary .neg (evl x)) rfl ⟨_, by rw [hx.int_inv.1]; rfl, .fz (.int (inR_wrap _ _))⟩
   | _ => rw [hX] at he; simp at he
  | _ => simp [evOp] at he
 case convert s t x =>
  simp only [evOp] at he
  have hx := hρ x
  cases hel : tb.elem s with
  | some e =>
   rw [hel] at he
   simp only at he
   split at he
   ·rename_i hty
    simp only [Bool.and_eq_true] at hty
    split at he
    ·rename_i e' xs hl
     split at he
     ·rename_i hee
      subst hee
      split at he
      ·rename_i bs hbs
       simp only [OpR.ok.injEq, decide_eq_true_eq] at he
       obtain ⟨hlen, rfl, rfl⟩ := he
       have hku : tb.ikind e = some .u8 := by
        have := hty.2
        unfold isU8 at this
        split at this
        ·assumption
        ·cases this
       exact OpPost.of (P := P) m (s := Go.convert s t (evl x)) rfl ⟨_, bytes_run ok hel hku hty.1 (lend1_sound ok m hx hl) hbs, .fz (.str (by simpa [ByteArray.size] using hlen))⟩
      ·cases he
     ·cases he
    ·cases he
   ·cases he
  | none =>
   rw [hel] at he
   simp only at he
   cases hX : ρ x with
   | int k n =>
    rw [hX] at he hx
    cases h1 : tb.ikind s with
    | none => rw [h1] at he; simp at he
    | some k1 =>
     cases h2 : tb.ikind t with
     | none => rw [h1, h2] at he; simp at he
     | some k2 =>
      rw [h1, h2] at he
      simp only at he
      split at he
      ·rename_i hk
       subst hk
       have hrun : (Go.convert s t (evl x)).run P w = .ok (.int k2 (k2.wrap n)) w := by
        rw [hx.int_inv.1]
        simp [Go.convert, run_underlying (ok.ikind s k h1), run_underlying (ok.ikind t k2 h2), Conv.intToInt]
       split at he
       ·rename_i hk2
        subst hk2
        simp only [OpR.ok.injEq, true_and] at he
        obtain ⟨rfl, rfl⟩ := he
        refine OpPost.of (P := P) m (s := Go.convert s t (evl x)) rfl ⟨_, hrun, ?_⟩
        have := hx.int_inv.2
        unfold inR at this
        rw [this]
        exact .fz (.int this)
       ·simp only [OpR.ok.injEq, true_and] at he
        obtain ⟨rfl, rfl⟩ := he
        exact OpPost.of (P := P) m (s := Go.convert s t (evl x)) rfl ⟨_, hrun, .fz (.int (inR_wrap _ _))⟩
      ·cases he
   | _ => rw [hX] at he; simp at he
 case fieldAddr s x f =>
  simp only [evOp] at he
  have hx := hρ x
  cases hf : tb.fld s f with
  | none => rw [hf] at he; simp at he
  | some q =>
   obtain ⟨o', ft⟩ := q
   rw [hf] at he
   cases hX : ρ x with
   | ptr k ver off =>
    rw [hX] at he hx
    simp only [OpR.ok.injEq, true_and] at he
    obtain ⟨rfl, rfl⟩ := he
    exact OpPost.of (P := P) m (s := Instr.fieldAt s (evl x) f) rfl (fieldAddr_sound ok hf hx (.inl ⟨_, _, _, rfl, rfl⟩))
   | adr cs off =>
    rw [hX] at he hx
    simp only [OpR.ok.injEq, true_and] at he
    obtain ⟨rfl, rfl⟩ := he
    exact OpPost.of (P := P) m (s := Instr.fieldAt s (evl x) f) rfl (fieldAddr_sound ok hf hx (.inr (.inl ⟨_, _, rfl, rfl⟩)))
   | rad k ver i off =>
    rw [hX] at he hx
    simp only [OpR.ok.injEq, true_and] at he
    obtain ⟨rfl, rfl⟩ := he
    exact OpPost.of (P := P) m (s := Instr.fieldAt s (evl x) f) rfl (fieldAddr_sound ok hf hx (.inr (.inr ⟨_, _, _, _, rfl, rfl⟩)))
   | _ => rw [hX] at he; simp at he
 case field t x f =>
  simp only [evOp] at he
  have hx := hρ x
  cases hf : tb.fld t f with
  | none => rw [hf] at he; simp at he
  | some q =>
   obtain ⟨o', ft⟩ := q
   rw [hf] at he
   cases hX : ρ x with
   | agg cs =>
    rw [hX] at he hx
    simp only at he
    cases hm : mkAt (tb.agg ft) (tb.size ft) cs o' with
    | none => rw [hm] at he; cases he
    | some v =>
     rw [hm] at he
     simp only [OpR.ok.injEq, true_and] at he
     obtain ⟨rfl, rfl⟩ := he
     obtain ⟨vs, hv, hsz, hc⟩ := hx.agg_inv
     obtain ⟨fs, fd, h1, h2, rfl, rfl, h5⟩ := ok.fld t f o' ft hf
     obtain ⟨u, hu, hr⟩ := run_part (P := P) (w := w) (N := N) (h := h) (ob := ob) ok h5 hm hsz hc
     refine OpPost.of (P := P) m (s := Instr.field t (evl x) f) rfl ⟨u, ?_, hr⟩
     rw [hv]
     simp [Instr.field, run_underlying h1, h2, asAgg, hu]
   | _ => rw [hX] at he; simp at he
 case indexAddr t x i =>
  simp only [evOp] at he
  cases har : tb.arr t with
  | some en =>
   obtain ⟨e, n⟩ := en
   rw [har] at he
   simp only at he
   have hx := hρ x
   have hi := hρ i
   cases hI : ρ i with
   | int k q =>
    rw [hI] at he hi
    have go : ∀ (W : Val T), ((∃ k ver off, ρ x = .ptr k ver off ∧ W = .ptr k ver (off + q.toNat * tb.size e)) ∨ (∃ cs off, ρ x = .adr cs off ∧ W = .adr cs (off + q.toNat * tb.size e)) ∨ (∃ k ver i off, ρ x = .rad k ver i off ∧ W = .rad k ver i (off + q.toNat * tb.size e))) →
      OpR.ok (decide (0 ≤ q) && decide (q < n)) W ob = (OpR.ok true V ob' : OpR T tb.rk) → OpPost tb w0 w N0 N h ob ((execOp evl ⟨dst, .indexAddr t x i, ty, pos, after, guard⟩).run P w) V ob' := by
     intro W hW hh
     simp only [OpR.ok.injEq, Bool.and_eq_true, decide_eq_true_eq] at hh
     obtain ⟨⟨h0, h1⟩, rfl, rfl⟩ := hh
     obtain ⟨u, h2, h3⟩ := indexAddr_arr (P := P) ok har hx k h0 h1 hW
     exact OpPost.of (P := P) m (s := Instr.indexAt t (evl x) (evl i)) rfl ⟨u, by rw [hi.int_inv.1]; exact h2, h3⟩
    cases hX : ρ x with
    | ptr k ver off => rw [hX] at he; exact go _ (.inl ⟨_, _, _, hX, rfl⟩) he
    | adr cs off => rw [hX] at he; exact go _ (.inr (.inl ⟨_, _, hX, rfl⟩)) he
    | rad k ver i off => rw [hX] at he; exact go _ (.inr (.inr ⟨_, _, _, _, hX, rfl⟩)) he
    | _ => rw [hX] at he; simp at he
   | _ => rw [hI] at he; cases hX : ρ x <;> rw [hX] at he <;> simp at he
  | none =>
   rw [har] at he
   simp only at he
   have hx := res_rep ok m (hρ x)
   have hi := hρ i
   cases hI : ρ i with
   | int k n =>
    rw [hI] at he hi
    cases hel : tb.elem t with
    | none => rw [hel] at he; cases hX : res ob (ρ x) <;> rw [hX] at he <;> simp at he
    | some e' =>
     rw [hel] at he
     cases hX : res ob (ρ x) with
     | lst e xs =>
      rw [hX] at he hx
      simp only at he
      split at he
      ·rename_i hee
       subst hee
       simp only [OpR.ok.injEq, Bool.and_eq_true, decide_eq_true_eq] at he
       obtain ⟨⟨h0, h1⟩, rfl, rfl⟩ := he
       obtain ⟨u, h2, h3⟩ := indexAddr_lst (P := P) (k := k) ok hel hx.lst_inv h0 h1
       exact OpPost.of (P := P) m (s := Instr.indexAt t (evl x) (evl i)) rfl ⟨u, by rw [hi.int_inv.1]; exact h2, .fz h3⟩
      ·cases he
     | ownx kk ver k0 v0 =>
      rw [hX] at he hx
      simp only at he
      cases hk : getO ob kk with
      | mk ver' bd =>
       rw [hk] at he
       cases bd with
       | rowx e xs k1 v1 =>
        simp only at he
        split at he
        ·rename_i hv
         obtain ⟨rfl, hk0, hv0⟩ := hv
         split at he
         ·rename_i hee
          subst hee
          simp only [OpR.ok.injEq, beq_iff_eq] at he
          obtain ⟨h0, rfl, rfl⟩ := he
          obtain ⟨u, h2, h3⟩ := indexAddr_ownx (P := P) (k := k) ok m hel hk hx hk0 hv0 h0
          exact OpPost.of (P := P) m (s := Instr.indexAt t (evl x) (evl i)) rfl ⟨u, by rw [hi.int_inv.1]; exact h2, h3⟩
         ·cases he
        ·cases he
       | _ => simp at he
     | own kk ver =>
      rw [hX] at he hx
      simp only at he
      cases hk : getO ob kk with
      | mk ver' bd =>
       rw [hk] at he
       cases bd with
       | dead => simp at he
       | box => simp at he
       | rowx => simp at he
       | mp => simp at he
       | row fz e xs =>
        cases fz with
        | true => simp at he
        | false =>
         simp only at he
         split at he
         ·rename_i hv
          subst hv
          split at he
          ·rename_i hee
           subst hee
           simp only [OpR.ok.injEq, Bool.and_eq_true, decide_eq_true_eq] at he
           obtain ⟨⟨h0, h1⟩, rfl, rfl⟩ := he
           obtain ⟨u, h2, h3⟩ := indexAddr_own (P := P) (k := k) ok m hel hk hx h0 h1
           exact OpPost.of (P := P) m (s := Instr.indexAt t (evl x) (evl i)) rfl ⟨u, by rw [hi.int_inv.1]; exact h2, h3⟩
          ·cases he
         ·cases he
     | _ => rw [hX] at he; simp at he
   | _ => rw [hI] at he; cases hX : res ob (ρ x) <;> rw [hX] at he <;> simp at he
 case index t x i =>
  simp only [evOp] at he
  cases har : tb.arr t with
  | some en =>
   obtain ⟨e, n⟩ := en
   rw [har] at he
   simp only at he
   have hx := hρ x
   have hi := hρ i
   cases hX : ρ x with
   | agg cs =>
    cases hI : ρ i with
    | int k q =>
     rw [hX, hI] at he
     rw [hX] at hx
     rw [hI] at hi
     simp only at he
     cases hm : mkAt (tb.agg e) (tb.size e) cs (q.toNat * tb.size e) with
     | none => rw [hm] at he; cases he
     | some v =>
      rw [hm] at he
      simp only at he
      split at he
      ·rename_i hhe
       simp only [OpR.ok.injEq, Bool.and_eq_true, decide_eq_true_eq] at he
       obtain ⟨⟨h0, h1⟩, rfl, rfl⟩ := he
       obtain ⟨hu, _⟩ := ok.arr t e n har
       obtain ⟨⟨ti, hti, hts⟩, _, _⟩ := ok.has e hhe
       obtain ⟨vs, hv, hsz, hc⟩ := hx.agg_inv
       obtain ⟨u, hpu, hr⟩ := run_part (P := P) (w := w) (N := N) (h := h) (ob := ob) ok hhe hm hsz hc
       refine OpPost.of (P := P) m (s := Instr.index t (evl x) (evl i)) rfl ⟨u, ?_, hr⟩
       have h1' : q < (n : Int) := h1
       rw [hv, hi.int_inv.1]
       simp [Instr.index, asIntOf, run_underlying hu, h0, h1', sizeOf, typeInfo, hti, hts, hpu]
      ·cases he
    | _ => rw [hX, hI] at he; simp at he
   | _ => rw [hX] at he; simp at he
  | none =>
   rw [har] at he
   simp only at he
   have hx := hρ x
   have hi := hρ i
   cases hX : ρ x with
   | str s =>
    cases hI : ρ i with
    | int k n =>
     rw [hX, hI] at he
     rw [hX] at hx
     rw [hI] at hi
     cases ht : tb.isStr t with
     | false => rw [ht] at he; simp at he
     | true =>
      rw [ht] at he
      simp only [OpR.ok.injEq, Bool.and_eq_true, decide_eq_true_eq] at he
      obtain ⟨⟨h0, h1⟩, rfl, rfl⟩ := he
      have hin : n.toNat < s.data.size := by have : s.size = s.data.size := rfl; omega
      refine OpPost.of (P := P) m (s := Instr.index t (evl x) (evl i)) rfl ⟨.int .u8 ((s.data.getD n.toNat 0).toNat : Int), ?_, .fz (.int (inR_u8 (by omega) (by have := (s.data.getD n.toNat 0).toNat_lt; omega)))⟩
      rw [hx.str_inv.1, hi.int_inv.1]
      have hg : s[n.toNat]? = some (s.data[n.toNat]'hin) := by
       have : n.toNat < s.size := hin
       simp [getElem?_pos, this, ByteArray.getElem_eq_getElem_data]
      simp [Instr.index, asIntOf, run_underlying (ok.isStr t ht), h0, hg, Array.getElem?_eq_getElem hin]
    | _ => rw [hX, hI] at he; simp at he
   | _ => rw [hX] at he; simp at he
 case extract x i =>
  simp only [evOp] at he
  have hx := hρ x
  cases hX : ρ x with
  | tup vs =>
   rw [hX] at he hx
   obtain ⟨us, hu, hsz, hc⟩ := hx.tup_inv
   simp only at he
   cases hv : vs[i]? with
   | none => rw [hv] at he; cases he
   | some v =>
    rw [hv] at he
    simp only [OpR.ok.injEq, true_and] at he
    obtain ⟨rfl, rfl⟩ := he
    have hlt : i < us.size := by have := (List.getElem?_eq_some_iff.1 hv).1; omega
    refine OpPost.of (P := P) m (s := Instr.extract (evl x) i) rfl ⟨us.getD i undef, ?_, hc i v hv⟩
    rw [hu]
    simp [Instr.extract, hlt]
  | _ => rw [hX] at he; simp at he
 case makeFunc fn first caps =>
  cases fn with
  | func f =>
   simp only [evOp] at he
   cases h1 : capA ob (first.toList.map ρ) with
   | none => rw [h1] at he; cases he
   | some fs =>
    cases h2 : capA ob (caps.toList.map ρ) with
    | none => rw [h1, h2] at he; cases he
    | some cs =>
     rw [h1, h2] at he
     simp only [OpR.ok.injEq, true_and] at he
     obtain ⟨rfl, rfl⟩ := he
     have hop : ∀ (l : Array Operand) (j : Nat) V, (l.toList.map ρ)[j]? = some V → Rep tb w N h ob V ((l.map evl).getD j undef) := fun l j V hV => by
      simp only [List.getElem?_map, Option.map_eq_some_iff] at hV
      obtain ⟨a, ha, rfl⟩ := hV
      rw [Array.getElem?_toList] at ha
      have : (l.map evl).getD j undef = evl a := by
       simp only [Array.getD_eq_getD_getElem?, Array.getElem?_map, ha, Option.map_some, Option.getD_some]
      rw [this]
      exact hρ a
     obtain ⟨e1, z1⟩ := capA_rep ok m _ (r := fun j => (first.map evl).getD j undef) (hop first) h1
     obtain ⟨e2, z2⟩ := capA_rep ok m _ (r := fun j => (caps.map evl).getD j undef) (hop caps) h2
     refine OpPost.same m (u := .func (.func f) (first.map evl) (caps.map evl)) rfl (.clo ?_ ?_ z1 z2)
     ·rw [e1]; simp
     ·rw [e2]; simp
  | _ => simp [evOp] at he
 case slice t x lo hi mx =>
  cases mx with
  | some y => simp [evOp] at he
  | none =>
   simp only [evOp] at he
   cases hbl : boundV ρ 0 lo with
   | none => rw [hbl] at he; cases he
   | some l =>
    rw [hbl] at he
    simp only at he
    have hlo := boundV_rep hρ hbl
    have hx := hρ x
    split at he
    ·rename_i ht
     cases hX : ρ x with
     | str s =>
      rw [hX] at he hx
      simp only at he
      cases hbh : boundV ρ s.size hi with
      | none => rw [hbh] at he; cases he
      | some hh =>
       rw [hbh] at he
       simp only [OpR.ok.injEq, Bool.and_eq_true, decide_eq_true_eq] at he
       obtain ⟨⟨h0, h1, h2⟩, rfl, rfl⟩ := he
       have hhi := boundV_rep hρ hbh
       refine OpPost.of (P := P) m (s := Instr.sliceAt t (evl x) (lo.map evl) (hi.map evl) none) rfl ⟨_, by rw [hx.str_inv.1]; exact slice_str ok ht h0 h1 h2 _ _ hlo hhi, .fz (.str ?_)⟩
       have := hx.str_inv.2
       simp [ByteArray.size_extract]
       omega
     | _ => rw [hX] at he; simp at he
    ·cases hf : frz1 ob (ρ x) with
     | none => rw [hf] at he; simp at he
     | some q =>
      obtain ⟨V', ob1⟩ := q
      obtain ⟨N1, m1, z1, t1, n1, l1⟩ := frz1_sound ok m hx hf
      rw [hf] at he
      cases V' with
      | lst e xs =>
       cases hel : tb.elem t with
       | none => rw [hel] at he; simp at he
       | some e' =>
        rw [hel] at he
        simp only at he
        split at he
        ·rename_i hee
         subst hee
         cases hbh : boundV ρ xs.length hi with
         | none => rw [hbh] at he; cases he
         | some hh =>
          rw [hbh] at he
          simp only [OpR.ok.injEq, Bool.and_eq_true, decide_eq_true_eq] at he
          obtain ⟨⟨h0, h1, h2⟩, rfl, rfl⟩ := he
          have hhi := boundV_rep hρ hbh
          obtain ⟨u, r1, r2⟩ := slice_lst (P := P) ok hel z1 h0 h1 h2 (lo.map evl) (hi.map evl) hlo hhi
          exact ⟨u, w, N1, h, .inl (by simp [execOp, r1]), m1, .fz r2, t1, Kept.refl _ _, n1, l1⟩
        ·cases he
      | _ => simp at he
 case makeSlice t a b =>
  cases a <;> cases b <;> try (simp only [evOp] at he; cases he; done)
  rename_i a b
  simp only [evOp] at he
  cases hel : tb.elem t with
  | none => rw [hel] at he; cases he
  | some e =>
   rw [hel] at he
   have hx := hρ (.tmp a)
   cases hX : ρ (.tmp a) with
   | int k n =>
    rw [hX] at he hx
    cases k <;> try (simp at he; done)
    simp only at he
    split at he
    ·rename_i hc
     have hab := Nat.eq_of_beq_eq_true hc
     subst hab
     cases hz : tb.zero e with
     | none => rw [hz] at he; cases he
     | some cs =>
      rw [hz] at he
      simp only at he
      cases hu : tb.unc e cs with
      | none => rw [hu] at he; cases he
      | some z =>
       rw [hu] at he
       simp only [OpR.ok.injEq, Bool.and_eq_true, decide_eq_true_eq] at he
       obtain ⟨⟨hn0, hroom⟩, rfl, rfl⟩ := he
       exact makeSlice_sound ok m hel hz hu (hd rfl).1 (hd rfl).2 hn0 hroom (by simp [execOp, hx.int_inv.1])
    ·cases he
   | _ => rw [hX] at he; simp at he
 case makeMap t r =>
  cases r with
  | some y => simp [evOp] at he
  | none =>
   simp only [evOp] at he
   cases hm : tb.mp t with
   | none => rw [hm] at he; cases he
   | some q =>
    obtain ⟨kt, vt⟩ := q
    rw [hm] at he
    simp only [okp, OpR.ok.injEq, true_and] at he
    obtain ⟨rfl, rfl⟩ := he
    obtain ⟨_, hf1, hf2, _⟩ := ok.mp t kt vt hm
    exact post_map m (hd rfl).1 (hd rfl).2 ⟨hf1, hf2⟩ rfl
 case lookup t mm x okk =>
  simp only [evOp] at he
  have hm := hρ mm
  have hx := hρ x
  cases htm : tb.mp t with
  | none => rw [htm] at he; simp at he
  | some q =>
   obtain ⟨kt, vt⟩ := q
   rw [htm] at he
   cases hM : ρ mm with
   | mref k ver =>
    rw [hM] at he hm
    simp only at he
    cases hk : getO ob k with
    | mk ver' bd =>
     rw [hk] at he
     cases bd with
     | mp kt' vt' kvs =>
      simp only at he
      split at he
      ·rename_i hh
       obtain ⟨rfl, rfl, rfl⟩ := hh
       revert he
       split
       ·rename_i key z hkey hz
        intro he
        simp only [OpR.ok.injEq, true_and] at he
        obtain ⟨rfl, rfl⟩ := he
        obtain ⟨_, hfk, _, mo⟩ := ok.mp t _ _ htm
        obtain ⟨d, hd⟩ := mo.und
        exact OpPost.of (P := P) m (s := Instr.lookup t (evl mm) (evl x) okk) rfl (lookup_sound ok m htm hd hk hm hx hkey hz (findT_eq ok hfk kvs key) okk)
       ·intro he; cases he
      ·cases he
     | _ => simp at he
   | _ => rw [hM] at he; simp at he
 case mapUpdate t mm x y =>
  simp only [evOp] at he
  have hm := hρ mm
  have hx := hρ x
  have hy := hρ y
  cases htm : tb.mp t with
  | none => rw [htm] at he; simp at he
  | some q =>
   obtain ⟨kt, vt⟩ := q
   rw [htm] at he
   cases hM : ρ mm with
   | mref k ver =>
    rw [hM] at he hm
    simp only at he
    cases hk : getO ob k with
    | mk ver' bd =>
     rw [hk] at he
     cases bd with
     | mp kt' vt' kvs =>
      simp only at he
      split at he
      ·rename_i hh
       obtain ⟨rfl, rfl, rfl⟩ := hh
       revert he
       split
       ·rename_i key v hkey hv
        intro he
        simp only [OpR.ok.injEq, true_and] at he
        obtain ⟨rfl, rfl⟩ := he
        obtain ⟨_, hfk, _, mo⟩ := ok.mp t _ _ htm
        obtain ⟨d, hd⟩ := mo.und
        exact mapUpdate_sound ok m htm hd hk hm hx hy hkey hv (putT_eq ok hfk kvs key v)
       ·intro he; cases he
      ·cases he
     | _ => simp at he
   | _ => rw [hM] at he; simp at he
 all_goals
  simp [evOp] at he
end Go.Fw
