import Derived.Test.YtmogfjfdbbggcaaGreatDoorFwC
import Derived.LoopN
import Derived.ChangeKeysEq
import Derived.MapKept
set_option linter.all false
namespace Go.Fw
open Go.RowKit
set_option linter.unusedVariables false
set_option linter.unusedSimpArgs false
variable {T : Nat → Type} {P : Program} {tb : Tab T} {w0 : Base} {w : World} {N0 N : NS} {h : Nat → Value}
theorem lessB_iff {k : Nat} {l : List Nat} (h : lessB k l = true) : ∀ x ∈ l, x < k := by
 induction l with
 | nil => intro x hx; cases hx
 | cons a r ih =>
  simp only [lessB, Bool.and_eq_true, Nat.blt_eq] at h
  intro x hx
  rcases List.mem_cons.1 hx with rfl | hx
  ·exact h.1
  ·exact ih h.2 x hx
theorem pairsB_iff {ops : Array Oper} {o : Oper} {anc : List Nat} {rd : List Nat × List Nat} {past : List Pst} (h : pairsB ops past o anc rd = true) : ∀ p ∈ past, p.ix ∈ anc ∨ Apart ops p.o o p.rd rd := by
 induction past with
 | nil => intro p hp; cases hp
 | cons a r ih =>
  simp only [pairsB, Bool.and_eq_true, Bool.or_eq_true] at h
  intro p hp
  rcases List.mem_cons.1 hp with rfl | hp
  ·rcases h.1 with h1 | h1
   ·exact .inl (inB_iff.1 h1)
   ·exact .inr (apartB_spec h1)
  ·exact ih h.2 p hp
theorem ancAt_mem {past : List Pst} {i j : Nat} (h : i ∈ ancAt past j) : ∃ p ∈ past, p.ix = j ∧ i ∈ p.anc := by
 induction past with
 | nil => cases h
 | cons p r ih =>
  unfold ancAt at h
  split at h
  ·rename_i hj; exact ⟨p, by simp, hj, h⟩
  ·obtain ⟨q, hq, h1, h2⟩ := ih h; exact ⟨q, by simp [hq], h1, h2⟩
theorem ancOf_mem {past : List Pst} {i : Nat} {l : List Nat} (h : i ∈ ancOf past l) : i ∈ l ∨ ∃ j ∈ l, ∃ p ∈ past, p.ix = j ∧ i ∈ p.anc := by
 induction l with
 | nil => cases h
 | cons j r ih =>
  unfold ancOf at h
  rcases List.mem_append.1 h with h | h
  ·rcases List.mem_cons.1 h with rfl | h
   ·exact .inl (by simp)
   ·obtain ⟨p, hp, h1, h2⟩ := ancAt_mem h
    exact .inr ⟨j, by simp, p, hp, h1, h2⟩
  ·rcases ih h with h | ⟨j', hj', hh⟩
   ·exact .inl (by simp [h])
   ·exact .inr ⟨j', by simp [hj'], hh⟩
theorem Recs.cons {ops : Array Oper} {past : List Pst} (hR : Recs ops past) {k : Nat} {o : Oper} {rd : List Nat × List Nat} (ho : ops[k]? = some o) (hp : pairsB ops past o (ancOf past (bindsOn o)) rd = true) : Recs ops (⟨k, o, ancOf past (bindsOn o), rd⟩ :: past) := by
 refine ⟨fun p hpm => ?_, fun p hpm q hqm hne => ?_⟩
 ·rcases List.mem_cons.1 hpm with rfl | hpm
  ·refine ⟨ho, fun listed hd hb i hi => ?_⟩
   rcases ancOf_mem hi with h1 | ⟨j, hj, q, hq, rfl, h1⟩
   ·exact hb i h1
   ·exact (hR.recs q hq).2 listed hd (hd q.ix q.o (hR.recs q hq).1 (hb _ hj)) i h1
  ·exact hR.recs p hpm
 ·rcases List.mem_cons.1 hpm with rfl | hpm <;> rcases List.mem_cons.1 hqm with rfl | hqm
  ·exact absurd rfl hne
  ·rcases pairsB_iff hp q hqm with h1 | h1
   ·exact .inr (.inl h1)
   ·exact .inr (.inr h1.symm)
  ·rcases pairsB_iff hp p hpm with h1 | h1
   ·exact .inl h1
   ·exact .inr (.inr h1)
  ·exact hR.pairs p hpm q hqm hne
theorem evD_any {R : Type} {E : Env T tb} {ops : Array Oper} {c : St T → Option R} {r : R} : ∀ (l : List Oper) (k : Nat) (past : List Pst) (s : St T) (listed : Array Bool), (∀ j, l[j]? = ops[k + j]?) → k + l.length = ops.size → Recs ops past → listed.size = ops.size → (∀ j, j < ops.size → listed.getD j false = decide (j < k)) → Down ops listed →
  evD E ops k l past s c = some r → ∃ sf Rs, Recs ops Rs ∧ (∀ p ∈ past, p ∈ Rs) ∧ c sf = some r ∧ anyOk tb E.C ops Rs sf l.length listed s := by
 intro l
 induction l with
 | nil =>
  intro k past s listed hl hk hR hsz hli hd he
  refine ⟨s, past, hR, fun p hp => hp, he, ?_, Alike.refl s⟩
  apply List.eq_nil_iff_forall_not_mem.2
  intro j hj
  obtain ⟨h0, o, ho, _⟩ := mem_ready.1 hj
  have hjs : j < ops.size := (Array.getElem?_eq_some_iff.1 ho).1
  have := hli j hjs
  simp only [List.length_nil, Nat.add_zero] at hk
  subst hk
  simp [hjs, hsz] at this h0
  rw [h0] at this; cases this
 | cons o l ih =>
  intro k past s listed hl hk hR hsz hli hd he
  have ho : ops[k]? = some o := by have := hl 0; simpa using this.symm
  have hks : k < ops.size := (Array.getElem?_eq_some_iff.1 ho).1
  unfold evD at he
  cases hch : lessB k (bindsOn o) && pairsB ops past o (ancOf past (bindsOn o)) (ftOf tb ops o s) with
  | false => rw [hch] at he; cases he
  | true =>
   rw [hch] at he
   simp only [Bool.and_eq_true] at hch he
   rw [SR.cps_run] at he
   cases hs1 : (step tb ops o s).run E.C with
   | none => rw [hs1] at he; cases he
   | some s1 =>
    rw [hs1] at he
    simp only [Option.bind_some] at he
    have hready : k ∈ Region.ready .any ops listed := by
     refine mem_ready.2 ⟨?_, o, ho, fun e hem hb => ?_⟩
     ·have := hli k hks
      simp [hks, hsz] at this ⊢
      exact this
     ·have hlt := lessB_iff hch.1 e.on (mem_bindsOn.2 ⟨e, hem, hb, rfl⟩)
      rw [hli e.on (by omega)]
      simpa using hlt
    obtain ⟨sf, Rs, h1, h2, h3, h4⟩ := ih (k + 1) _ s1 (listed.setIfInBounds k true) (fun j => by have := hl (j + 1); simpa [Nat.add_assoc, Nat.add_comm 1 j] using this) (by simp at hk; omega) (hR.cons ho hch.2) (by simpa using hsz) (fun j hj => by
     by_cases hjk : k = j
     ·subst hjk
      simp [hsz, hks]
     ·rw [getD_set_ne false hjk, hli j hj]
      by_cases h1 : j < k
      ·simp [h1, Nat.lt_succ_of_lt h1]
      ·have : ¬ j < k + 1 := by omega
       simp [h1, this]) (hd.set hready) he
    exact ⟨sf, Rs, h1, fun p hp => h2 p (by simp [hp]), h3, anyOk_first h1 (p := ⟨k, o, ancOf past (bindsOn o), ftOf tb ops o s⟩) (h2 _ (List.mem_cons_self ..)) hd hready rfl hs1 h4⟩
theorem drawn_rel {s : St T} {a : Act} (n : Nat) (hs : Rel tb w0 N0 s a w) : Rel tb w0 N0 s a { w with drawn := n } := by
 obtain ⟨N, h, inv⟩ := hs
 have hk : Kept w { w with drawn := n } N := ⟨Nat.le_refl _, fun _ _ _ => rfl⟩
 exact ⟨N, h, inv.mem.later0 ⟨rfl, rfl, rfl, Nat.le_refl _, fun _ _ _ => rfl⟩ (fun _ _ x => x) (fun _ _ x => .inl x) (fun b o x => inv.mem.nlt b o x), inv.dfr, inv.sz, inv.nn, fun t => Rep.mono hk (fun _ _ x => x) (Turn.refl _ _) (inv.slots t), inv.cnds⟩
theorem evD_sound {R : Type} (hm : P.follows .mixedOrders = true) (ok : TabOk P tb) {E : Env T tb} (hC : SoundC P tb E.C) (id : Nat) (ops : Array Oper) {s : St T} {a : Act} {k : St T → Option R} {r : R} {Q : Exit → Act → World → Prop} (hs : Rel tb w0 N0 s a w)
  (he : evD E ops 0 ops.toList [] s k = some r) (hq : ∀ s' a' w', Rel tb w0 N0 s' a' w' → k s' = some r → Q .normal a' w') : (Code.region id ops true).wp P Q a w := by
 obtain ⟨sf, Rs, h1, _, h3, h4⟩ := evD_any ops.toList 0 [] s (Array.replicate ops.size false) (by simp) (by simp) ⟨fun p hp => (by cases hp), fun p hp => (by cases hp)⟩ (by simp) (fun j hj => by simp [hj]) (fun j o ho hj => by
  have hjs : j < ops.size := (Array.getElem?_eq_some_iff.1 ho).1
  simp [hjs] at hj) he
 refine wp_region_any hm (wpAny_of_anyOk ok hC h1 (fun a' w' hr => hq sf a' w' hr h3) (drawn_rel (w.drawn + 1) hs) ?_)
 simpa using h4
theorem evD_cont {R : Type} {Cn : Nat → (f : Nat) → List (Val T) → Option (Ret T tb f)} {C : (f : Nat) → List (Val T) → Option (Ret T tb f)} {lp} (ops : Array Oper)
  (hcps : ∀ (x : SR T tb) (k : St T → Option R) (kn : Nat → St T → Option R) (r : R), (∀ s r, k s = some r → ∃ n, ∀ m, n ≤ m → kn m s = some r) → x.cps C k = some r → ∃ n, ∀ m, n ≤ m → x.cps (Cn m) (kn m) = some r) :
  ∀ (l : List Oper) (i : Nat) (past : List Pst) (s : St T) {k : St T → Option R} {kn : Nat → St T → Option R} {r : R}, (∀ s r, k s = some r → ∃ n, ∀ m, n ≤ m → kn m s = some r) →
  evD ⟨C, lp⟩ ops i l past s k = some r → ∃ n, ∀ m, n ≤ m → evD ⟨Cn m, lp⟩ ops i l past s (kn m) = some r := by
 intro l
 induction l with
 | nil => intro i past s k kn r hk h; exact hk s r h
 | cons o l ih =>
  intro i past s k kn r hk h
  unfold evD at h ⊢
  cases hch : lessB i (bindsOn o) && pairsB ops past o (ancOf past (bindsOn o)) (ftOf tb ops o s) with
  | false => rw [hch] at h; cases h
  | true =>
   rw [hch] at h
   simp only at h ⊢
   exact hcps _ _ _ _ (fun s r h => ih _ _ s hk h) h
end Go.Fw
namespace Go.Fw
open Go.RowKit
set_option linter.unusedVariables false
set_option linter.unusedSimpArgs false
variable {T : Nat → Type} {P : Program} {tb : Tab T} {w0 : Base} {w : World} {N0 N : NS} {h : Nat → Value} {ob : List (Obj' T)}
theorem noCnd_get (l : List (Val T)) (nl t : Nat) : (noCnd l nl).getD t .junk = .junk ∨ (noCnd l nl).getD t .junk = unG none (l.getD t .junk) := by
  induction l generalizing nl t with
  | nil => left; simp [noCnd]
  | cons v l ih =>
    cases nl with
    | zero =>
      cases t with
      | zero => left; simp [noCnd]
      | succ t => simpa [noCnd] using ih 0 t
    | succ nl =>
      cases t with
      | zero => right; simp [noCnd]
      | succ t => simpa [noCnd] using ih nl t
theorem noCnd_length (l : List (Val T)) (nl : Nat) : (noCnd l nl).length = l.length := by
  induction l generalizing nl with
  | nil => rfl
  | cons v l ih => cases nl <;> simp [noCnd, ih]
theorem forget_rel {s : St T} {a : Act} (nl : Nat) (inv : Rel tb w0 N0 s a w) : Rel tb w0 N0 (forget nl s) a w := by
  obtain ⟨N, h, inv⟩ := inv
  refine ⟨N, h, inv.mem, inv.dfr, by rw [inv.sz]; simp [forget, noCnd_length], by simpa [forget, noCnd_length] using inv.nn, fun t => ?_, fun x t wt e V hx => ?_⟩
  · unfold St.get forget
    simp only
    rcases noCnd_get s.sl nl t with h1 | h1
    · rw [h1]; exact .junk
    · rw [h1]; exact unG_none_rep (inv.slots t)
  · exfalso
    unfold St.get forget at hx
    simp only at hx
    rcases noCnd_get s.sl nl x with h1 | h1
    · rw [h1] at hx; cases hx
    · rw [h1] at hx; exact unG_none_not _ _ _ _ _ hx
def RowsOk (tb : Tab T) (p : Tpl) : Prop := ∀ k fz e, p.ob.getD k .dead = .row fz e → (∃ t, tb.elem t = some e) ∧ k < p.sl.length
theorem adopt_nil (w : World) {e : Nat} (he : ∃ ty, tb.elem ty = some e) (N : NS) (B : Nat) : Adopt tb w N B (.row false e ([] : List (T e))) (.slice none 0 0) :=
  ⟨rfl, rfl, fun h ob => ⟨he, ⟨[], World.ownsRow_nil w 0 e _, by simp [flat, FzL]⟩, fun hh => by cases hh⟩, fun g hg => by cases hg⟩
theorem nil_row (ok : TabOk P tb) {s : St T} {a : Act} {t key e : Nat} (inv : Rel tb w0 N0 s a w) (hn : s.get t = .nil) (he : ∃ ty, tb.elem ty = some e) (hk : key < s.ob.length) (hks : key < s.sl.length) :
    Rel tb w0 N0 ⟨s.sl.set t (newRow s.ob key e []).1, (newRow s.ob key e []).2, s.gs⟩ a w := by
  obtain ⟨N, h, inv⟩ := inv
  have hv := inv.slots t
  rw [hn] at hv
  have hv := hv.nil_inv
  have m' := inv.mem.adopt (d := key) hk (Nat.lt_of_lt_of_le hks inv.nn) (Nat.le_refl _) (adopt_nil w he N _) (fun k g _ _ _ hg => by cases hg)
  have ht := Turn.bump (h := h) hk (.row false e ([] : List (T e))) (.slice none 0 0)
  refine ⟨N, _, m', inv.dfr, by rw [inv.sz]; simp, by simpa using inv.nn, fun u => ?_, fun x u wt e' V hx => ?_⟩
  · rw [get_set s t u]
    by_cases hh : t = u ∧ t < s.sl.length
    · rw [if_pos hh]
      obtain ⟨rfl, _⟩ := hh
      rw [hv]
      exact .own (by simp [newRow, getO_set_same hk]) ⟨_, _, _, rfl⟩ (fun _ _ _ _ => by simp [upd])
    · rw [if_neg hh]
      exact (inv.slots u).mono (Kept.refl _ _) (fun _ _ x => x) ht
  · rw [get_set s t x] at hx
    split at hx
    · cases hx
    · obtain ⟨h1, h2⟩ := inv.cnds x u wt e' V hx
      refine ⟨h1, ?_⟩
      have hne : t ≠ u := fun hh => by
        subst hh
        unfold condE at h2
        rw [hn] at h2
        cases h2
      rw [← h2]
      unfold condE
      rw [get_set s t u, if_neg (fun hh => hne hh.1)]
theorem thaw_go (ok : TabOk P tb) (p : Tpl) (hp : RowsOk tb p) : ∀ (l : List SlT) (t : Nat) (s : St T) (a : Act), Rel tb w0 N0 s a w → p.ob.length = s.ob.length → p.sl.length = s.sl.length → Rel tb w0 N0 (thawNil.go p tb l t s) a w := by
  intro l
  induction l with
  | nil => intro t s a hs _ _; exact hs
  | cons c l ih =>
    intro t s a hs hl hl2
    cases c with
    | own key =>
      unfold thawNil.go
      split
      · rename_i e hn hr
        obtain ⟨he, hks⟩ := hp _ _ _ hr
        refine ih _ _ _ (nil_row ok hs hn he ?_ (by omega)) (by simp [newRow, hl]) (by simp [hl2])
        rcases Nat.lt_or_ge key p.ob.length with h' | h'
        · omega
        · rw [List.getD_eq_getElem?_getD, List.getElem?_eq_none h'] at hr
          cases hr
      · exact ih _ _ _ hs hl hl2
    | _ => unfold thawNil.go; exact ih _ _ _ hs hl hl2
theorem nil_cell (ok : TabOk P tb) {s : St T} {a : Act} {k ver j key e : Nat} {cs : List (Val T)} (inv : Rel tb w0 N0 s a w) (hb : getO s.ob k = ⟨ver, .box false cs⟩) (hn : cs[j]? = some .nil) (he : ∃ ty, tb.elem ty = some e) (hk : key < s.ob.length) (hks : key < s.sl.length) (hne : key ≠ k) :
    Rel tb w0 N0 ⟨s.sl, (newRow s.ob key e []).2.set k ⟨ver, .box false (cs.set j (newRow s.ob key e []).1)⟩, s.gs⟩ a w := by
  obtain ⟨N, h, inv⟩ := inv
  have m' := inv.mem.adopt (d := key) hk (Nat.lt_of_lt_of_le hks inv.nn) (Nat.le_refl _) (adopt_nil w he N _) (fun k g _ _ _ hg => by cases hg)
  have ht := Turn.bump (h := h) hk (.row false e ([] : List (T e))) (.slice none 0 0)
  have hkb : k < s.ob.length := getO_lt hb (fun hh => by cases hh)
  have hgk : getO (newRow s.ob key e ([] : List (T e))).2 k = ⟨ver, .box false cs⟩ := by simp only [newRow]; rw [getO_set_ne hne]; exact hb
  have hk' : k < (newRow s.ob key e ([] : List (T e))).2.length := by simpa [newRow] using hkb
  have hT : Turn (newRow s.ob key e ([] : List (T e))).2 ((newRow s.ob key e ([] : List (T e))).2.set k ⟨ver, .box false (cs.set j (newRow s.ob key e []).1)⟩) (upd h key (.slice none 0 0)) (upd h key (.slice none 0 0)) := Turn.set hgk trivial
  have m2 : Mem tb w0 w N0 N (upd h key (.slice none 0 0)) ((newRow s.ob key e ([] : List (T e))).2.set k ⟨ver, .box false (cs.set j (newRow s.ob key e []).1)⟩) := by
    have hmb : ∀ k', mutb (getO ((newRow s.ob key e ([] : List (T e))).2.set k ⟨ver, .box false (cs.set j (newRow s.ob key e []).1)⟩) k').body = mutb (getO (newRow s.ob key e ([] : List (T e))).2 k').body ∧
        lim tb (getO ((newRow s.ob key e ([] : List (T e))).2.set k ⟨ver, .box false (cs.set j (newRow s.ob key e []).1)⟩) k').body = lim tb (getO (newRow s.ob key e ([] : List (T e))).2 k').body ∧
        isRow (getO ((newRow s.ob key e ([] : List (T e))).2.set k ⟨ver, .box false (cs.set j (newRow s.ob key e []).1)⟩) k').body = isRow (getO (newRow s.ob key e ([] : List (T e))).2 k').body := fun k' => by
      by_cases hkk : k = k'
      · subst hkk; rw [getO_set_same hk', hgk]; exact ⟨rfl, rfl, rfl⟩
      · rw [getO_set_ne hkk]; exact ⟨rfl, rfl, rfl⟩
    refine ⟨m'.below, m'.nlt, m'.n0, m'.n1, fun k' => ?_, fun k' b hm hb' => ?_, fun k1 k2 b hne' hm1 hm2 h1 => m'.dist k1 k2 b hne' ((hmb k1).1.symm.trans hm1) ((hmb k2).1.symm.trans hm2) h1, fun k' hk2 => ?_, m'.glob⟩
    · by_cases hkk : k = k'
      · subst hkk
        rw [getO_set_same hk']
        have hbd := m'.objs k
        have hgk' : getO (s.ob.set key ⟨(getO s.ob key).ver + 1, .row false e ([] : List (T e))⟩) k = ⟨ver, .box false cs⟩ := hgk
        rw [hgk'] at hbd
        obtain ⟨b, e', cv, hh, hb', hsz, hc⟩ := hbd
        refine ⟨b, e', cv, hh, hb', by simpa using hsz, fun i V hV => ?_⟩
        rw [List.getElem?_set] at hV
        by_cases hij : j = i
        · subst hij
          have hjl : j < cs.length := (List.getElem?_eq_some_iff.1 hn).1
          rw [if_pos rfl, if_pos hjl] at hV
          cases hV
          have hv := (hc j .nil hn).nil_inv
          rw [hv]
          refine .own ?_ ⟨_, _, _, rfl⟩ (fun _ _ _ _ => by simp [upd])
          rw [getO_set_ne (fun hh => hne hh.symm)]
          simp [newRow, getO_set_same hk]
        · rw [if_neg hij] at hV
          exact (hc i V hV).mono (Kept.refl _ _) (fun _ _ x => x) hT
      · rw [getO_set_ne hkk]
        exact (m'.objs k').mono (Kept.refl _ _) (fun _ _ _ => rfl) (fun _ _ x => x) hT
    · rw [(hmb k').2.1]
      exact m'.live k' b ((hmb k').1.symm.trans hm) hb'
    · obtain ⟨q1, q2, q3⟩ := m'.ext k' hk2
      refine ⟨q1, ?_, by rw [(hmb k').2.2]; exact q3⟩
      by_cases hkk : k = k'
      · subst hkk
        have hgk' : getO (s.ob.set key ⟨(getO s.ob key).ver + 1, .row false e ([] : List (T e))⟩) k = ⟨ver, .box false cs⟩ := hgk
        rw [hgk'] at q2
        rw [getO_set_same hk']; exact q2
      · rw [getO_set_ne hkk]; exact q2
  refine ⟨N, _, m2, inv.dfr, inv.sz, inv.nn, fun u => ((inv.slots u).mono (Kept.refl _ _) (fun _ _ x => x) ht).mono (Kept.refl _ _) (fun _ _ x => x) hT, fun x u wt e' V hx => inv.cnds x u wt e' V hx⟩
theorem thawCells_ok (ok : TabOk P tb) (p : Tpl) (hp : RowsOk tb p) (k : Nat) : ∀ (l : List SlT) (j : Nat) (s : St T) (a : Act), Rel tb w0 N0 s a w → p.ob.length = s.ob.length → p.sl.length = s.sl.length → Rel tb w0 N0 (thawCells tb p k l j s) a w := by
  intro l
  induction l with
  | nil => intro j s a hs _ _; exact hs
  | cons c l ih =>
    intro j s a hs hl hl2
    cases c with
    | own key =>
      unfold thawCells
      split
      · rename_i ver cs hg
        split
        · rename_i e hn hr
          split
          · exact ih _ _ _ hs hl hl2
          · rename_i hne
            obtain ⟨he, hks⟩ := hp _ _ _ hr
            refine ih _ _ _ (nil_cell ok hs hg hn he ?_ (by omega) hne) (by simp [newRow, hl]) hl2
            rcases Nat.lt_or_ge key p.ob.length with h' | h'
            · omega
            · rw [List.getD_eq_getElem?_getD, List.getElem?_eq_none h'] at hr
              cases hr
        · exact ih _ _ _ hs hl hl2
      · exact ih _ _ _ hs hl hl2
    | _ => unfold thawCells; exact ih _ _ _ hs hl hl2
theorem thawCells_len (tb : Tab T) (p : Tpl) (k : Nat) : ∀ (l : List SlT) (j : Nat) (s : St T), (thawCells tb p k l j s).ob.length = s.ob.length ∧ (thawCells tb p k l j s).sl.length = s.sl.length := by
  intro l
  induction l with
  | nil => intro j s; exact ⟨rfl, rfl⟩
  | cons c l ih =>
    intro j s
    cases c with
    | own key =>
      unfold thawCells
      split
      · split
        · split
          · exact ih _ _
          · exact ⟨(ih _ _).1.trans (by simp [newRow]), (ih _ _).2⟩
        · exact ih _ _
      · exact ih _ _
    | _ => unfold thawCells; exact ih _ _
theorem thawOb_len (tb : Tab T) (p : Tpl) : ∀ (l : List ObT) (k : Nat) (s : St T), (thawOb tb p l k s).ob.length = s.ob.length ∧ (thawOb tb p l k s).sl.length = s.sl.length := by
  intro l
  induction l with
  | nil => intro k s; exact ⟨rfl, rfl⟩
  | cons o l ih =>
    intro k s
    cases o with
    | box fz cs =>
      cases fz with
      | false =>
        unfold thawOb
        exact ⟨(ih _ _).1.trans (thawCells_len tb p k cs 0 s).1, (ih _ _).2.trans (thawCells_len tb p k cs 0 s).2⟩
      | true => unfold thawOb; exact ih _ _
    | _ => unfold thawOb; exact ih _ _
theorem thawOb_ok (ok : TabOk P tb) (p : Tpl) (hp : RowsOk tb p) : ∀ (l : List ObT) (k : Nat) (s : St T) (a : Act), Rel tb w0 N0 s a w → p.ob.length = s.ob.length → p.sl.length = s.sl.length → Rel tb w0 N0 (thawOb tb p l k s) a w := by
  intro l
  induction l with
  | nil => intro k s a hs _ _; exact hs
  | cons o l ih =>
    intro k s a hs hl hl2
    cases o with
    | box fz cs =>
      cases fz with
      | false => unfold thawOb; exact ih _ _ _ (thawCells_ok ok p hp k cs 0 s a hs hl hl2) (by rw [(thawCells_len tb p k cs 0 s).1]; exact hl) (by rw [(thawCells_len tb p k cs 0 s).2]; exact hl2)
      | true => unfold thawOb; exact ih _ _ _ hs hl hl2
    | _ => unfold thawOb; exact ih _ _ _ hs hl hl2
theorem thaw_len (tb : Tab T) (p : Tpl) : ∀ (l : List SlT) (t : Nat) (s : St T), (thawNil.go p tb l t s).ob.length = s.ob.length ∧ (thawNil.go p tb l t s).sl.length = s.sl.length := by
  intro l
  induction l with
  | nil => intro t s; exact ⟨rfl, rfl⟩
  | cons c l ih =>
    intro t s
    cases c with
    | own key =>
      unfold thawNil.go
      split
      · exact ⟨(ih _ _).1.trans (by simp [newRow]), (ih _ _).2.trans (by simp)⟩
      · exact ih _ _
    | _ => unfold thawNil.go; exact ih _ _
theorem frz1_len {ob ob' : List (Obj' T)} {V v : Val T} (hf : frz1 ob V = some (v, ob')) : ob'.length = ob.length := by
  have := frz1_loc (F := V.refs) (ob1 := ob) (ob2 := ob) ⟨rfl, fun _ _ => rfl⟩ (V := V) (fun _ x => x)
  rw [hf] at this
  exact this.2.2.2.2.1
theorem flush1_ok (ok : TabOk P tb) (t : Nat) (s : St T) (a : Act) (hs : Rel tb w0 N0 s a w) : Rel tb w0 N0 (flush1 tb t s) a w := by
  unfold flush1
  split
  · rename_i k ver k0 v0 hg
    split
    · rename_i ver' e xs k1 v1 hk
      split
      · rename_i hc
        obtain ⟨rfl, rfl, rfl, hne⟩ := hc
        split
        · rename_i v ob1 hf
          split
          · rename_i y hy
            obtain ⟨N, h, inv⟩ := hs
            have hr := inv.slots t
            rw [hg] at hr
            have hve := hr.ownx_eq hk
            obtain ⟨⟨ty, hty⟩, hs1, cvs, hv0, ho, hfl, hr0⟩ := inv.mem.body hk
            obtain ⟨N1, m1, z1, t1, n1, l1⟩ := frz1_sound ok inv.mem hr0 hf
            have hl := (ok.elem ty e hty).2.2.2.2.1 y
            have hsim := ok.unc _ _ _ hy
            have hk1 : getO ob1 k = ⟨ver', .rowx e xs k1 v1⟩ := by
              simp only [frz1] at hf
              cases hk0 : getO s.ob k1 with
              | mk v2 bd =>
                rw [hk0] at hf
                cases bd with
                | row fz e2 ys =>
                  simp only at hf
                  split at hf
                  · simp only [Option.some.injEq, Prod.mk.injEq] at hf
                    obtain ⟨_, rfl⟩ := hf
                    rw [getO_set_ne (fun hh => hne hh.symm)]
                    exact hk
                  · cases hf
                | _ => simp at hf
            have hklt : k < ob1.length := getO_lt hk1 (by simp)
            have hkn : k < w0.n := by
              rcases Nat.lt_or_ge k w0.n with h' | h'
              · exact h'
              · have := (m1.ext k h').2.2
                rw [hk1] at this; cases this
            have had : Adopt tb w N1 w0.w.heap.size (.row false e (xs ++ [y])) (h k) := by
              refine ⟨rfl, rfl, fun h' ob' => ⟨⟨ty, hty⟩, ⟨cvs ++ [hv0], by rw [hs1, List.length_append, List.length_singleton]; exact ho, ?_⟩, fun hh => by cases hh⟩, fun g hgg => ?_⟩
              · rw [flat_append]
                refine (hfl.mono (Kept.refl _ _) n1).append ⟨?_, fun j V v' hV hv' => ?_⟩
                · simp only [flat, List.flatMap_cons, List.flatMap_nil, List.append_nil, hl, hs1, List.length_singleton]
                · simp only [flat, List.flatMap_cons, List.flatMap_nil, List.append_nil] at hV
                  cases j with
                  | zero =>
                    simp only [List.getElem?_cons_zero, Option.some.injEq] at hv'
                    subst hv'
                    exact z1.sim (hsim.2 0 V _ hV rfl)
                  | succ j => simp at hv'
              · have := m1.live k g (by rw [hk1]; rfl) hgg
                rw [hk1] at this
                obtain ⟨q1, q2, q3⟩ := this
                refine ⟨?_, fun o => q2 o (Nat.zero_le _), q3⟩
                rcases q1 with q1 | ⟨_, q1⟩
                · exact q1
                · omega
            have m2 := m1.adopt hklt hkn (Nat.le_refl _) had (fun k' g hne' hm' hg' => fun hh => m1.dist k k' g hne' (by rw [hk1]; rfl) hm' hh hg')
            have t2 := Turn.bump (h := h) hklt (.row false e (xs ++ [y])) (h k)
            have hver : (getO ob1 k).ver = ver' := by rw [hk1]
            rw [hver] at m2 t2
            refine ⟨N1, upd h k (h k), m2, inv.dfr, by rw [inv.sz]; simp, by simpa using inv.nn, fun u => ?_, fun x u wt e' V hx => ?_⟩
            · rw [get_set s t u]
              by_cases hh : t = u ∧ t < s.sl.length
              · rw [if_pos hh]; obtain ⟨rfl, _⟩ := hh
                refine .own (by rw [getO_set_same hklt]; exact Nat.le_refl _) (by cases hr with | fz hz => cases hz | ownx _ h0 _ => exact h0) (fun fz e' xs' hk' => by rw [hve]; simp [upd])
              · rw [if_neg hh]; exact ((inv.slots u).mono (Kept.refl _ _) n1 t1).mono (Kept.refl _ _) (fun _ _ x => x) t2
            · rw [get_set s t x] at hx
              split at hx
              · cases hx
              · obtain ⟨h1, h2⟩ := inv.cnds x u wt e' V hx
                refine ⟨h1, ?_⟩
                have hne : t ≠ u := fun hh => by
                  subst hh
                  unfold condE at h2
                  rw [hg] at h2
                  cases h2
                rw [← h2]
                unfold condE
                rw [get_set s t u, if_neg (fun hh => hne hh.1)]
          · exact hs
        · exact hs
      · exact hs
    · exact hs
  · exact hs
theorem flush_ok (ok : TabOk P tb) (os : List ObT) : ∀ (l : List SlT) (t : Nat) (s : St T) (a : Act), Rel tb w0 N0 s a w → Rel tb w0 N0 (flushSl tb os l t s) a w := by
  intro l
  induction l with
  | nil => intro t s a hs; exact hs
  | cons c l ih =>
    intro t s a hs
    cases c with
    | own key =>
      unfold flushSl
      split
      · exact ih _ _ _ (flush1_ok ok t s a hs)
      · exact ih _ _ _ hs
    | _ => unfold flushSl; exact ih _ _ _ hs
theorem fit_ok (ok : TabOk P tb) (os : List ObT) : ∀ (l : List SlT) (t : Nat) (s : St T) (a : Act), Rel tb w0 N0 s a w → Rel tb w0 N0 (fitSl os l t s) a w := by
  have one : ∀ (t k ver : Nat) (s : St T) (a : Act) (v : Val T) (ob' : List (Obj' T)), Rel tb w0 N0 s a w → s.get t = .own k ver → frz1 s.ob (.own k ver) = some (v, ob') → Rel tb w0 N0 ⟨s.sl.set t v, ob', s.gs⟩ a w := by
    intro t k ver s a v ob' hs hg hf
    obtain ⟨N, h, inv⟩ := hs
    have hr := inv.slots t
    rw [hg] at hr
    obtain ⟨N1, m1, z1, t1, n1, l1⟩ := frz1_sound ok inv.mem hr hf
    have hvc : ∀ t' w' e V, v ≠ .cnd t' w' e V := fun t' w' e V hh => by subst hh; cases z1
    refine ⟨N1, h, m1, inv.dfr, by rw [inv.sz]; simp, by simpa using inv.nn, fun u => ?_, fun x u wt e' V hx => ?_⟩
    · rw [get_set s t u]
      by_cases hh : t = u ∧ t < s.sl.length
      · rw [if_pos hh]; obtain ⟨rfl, _⟩ := hh; exact .fz z1
      · rw [if_neg hh]; exact (inv.slots u).mono (Kept.refl _ _) n1 t1
    · rw [get_set s t x] at hx
      split at hx
      · exact absurd hx (hvc _ _ _ _)
      · obtain ⟨h1, h2⟩ := inv.cnds x u wt e' V hx
        refine ⟨h1, ?_⟩
        have hne : t ≠ u := fun hh => by
          subst hh
          unfold condE at h2
          rw [hg] at h2
          cases h2
        rw [← h2]
        unfold condE
        rw [get_set s t u, if_neg (fun hh => hne hh.1)]
  have two : ∀ (t k ver : Nat) (s : St T) (a : Act) (v : Val T) (ob' : List (Obj' T)), Rel tb w0 N0 s a w → s.get t = .own k ver → frz1 s.ob (.own k ver) = some (v, ob') → Rel tb w0 N0 ⟨s.sl, ob', s.gs⟩ a w := by
    intro t k ver s a v ob' hs hg hf
    obtain ⟨N, h, inv⟩ := hs
    have hr := inv.slots t
    rw [hg] at hr
    obtain ⟨N1, m1, z1, t1, n1, l1⟩ := frz1_sound ok inv.mem hr hf
    exact ⟨N1, h, m1, inv.dfr, inv.sz, inv.nn, fun u => (inv.slots u).mono (Kept.refl _ _) n1 t1, inv.cnds⟩
  intro l
  induction l with
  | nil => intro t s a hs; exact hs
  | cons c l ih =>
    intro t s a hs
    cases c with
    | var k =>
      cases k with
      | lst e =>
        unfold fitSl
        split
        · rename_i k ver hg
          split
          · rename_i v ob' hf; exact ih _ _ _ (one t k ver s a v ob' hs hg hf)
          · exact ih _ _ _ hs
        · exact ih _ _ _ hs
      | _ => unfold fitSl; exact ih _ _ _ hs
    | own key =>
      unfold fitSl
      split
      · rename_i k ver e hg _
        split
        · rename_i v ob' hf; exact ih _ _ _ (two t k ver s a v ob' hs hg hf)
        · exact ih _ _ _ hs
      · exact ih _ _ _ hs
    | _ => unfold fitSl; exact ih _ _ _ hs
theorem flush1_len (t : Nat) (s : St T) : (flush1 tb t s).ob.length = s.ob.length ∧ (flush1 tb t s).sl.length = s.sl.length := by
  unfold flush1
  repeat' split
  all_goals first | exact ⟨rfl, rfl⟩ | (rename_i hf _ _ _; exact ⟨by simp [frz1_len hf], by simp⟩)
theorem flush_len (os : List ObT) : ∀ (l : List SlT) (t : Nat) (s : St T), (flushSl tb os l t s).ob.length = s.ob.length ∧ (flushSl tb os l t s).sl.length = s.sl.length := by
  intro l
  induction l with
  | nil => intro t s; exact ⟨rfl, rfl⟩
  | cons c l ih =>
    intro t s
    cases c with
    | own key =>
      unfold flushSl
      split
      · exact ⟨(ih _ _).1.trans (flush1_len t s).1, (ih _ _).2.trans (flush1_len t s).2⟩
      · exact ih _ _
    | _ => unfold flushSl; exact ih _ _
theorem fit_len (os : List ObT) : ∀ (l : List SlT) (t : Nat) (s : St T), (fitSl os l t s).ob.length = s.ob.length ∧ (fitSl os l t s).sl.length = s.sl.length := by
  intro l
  induction l with
  | nil => intro t s; exact ⟨rfl, rfl⟩
  | cons c l ih =>
    intro t s
    cases c with
    | var k =>
      cases k with
      | lst e =>
        unfold fitSl
        split
        · split
          · rename_i v ob' hf; exact ⟨(ih _ _).1.trans (frz1_len hf), (ih _ _).2.trans (by simp)⟩
          · exact ih _ _
        · exact ih _ _
      | _ => unfold fitSl; exact ih _ _
    | own key =>
      unfold fitSl
      split
      · split
        · rename_i v ob' hf; exact ⟨(ih _ _).1.trans (frz1_len hf), (ih _ _).2⟩
        · exact ih _ _
      · exact ih _ _
    | _ => unfold fitSl; exact ih _ _
theorem Tpl.get_len {p : Tpl} {s : St T} {x : p.ty T} (hg : p.get tb s = some x) : p.ob.length = s.ob.length ∧ p.sl.length = s.sl.length := by
  unfold Tpl.get at hg
  split at hg
  · split at hg
    · exact ⟨by assumption, by assumption⟩
    · cases hg
  · cases hg
theorem frz1_box {ob ob' : List (Obj' T)} {V V' : Val T} {k ver : Nat} {fz : Bool} {cs : List (Val T)} (hf : frz1 ob V = some (V', ob')) (hk : getO ob k = ⟨ver, .box fz cs⟩) : getO ob' k = ⟨ver, .box fz cs⟩ := by
  cases V with
  | own k' ver' =>
    simp only [frz1] at hf
    split at hf
    · rename_i v' fz' e xs hg
      split at hf
      · cases hf
        refine (getO_set_ne fun hh => ?_).trans hk
        subst hh
        rw [hk] at hg
        cases hg
      · cases hf
    · cases hf
  | ptr k' ver' off =>
    simp only [frz1] at hf
    revert hf
    repeat' split
    all_goals (intro hf; cases hf; try exact hk)
  | _ => simp only [frz1] at hf; revert hf; (repeat' split) <;> (intro hf; cases hf; try exact hk)
theorem frzL_box : ∀ {cs0 cs1 : List (Val T)} {ob ob' : List (Obj' T)} {k ver : Nat} {fz : Bool} {cs : List (Val T)}, frzL cs0 ob = some (cs1, ob') → getO ob k = ⟨ver, .box fz cs⟩ → getO ob' k = ⟨ver, .box fz cs⟩ := by
  intro cs0
  induction cs0 with
  | nil => intro cs1 ob ob' k ver fz cs h hk; cases h; exact hk
  | cons v r ih =>
    intro cs1 ob ob' k ver fz cs h hk
    unfold frzL at h
    split at h
    · cases h
    · rename_i v' ob1 h1
      split at h
      · cases h
      · rename_i r' ob2 h2
        cases h
        exact ih h2 (frz1_box h1 hk)
theorem coolBox_ok (ok : TabOk P tb) {s : St T} {a : Act} (k : Nat) (inv : Rel tb w0 N0 s a w) : Rel tb w0 N0 (coolBox k s) a w := by
  have inv0 := inv
  obtain ⟨N, h, inv⟩ := inv
  unfold coolBox
  split
  · rename_i ver cs hb
    split
    · rename_i cs' ob' hf
      have hbd := inv.mem.objs k
      rw [hb] at hbd
      obtain ⟨b, e', cv, hh, hb', hsz, hc⟩ := hbd
      obtain ⟨N1, m1, z1, t1, n1, l1⟩ := frzL_sound ok cs (vs := cv.toList) inv.mem (by simpa using hsz) (fun j V v hV hv => by
        have := hc j V hV
        rw [Array.getD_eq_getD_getElem?] at this
        rw [Array.getElem?_toList] at hv
        rw [hv] at this
        exact this) hf
      have hk := frzL_box hf hb
      have hkl : k < ob'.length := getO_lt hk (fun hh => by cases hh)
      have hT : Turn ob' (ob'.set k ⟨ver, .box false cs'⟩) h h := Turn.set hk trivial
      have hmb : ∀ k', mutb (getO (ob'.set k ⟨ver, .box false cs'⟩) k').body = mutb (getO ob' k').body ∧
          lim tb (getO (ob'.set k ⟨ver, .box false cs'⟩) k').body = lim tb (getO ob' k').body ∧
          isRow (getO (ob'.set k ⟨ver, .box false cs'⟩) k').body = isRow (getO ob' k').body := fun k' => by
        by_cases hkk : k = k'
        · subst hkk; rw [getO_set_same hkl, hk]; exact ⟨rfl, rfl, rfl⟩
        · rw [getO_set_ne hkk]; exact ⟨rfl, rfl, rfl⟩
      have m2 : Mem tb w0 w N0 N1 h (ob'.set k ⟨ver, .box false cs'⟩) := by
        refine ⟨m1.below, m1.nlt, m1.n0, m1.n1, fun k' => ?_, fun k' b hm hb' => ?_, fun k1 k2 b hne' hm1 hm2 h1 => m1.dist k1 k2 b hne' ((hmb k1).1.symm.trans hm1) ((hmb k2).1.symm.trans hm2) h1, fun k' hk2 => ?_, m1.glob⟩
        · by_cases hkk : k = k'
          · subst hkk
            rw [getO_set_same hkl]
            refine ⟨b, e', cv, hh, hb', by have := z1.1; simpa using this, fun j V hV => ?_⟩
            have hjl : j < cv.size := by
              have h1 := (List.getElem?_eq_some_iff.1 hV).1
              have h2 := z1.1
              simp at h2
              omega
            refine .fz (z1.2 j V _ hV ?_)
            rw [Array.getElem?_toList, Array.getD_eq_getD_getElem?, Array.getElem?_eq_getElem hjl]
            rfl
          · rw [getO_set_ne hkk]
            exact (m1.objs k').mono (Kept.refl _ _) (fun _ _ _ => rfl) (fun _ _ x => x) hT
        · rw [(hmb k').2.1]
          exact m1.live k' b ((hmb k').1.symm.trans hm) hb'
        · obtain ⟨q1, q2, q3⟩ := m1.ext k' hk2
          refine ⟨q1, ?_, by rw [(hmb k').2.2]; exact q3⟩
          by_cases hkk : k = k'
          · subst hkk
            rw [hk] at q2
            rw [getO_set_same hkl]; exact q2
          · rw [getO_set_ne hkk]; exact q2
      exact ⟨N1, h, m2, inv.dfr, inv.sz, inv.nn, fun u => ((inv.slots u).mono (Kept.refl _ _) n1 t1).mono (Kept.refl _ _) (fun _ _ x => x) hT, fun x u wt e' V hx => inv.cnds x u wt e' V hx⟩
    · exact inv0
  · exact inv0
theorem cool_ok (ok : TabOk P tb) : ∀ (n : Nat) {s : St T} {a : Act}, Rel tb w0 N0 s a w → Rel tb w0 N0 (cool n s) a w := by
  intro n
  induction n with
  | zero => intro s a h; exact h
  | succ n ih => intro s a h; exact ih (coolBox_ok ok n h)
theorem prep_rel (ok : TabOk P tb) {s : St T} {a : Act} (fi : Fi) (id : Nat) (inv : Rel tb w0 N0 s a w) : Rel tb w0 N0 (prep fi id s) a w := by
  unfold prep
  split
  · exact cool_ok ok _ (forget_rel fi.nl inv)
  · exact forget_rel fi.nl inv
def LpOk (lp : (V R : Type) → (V → Option (Step V R)) → V → Option (Out V R)) : Prop := ∀ V R body v r, lp V R body v = some r → ∃ n, loopM n body v = some r
theorem evOps_sound {R : Type} (ok : TabOk P tb) {E : Env T tb} (hC : SoundC P tb E.C) (ops : Array Oper) (Q : Exit → Act → World → Prop) : ∀ (l : List Oper) (s : St T) (a : Act) (w : World) (k : St T → Option R) (r : R),
    Rel tb w0 N0 s a w → evOps E ops l s k = some r → (∀ s' a' w', Rel tb w0 N0 s' a' w' → k s' = some r → Q .normal a' w') → wpList P ops Q l a w := by
  intro l
  induction l with
  | nil => intro s a w k r hs he hq; exact wpList_nil (hq _ _ _ hs he)
  | cons o l ih =>
    intro s a w k r hs he hq
    unfold evOps at he
    rw [SR.cps_run] at he
    cases hst : (step tb ops o s).run E.C with
    | none => rw [hst] at he; cases he
    | some s1 =>
      rw [hst] at he
      simp only [Option.bind_some] at he
      exact wpList_step fun K hK => step_sound ok hC hs ops o hst Q K fun a1 w1 h1 => hK _ _ (ih s1 a1 w1 k r h1 he hq)
def Ex.to : Ex → Exit
  | .normal => .normal
  | .exit i => .exit i
  | .ret => .ret
def FiOk (tb : Tab T) (fi : Fi) : Prop := ∀ p tp, lookT fi.tpl p = some tp → RowsOk tb tp
theorem noCnd_lt (l : List (Val T)) (nl t : Nat) (h : t < nl) : (noCnd l nl).getD t .junk = unG none (l.getD t .junk) := by
  induction l generalizing nl t with
  | nil => simp [noCnd, unG]
  | cons v l ih =>
    cases nl with
    | zero => omega
    | succ nl =>
      cases t with
      | zero => simp [noCnd]
      | succ t => simpa [noCnd] using ih nl t (by omega)
theorem noCnd_ge (l : List (Val T)) (nl t : Nat) (h : nl ≤ t) : (noCnd l nl).getD t .junk = .junk := by
  induction l generalizing nl t with
  | nil => simp [noCnd]
  | cons v l ih =>
    cases nl with
    | zero =>
      cases t with
      | zero => simp [noCnd]
      | succ t => simpa [noCnd] using ih 0 t (by omega)
    | succ nl =>
      cases t with
      | zero => omega
      | succ t => simpa [noCnd] using ih nl t (by omega)
theorem unG_none_idem (v : Val T) : unG none (unG none v) = unG none v := by cases v <;> rfl
theorem Rel.weak {s s' : St T} {a : Act} (inv : Rel tb w0 N0 s a w) (ho : s'.ob = s.ob) (hl : s'.sl.length = s.sl.length) (hg : ∀ j, s'.get j = .junk ∨ s'.get j = unG none (s.get j)) : Rel tb w0 N0 s' a w := by
  obtain ⟨N, h, inv⟩ := inv
  refine ⟨N, h, by rw [ho]; exact inv.mem, inv.dfr, by rw [inv.sz, hl], by rw [hl]; exact inv.nn, fun t => ?_, fun x t wt e V hx => ?_⟩
  · rw [ho]
    rcases hg t with h1 | h1
    · rw [h1]; exact .junk
    · rw [h1]; exact unG_none_rep (inv.slots t)
  · exfalso
    rcases hg x with h1 | h1
    · rw [h1] at hx; cases hx
    · rw [h1] at hx; exact unG_none_not _ _ _ _ _ hx
theorem forget_get (nl : Nat) (s : St T) (j : Nat) : (forget nl s).get j = if j < nl then unG none (s.get j) else .junk := by
  unfold forget St.get
  simp only
  split
  · rename_i h; exact noCnd_lt _ _ _ h
  · rename_i h; exact noCnd_ge _ _ _ (by omega)
theorem setB_get (nl t : Nat) (s : St T) (g : Bool) (j : Nat) : (setB nl t s g).get j = if t = j ∧ t < s.sl.length then .bool g else (forget nl s).get j := by
  have := get_set (forget nl s) t j (V := Val.bool g) (ob := s.ob) (gs := [])
  have hl : (forget nl s).sl.length = s.sl.length := by simp [forget, noCnd_length]
  rw [hl] at this
  exact this
theorem setB_len (nl t : Nat) (s : St T) (g : Bool) : (setB nl t s g).sl.length = s.sl.length := by simp [setB, noCnd_length]
theorem boolAt_get {s : St T} {t : Nat} {g : Bool} (h : boolAt s t = some g) : s.get t = .bool g := by
  unfold boolAt at h
  split at h
  · rename_i b hb; cases h; exact hb
  · cases h
theorem setB_rel {s : St T} {a : Act} {nl t : Nat} {g : Bool} (inv : Rel tb w0 N0 s a w) (hb : s.get t = .bool g) : Rel tb w0 N0 (setB nl t s g) a w := by
  refine inv.weak rfl (setB_len _ _ _ _) fun j => ?_
  rw [setB_get, forget_get]
  split
  · rename_i h; obtain ⟨rfl, _⟩ := h; rw [hb]; exact .inr rfl
  · split
    · exact .inr rfl
    · exact .inl rfl
theorem setB_again {s : St T} {a : Act} {nl t : Nat} {g g' : Bool} (inv : Rel tb w0 N0 (setB nl t (setB nl t s g) g') a w) : Rel tb w0 N0 (setB nl t s g') a w := by
  refine inv.weak rfl (by simp [setB_len]) fun j => ?_
  rw [setB_get, forget_get, setB_get, forget_get, setB_len]
  by_cases h : t = j ∧ t < s.sl.length
  · rw [if_pos h, if_pos h]; exact .inr rfl
  · rw [if_neg h, if_neg h]
    by_cases hj : j < nl
    · rw [if_pos hj, if_pos hj, setB_get, if_neg h, forget_get, if_pos hj, unG_none_idem, unG_none_idem]; exact .inr rfl
    · rw [if_neg hj]; exact .inl rfl
theorem step_frame {ops : Array Oper} {o : Oper} {nl t : Nat} {s s1 : St T} (hj : jnOp tb nl t o = true) (hs : step tb ops o s = .ok true s1) : s1.ob = s.ob ∧ s1.sl.length = s.sl.length ∧ ∀ j, j < nl → j ≠ t → s1.get j = s.get j := by
  unfold jnOp at hj
  split at hj
  · rename_i d hg hd
    simp only [Bool.and_eq_true, Bool.or_eq_true, Nat.ble_eq, Nat.beq_eq_true_eq] at hj
    obtain ⟨hdt, hop⟩ := hj
    unfold step at hs
    split at hs
    · cases hs
    · split at hs
      · cases hs
      · have hgf : guardOf ops s o = .free := by unfold guardOf; rw [hg]
        rw [hgf] at hs
        simp only at hs
        split at hs
        · cases hs
        · rename_i c v ob' he
          simp only [SR.ok.injEq] at hs
          obtain ⟨rfl, rfl⟩ := hs
          have hob : ob' = s.ob := by
            revert hop
            cases ho : o.op with
            | assign x =>
              intro hop
              simp only at hop
              rw [ho] at he
              simp only [evOp] at he
              revert he
              split
              · cases hel : tb.elem o.type with
                | none => intro he; simp only [OpR.ok.injEq] at he; exact he.2.2.symm
                | some e => rw [hel] at hop; cases hop
              · intro he; simp only [OpR.ok.injEq] at he; exact he.2.2.symm
            | move x => intro _; exact quiet_ob (by rw [ho]; rfl) he
            | binOp => intro _; exact quiet_ob (by rw [ho]; rfl) he
            | load => intro _; exact quiet_ob (by rw [ho]; rfl) he
            | fieldAddr => intro _; exact quiet_ob (by rw [ho]; rfl) he
            | field => intro _; exact quiet_ob (by rw [ho]; rfl) he
            | unOp => intro _; exact quiet_ob (by rw [ho]; rfl) he
            | build => intro _; exact quiet_ob (by rw [ho]; rfl) he
            | _ => intro hop; cases hop
          subst hob
          rw [hd]
          refine ⟨rfl, by simp [setSl], fun j hj hjt => ?_⟩
          simp only [setSl]
          rw [get_set s d j, if_neg (fun hh => by
            rcases hdt with h1 | h1
            · omega
            · have := Nat.eq_of_beq_eq_true h1; omega)]
        · split at hs <;> cases hs
  · cases hj
theorem runQ_frame {ops : Array Oper} {nl t : Nat} : ∀ (l : List Oper) (s s1 : St T), jnOps tb nl t l = true → runQ tb ops l s = some s1 → s1.ob = s.ob ∧ s1.sl.length = s.sl.length ∧ ∀ j, j < nl → j ≠ t → s1.get j = s.get j := by
  intro l
  induction l with
  | nil => intro s s1 _ h; cases h; exact ⟨rfl, rfl, fun _ _ _ => rfl⟩
  | cons o l ih =>
    intro s s1 hj h
    simp only [jnOps, Bool.and_eq_true] at hj
    unfold runQ at h
    split at h
    · rename_i s' hs
      obtain ⟨a1, a2, a3⟩ := step_frame hj.1 hs
      obtain ⟨b1, b2, b3⟩ := ih _ _ hj.2 h
      exact ⟨b1.trans a1, b2.trans a2, fun j h1 h2 => (b3 j h1 h2).trans (a3 j h1 h2)⟩
    · cases h
theorem runQ_ev {R : Type} (E : Env T tb) {ops : Array Oper} (k : St T → Option R) : ∀ (l : List Oper) (s s1 : St T), runQ tb ops l s = some s1 → evOps E ops l s k = k s1 := by
  intro l
  induction l with
  | nil => intro s s1 h; cases h; rfl
  | cons o l ih =>
    intro s s1 h
    unfold runQ at h
    split at h
    · rename_i s' hs
      unfold evOps
      rw [hs]
      exact ih _ _ h
    · cases h
theorem chain_sound (ok : TabOk P tb) {nl t : Nat} : ∀ (c : Code) (s : St T) (a : Act) (w : World) (g : Bool) (Q : Exit → Act → World → Prop), jnC tb nl t c = true → Rel tb w0 N0 s a w → chainV tb nl t c s = some g →
    (∀ a' w', Rel tb w0 N0 (setB nl t s g) a' w' → Q .normal a' w') → c.wp P Q a w := by
  intro c
  induction c with
  | skip =>
    intro s a w g Q _ hs he hq
    exact wp_skip (hq _ _ (setB_rel hs (boolAt_get he)))
  | region id ops draw =>
    intro s a w g Q hj hs he hq
    cases draw with
    | true => cases hj
    | false =>
      unfold chainV at he
      split at he
      · rename_i s1 hr
        have hev := runQ_ev (tb := tb) (R := St T) ⟨fun _ _ => none, fun _ _ _ _ => none⟩ some _ _ _ hr
        refine wp_region_list (evOps_sound ok (E := ⟨fun _ _ => none, fun _ _ _ _ => none⟩) (fun f args r h => by cases h) ops Q _ _ _ _ _ s1 (forget_rel nl hs) hev fun s' a' w' h1 h2 => ?_)
        cases h2
        obtain ⟨f1, f2, f3⟩ := runQ_frame _ _ _ hj hr
        refine hq _ _ (h1.weak (by rw [f1]; rfl) (by rw [f2, setB_len]; simp [forget, noCnd_length]) fun j => ?_)
        rw [setB_get]
        split
        · rename_i h; obtain ⟨rfl, _⟩ := h; rw [boolAt_get he]; exact .inr rfl
        · rename_i hne
          by_cases hjn : j < nl
          · by_cases hjt : j = t
            · subst hjt
              left
              have hlen : ¬ j < s.sl.length := fun hh => hne ⟨rfl, hh⟩
              rw [forget_get, if_pos hjn]
              unfold St.get
              rw [List.getD_eq_getElem?_getD, List.getElem?_eq_none (by omega)]
              rfl
            · right
              rw [f3 j hjn hjt, forget_get, if_pos hjn, unG_none_idem]
          · rw [forget_get, if_neg hjn]; exact .inl rfl
      · cases he
  | seq x y ihx ihy =>
    intro s a w g Q hj hs he hq
    simp only [jnC, Bool.and_eq_true] at hj
    unfold chainV at he
    split at he
    · rename_i g1 h1
      exact wp_seq (ihx _ _ _ _ _ hj.1 hs h1 fun a' w' h2 => ihy _ _ _ _ _ hj.2 h2 he fun a' w' h3 => hq _ _ (setB_again h3))
    · cases he
  | cond c x y ihx ihy =>
    intro s a w g Q hj hs he hq
    cases c with
    | tmp u =>
      simp only [jnC, Bool.and_eq_true, Nat.beq_eq_true_eq] at hj
      obtain ⟨hut, hj1, hj2⟩ := hj
      have hut := Nat.eq_of_beq_eq_true hut
      subst hut
      unfold chainV at he
      split at he
      · rename_i b hb
        have hb := boolAt_get hb
        have hev : a.eval (.tmp u) = .bool b := by
          obtain ⟨N, h, inv⟩ := hs
          have := opv_rep (tb := tb) (N := N) (h := h) trivial inv.slots (.tmp u)
          rw [show opv s (.tmp u) = s.get u from rfl, hb] at this
          exact this.bool_inv
        split at he
        · rename_i p q hp hq'
          cases he
          refine wp_cond hev ?_
          cases b with
          | true => exact ihx _ _ _ _ _ hj1 (setB_rel hs hb) hp fun a' w' h3 => hq _ _ (setB_again h3)
          | false => exact ihy _ _ _ _ _ hj2 (setB_rel hs hb) hq' fun a' w' h3 => hq _ _ (setB_again h3)
        · cases he
      · cases he
    | _ => cases hj
  | _ => intro s a w g Q hj hs he hq; cases hj
theorem ev_sound (hm : P.follows .mixedOrders = true) (ok : TabOk P tb) {E : Env T tb} (hC : SoundC P tb E.C) (hL : LpOk E.lp) {fi : Fi} (hfi : FiOk tb fi) : ∀ (c : Code) {R : Type} (p : Nat) (s : St T) (a : Act) (w : World) (k : Ex → St T → Option R) (r : R) (Q : Exit → Act → World → Prop),
    Rel tb w0 N0 s a w → ev E fi c p s k = some r → (∀ e s' a' w', Rel tb w0 N0 s' a' w' → k e s' = some r → Q e.to a' w') → c.wp P Q a w := by
  intro c
  induction c with
  | skip => intro R p s a w k r Q hs he hq; exact wp_skip (hq .normal _ _ _ hs he)
  | region id ops draw =>
    intro R p s a w k r Q hs he hq
    unfold ev at he
    cases draw with
    | true => exact evD_sound hm ok hC id ops (prep_rel ok fi id hs) he fun s' a' w' h1 h2 => hq .normal _ _ _ h1 h2
    | false => exact wp_region_list (evOps_sound ok hC ops Q _ _ _ _ _ r (prep_rel ok fi id hs) he fun s' a' w' h1 h2 => hq .normal _ _ _ h1 h2)
  | seq x y ihx ihy =>
    intro R p s a w k r Q hs he hq
    unfold ev at he
    refine wp_seq (ihx _ _ _ _ _ r _ hs he fun e s' a' w' h1 h2 => ?_)
    cases e with
    | normal => exact ihy _ _ _ _ _ r _ h1 h2 hq
    | exit i => exact hq (.exit i) _ _ _ h1 h2
    | ret => exact hq .ret _ _ _ h1 h2
  | cond c x y ihx ihy =>
    intro R p s a w k r Q hs he hq
    unfold ev at he
    cases hjn : jn tb fi.nl c x y with
    | some t =>
     rw [hjn] at he
     simp only at he
     split at he
     · rename_i g hg
       cases c with
       | tmp u =>
         simp only [jn] at hjn
         split at hjn
         · rename_i hjc
           simp only [Option.some.injEq] at hjn
           subst hjn
           simp only [Bool.and_eq_true] at hjc
           exact chain_sound ok (nl := fi.nl) (t := u) (.cond (.tmp u) x y) s a w g Q (by simp only [jnC, hjc.1, hjc.2, Bool.and_true, Nat.beq_refl]) hs hg fun a' w' h1 => hq .normal _ _ _ h1 he
         · cases hjn
       | _ => simp [jn] at hjn
     · cases he
    | none =>
    rw [hjn] at he
    simp only at he
    cases hc : opv s c with
    | bool t =>
      rw [hc] at he
      have hev : a.eval c = .bool t := by
        obtain ⟨N, h, inv⟩ := hs
        have := opv_rep (tb := tb) (N := N) (h := h) trivial inv.slots c
        rw [hc] at this
        exact this.bool_inv
      refine wp_cond hev ?_
      cases t with
      | true => exact ihx _ _ _ _ _ r _ hs he hq
      | false => exact ihy _ _ _ _ _ r _ hs he hq
    | _ => rw [hc] at he; cases he
  | block id c ih =>
    intro R p s a w k r Q hs he hq
    unfold ev at he
    refine wp_block (ih _ _ _ _ _ r _ hs he fun e s' a' w' h1 h2 => ?_)
    cases e with
    | normal => exact hq .normal _ _ _ h1 h2
    | exit i =>
      simp only at h2
      simp only [Ex.to, Exit.inBlock]
      split
      · rename_i hi; rw [if_pos hi] at h2; exact hq .normal _ _ _ h1 h2
      · rename_i hi; rw [if_neg hi] at h2; exact hq (.exit i) _ _ _ h1 h2
    | ret => exact hq .ret _ _ _ h1 h2
  | loop c ih =>
    intro R p s a w k r Q hs he hq
    unfold ev at he
    cases hl : lookT fi.tpl p with
    | none => rw [hl] at he; cases he
    | some tp =>
      rw [hl] at he
      simp only at he
      cases hg : tp.get tb (fitT tb tp (thawNil tb tp s)) with
      | none => rw [hg] at he; cases he
      | some v =>
        rw [hg] at he
        simp only at he
        have hlen : tp.ob.length = s.ob.length ∧ tp.sl.length = s.sl.length := by
          have := Tpl.get_len hg
          unfold fitT thawNil at this
          rw [(fit_len _ _ _ _).1, (fit_len _ _ _ _).2, (flush_len _ _ _ _).1, (flush_len _ _ _ _).2, (thawOb_len _ _ _ _ _).1, (thawOb_len _ _ _ _ _).2, (thaw_len tb tp tp.sl 0 s).1, (thaw_len tb tp tp.sl 0 s).2] at this
          exact this
        have hs1 : Rel tb w0 N0 (fitT tb tp (thawNil tb tp s)) a w := fit_ok ok tp.ob tp.sl 0 _ a <| flush_ok ok tp.ob tp.sl 0 _ a <| thawOb_ok ok tp (hfi _ _ hl) tp.ob 0 _ a (thaw_go ok tp (hfi _ _ hl) tp.sl 0 s a hs hlen.1 hlen.2) (by rw [(thaw_len tb tp tp.sl 0 s).1]; exact hlen.1) (by rw [(thaw_len tb tp tp.sl 0 s).2]; exact hlen.2)
        have hs2 : Rel tb w0 N0 (tp.put tb v) a w := by
          obtain ⟨N, h, inv⟩ := hs1
          exact ⟨N, h, put_inv ok inv hg⟩
        generalize hb : (fun v => ev E fi c (2 * p) (tp.put tb v) fun e s' => match e with
          | .normal => (tp.get tb (fitT tb tp s')).map Step.again
          | .exit i => if i = tp.xid then (tp.get tb (fitT tb tp s')).map .out else none
          | .ret => (k .ret s').map .ret) = body at he
        cases hlp : E.lp (tp.ty T) R body v with
        | none => rw [hlp] at he; cases he
        | some o =>
          rw [hlp] at he
          obtain ⟨n, hn⟩ := hL _ _ _ _ _ hlp
          refine wp_loop_rounds n ?_
          clear hg hs hs1 hlp
          have key : ∀ n v a w, Rel tb w0 N0 (tp.put tb v) a w → loopM n body v = some o → Code.rounds P c Q n a w := by
            intro n
            induction n with
            | zero => intro v a w _ hn; cases hn
            | succ n ihn =>
              intro v a w hs hn
              unfold loopM at hn
              rw [rounds_succ]
              cases hbv : body v with
              | none => rw [hbv] at hn; cases hn
              | some st =>
                rw [hbv] at hn
                have hbv' := hbv
                rw [← hb] at hbv'
                refine ih _ _ _ _ _ st _ hs hbv' fun e s' a' w' h1 h2 => ?_
                have hput : ∀ v', tp.get tb (fitT tb tp s') = some v' → Rel tb w0 N0 (tp.put tb v') a' w' := fun v' hv => by
                  obtain ⟨N, h, inv⟩ := fit_ok ok tp.ob tp.sl 0 _ a' (flush_ok ok tp.ob tp.sl 0 s' a' h1)
                  exact ⟨N, h, put_inv ok inv hv⟩
                cases e with
                | normal =>
                  simp only at h2
                  cases hv : tp.get tb (fitT tb tp s') with
                  | none => rw [hv] at h2; cases h2
                  | some v' =>
                    rw [hv] at h2
                    cases h2
                    exact ihn v' a' w' (hput v' hv) hn
                | exit i =>
                  simp only at h2
                  split at h2
                  · rename_i hi
                    subst hi
                    cases hv : tp.get tb (fitT tb tp s') with
                    | none => rw [hv] at h2; cases h2
                    | some v' =>
                      rw [hv] at h2
                      cases h2
                      cases hn
                      exact hq (.exit tp.xid) _ _ _ (hput v' hv) he
                  · cases h2
                | ret =>
                  simp only at h2
                  cases hv : k .ret s' with
                  | none => rw [hv] at h2; cases h2
                  | some v' =>
                    rw [hv] at h2
                    cases h2
                    cases hn
                    cases he
                    exact hq .ret _ _ _ h1 hv
          exact key n v a w hs2 hn
  | exit id => intro R p s a w k r Q hs he hq; exact wp_exit (hq (.exit id) _ _ _ hs he)
  | ret => intro R p s a w k r Q hs he hq; exact wp_ret (hq .ret _ _ _ hs he)
  | _ => intro R p s a w k r Q hs he hq; cases he
end Go.Fw
namespace Go.Fw
open Go.RowKit
set_option linter.unusedVariables false
set_option linter.unusedSimpArgs false
variable {T : Nat → Type} {P : Program} {tb : Tab T} {w0 : Base} {w : World} {N0 N : NS} {h : Nat → Value} {ob : List (Obj' T)}
def frzK : List Knd → List (Val T) → List (Obj' T) → Option (List (Val T) × List (Obj' T))
 | [], [], ob => some ([], ob)
 | k :: l, v :: vs, ob => match k.isFresh with
  | true => match frzK l vs ob with
   | none => none
   | some (r, ob') => some (v :: r, ob')
  | false => match frz ob v with
   | none => none
   | some (v', ob1) => match frzK l vs ob1 with
    | none => none
    | some (r, ob') => some (v' :: r, ob')
 | _, _, _ => none
def Knd.fin (tb : Tab T) (ob : List (Obj' T)) (n : Nat) : (k : Knd) → Val T → Option (k.ty T)
 | .fresh e, .own key ver => match getO ob key with
  | ⟨ver', .row false e' xs⟩ => if ver' = ver then (if h : e' = e then some (h ▸ xs) else none) else none
  | _ => none
 | .fresh _, .nil => some []
 | .fresh _, _ => none
 | .fbox t, .ptr key ver off => match getO ob key with
  | ⟨ver', .box false cs⟩ => if ver' = ver ∧ off = 0 ∧ key < n then tb.unc t (resL ob cs) else none
  | _ => none
 | .fbox _, _ => none
 | k, v => k.get tb v
def finL (tb : Tab T) (ob : List (Obj' T)) (n : Nat) : (l : List Knd) → List (Val T) → Option (Tup T l)
 | [], [] => some ()
 | [k], [v] => k.fin tb ob n v
 | k :: l :: r, v :: vs => match k.fin tb ob n v, finL tb ob n (l :: r) vs with
  | some x, some y => some (x, y)
  | _, _ => none
 | _, _ => none
def finX (tb : Tab T) (ob : List (Obj' T)) (n : Nat) : (l : List XK) → Nat → Option (XTup T l)
 | [], _ => some ()
 | .cst :: l, j => finX tb ob n l (j + 1)
 | .box t :: l, j => match (getO ob (n + j)).body with
  | .box false cs => match tb.flt t, tb.unc t cs, finX tb ob n l (j + 1) with
   | true, some x, some y => some (x, y)
   | _, _, _ => none
  | _ => none
 | .mp kt vt :: l, j => match (getO ob (n + j)).body with
  | .mp kt' vt' kvs => if h : kt' = kt ∧ vt' = vt then (match finX tb ob n l (j + 1) with
   | some y => some (h.1 ▸ h.2 ▸ kvs, y)
   | none => none) else none
  | _ => none
def takeF (tb : Tab T) (ob : List (Obj' T)) (n : Nat) (l : List Knd) (lx : List XK) (vs : List (Val T)) : Option (Tup T l × XTup T lx) :=
 match frzK l vs ob with
 | none => none
 | some (vs', ob') => match finL tb ob' n l vs', finX tb ob' n lx 0 with
  | some x, some y => some (x, y)
  | _, _ => none
def plainV : List (Val T) → Bool
 | [] => true
 | .cnd .. :: _ => false
 | _ :: r => plainV r
theorem plainV_iff {vs : List (Val T)} (h : plainV vs = true) : ∀ V ∈ vs, ∀ t w e v, V ≠ .cnd t w e v := by
 induction vs with
 | nil => intro V hV; cases hV
 | cons c vs ih =>
  intro V hV t w e v
  rcases List.mem_cons.1 hV with rfl | hV
  ·intro hh; subst hh; cases h
  ·refine ih ?_ V hV t w e v
   cases c <;> first | exact h | cases h
def evFn {tb : Tab T} (E : Env T tb) (fi : Fi) (rk : List Knd) (xk : List XK) (nt : Nat) (fn : Func) (args : List (Val T)) : Option (Tup T rk × XTup T xk) :=
 match fn.body with
 | none => none
 | some c =>
  match Nat.beq fn.ntmps nt && plainV (args.take (args.length - xk.length)) && Nat.ble (args.length - xk.length) nt, decL (args.drop (args.length - xk.length)) with
  | true, some bs => ev E fi c 1 ⟨args.take (args.length - xk.length) ++ List.replicate (nt - (args.length - xk.length)) .junk, obX nt bs, []⟩ fun e s => match e with
    | .exit _ => none
    | _ => takeF tb s.ob nt rk xk (fn.results.toList.map (resV tb s))
  | _, _ => none
theorem frzK_sound (ok : TabOk P tb) : ∀ (l : List Knd) (cs : List (Val T)) {N : NS} {ob ob' : List (Obj' T)} {cs' : List (Val T)} {vs : List Value}, Mem tb w0 w N0 N h ob → vs.length = cs.length →
  (∀ (j : Nat) V v, cs[j]? = some V → vs[j]? = some v → Rep tb w N h ob V v) → frzK l cs ob = some (cs', ob') →
  ∃ N', Mem tb w0 w N0 N' h ob' ∧ Turn ob ob' h h ∧ (∀ b o, N b o → N' b o) ∧ cs'.length = cs.length ∧ (∀ (j : Nat) V v, cs'[j]? = some V → vs[j]? = some v → Rep tb w N' h ob' V v) := by
 intro l
 induction l with
 | nil =>
  intro cs N ob ob' cs' vs m hl hr hf
  cases cs with
  | nil =>
   simp only [frzK, Option.some.injEq, Prod.mk.injEq] at hf
   obtain ⟨rfl, rfl⟩ := hf
   exact ⟨N, m, Turn.refl _ _, fun _ _ x => x, rfl, fun j V v hV => by simp at hV⟩
  | cons c cs => cases hf
 | cons k l ih =>
  intro cs N ob ob' cs' vs m hl hr hf
  cases cs with
  | nil => cases hf
  | cons c cs =>
   cases vs with
   | nil => simp at hl
   | cons v vs =>
    simp only [frzK] at hf
    cases hk : k.isFresh with
    | true =>
     rw [hk] at hf
     simp only at hf
     cases h2 : frzK l cs ob with
     | none => rw [h2] at hf; cases hf
     | some q =>
      obtain ⟨r', ob2⟩ := q
      rw [h2] at hf
      simp only [Option.some.injEq, Prod.mk.injEq] at hf
      obtain ⟨rfl, rfl⟩ := hf
      obtain ⟨N2, m2, t2, n2, l2, z2⟩ := ih cs m (by simpa using hl) (fun j V u hV hu => hr (j + 1) V u (by simpa using hV) (by simpa using hu)) h2
      refine ⟨N2, m2, t2, n2, by simp [l2], fun j V u hV hu => ?_⟩
      cases j with
      | zero => simp at hV hu; subst hV; subst hu; exact (hr 0 _ _ rfl rfl).mono (Kept.refl _ _) n2 t2
      | succ j => exact z2 j V u (by simpa using hV) (by simpa using hu)
    | false =>
     rw [hk] at hf
     simp only at hf
     cases h1 : frz ob c with
     | none => rw [h1] at hf; cases hf
     | some p =>
      obtain ⟨c', ob1⟩ := p
      rw [h1] at hf
      simp only at hf
      cases h2 : frzK l cs ob1 with
      | none => rw [h2] at hf; cases hf
      | some q =>
       obtain ⟨r', ob2⟩ := q
       rw [h2] at hf
       simp only [Option.some.injEq, Prod.mk.injEq] at hf
       obtain ⟨rfl, rfl⟩ := hf
       obtain ⟨N1, m1, z1, t1, n1, l1⟩ := frz_sound ok m (hr 0 c v rfl rfl) h1
       obtain ⟨N2, m2, t2, n2, l2, z2⟩ := ih cs m1 (by simpa using hl) (fun j V u hV hu => (hr (j + 1) V u (by simpa using hV) (by simpa using hu)).mono (Kept.refl _ _) n1 t1) h2
       refine ⟨N2, m2, t1.trans t2, fun b o x => n2 b o (n1 b o x), by simp [l2], fun j V u hV hu => ?_⟩
       cases j with
       | zero => simp at hV hu; subst hV; subst hu; exact (Rep.fz z1).mono (Kept.refl _ _) n2 t2
       | succ j => exact z2 j V u (by simpa using hV) (by simpa using hu)
def RkOk (tb : Tab T) (rk : List Knd) : Prop := ∀ e, Knd.fresh e ∈ rk → ∃ t, tb.elem t = some e
theorem fin_sound (ok : TabOk P tb) (m : Mem tb w0 w N0 N h ob) {n : Nat} (hn : n ≤ w0.n) {k : Knd} (hk : ∀ e, k = .fresh e → ∃ t, tb.elem t = some e) {V : Val T} {v : Value} {x : k.ty T} (hr : Rep tb w N h ob V v) (hf : k.fin tb ob n V = some x) : ResRep tb w N w0.w.heap.size k x v := by
 have other : k.isFresh = false → k.get tb V = some x → ResRep tb w N w0.w.heap.size k x v := fun hnf hg => by
  have := (get_fz ok hg hr 0 0).2
  cases k with
  | fresh e => cases hnf
  | fbox e => cases hnf
  | _ => exact this
 have hlive : ∀ key, mutb (getO ob key).body = true → lim tb (getO ob key).body = 0 → key < w0.n → ∀ g, blk (h key) = some g → w0.w.heap.size ≤ g ∧ ∀ o, ¬ N g o := fun key h1 h2 h3 g hg => by
  obtain ⟨a, b, c⟩ := m.live key g h1 hg
  refine ⟨?_, fun o => b o (by omega)⟩
  rcases a with a | ⟨a1, a2⟩
  ·exact a
  ·omega
 cases k with
 | fresh e =>
  obtain ⟨t, ht⟩ := hk e rfl
  cases V with
  | nil =>
   have hx : ([] : List (T e)) = x := Option.some.inj hf
   subst hx
   rw [hr.nil_inv]
   exact ⟨⟨t, ht⟩, [], World.ownsRow_nil w 0 e _, by simp [flat, FzL], fun g hg => by cases hg⟩
  | own key ver =>
   simp only [Knd.fin] at hf
   cases ho : getO ob key with
   | mk ver' bd =>
    rw [ho] at hf
    cases bd with
    | row fz e' xs =>
     cases fz with
     | true => cases hf
     | false =>
      simp only at hf
      split at hf
      ·rename_i hv
       subst hv
       split at hf
       ·rename_i he
        subst he
        have hx : xs = x := Option.some.inj hf
        subst hx
        have hvh := hr.own_eq ho
        obtain ⟨h1, ⟨cvs, h2, h3⟩, _⟩ := m.body ho
        subst hvh
        exact ⟨h1, cvs, h2, h3, hlive key (by rw [ho]; rfl) (by rw [ho]; rfl) (by
         rcases Nat.lt_or_ge key w0.n with h' | h'
         ·exact h'
         ·have := (m.ext key h').2.2
          rw [ho] at this; cases this)⟩
       ·cases hf
      ·cases hf
    | _ => cases hf
  | _ => cases hf
 | fbox t =>
  cases V with
  | ptr key ver off =>
   simp only [Knd.fin] at hf
   cases ho : getO ob key with
   | mk ver' bd =>
    rw [ho] at hf
    cases bd with
    | box fz cs =>
     cases fz with
     | true => cases hf
     | false =>
      simp only at hf
      by_cases hv : ver' = ver ∧ off = 0 ∧ key < n
      ·have hf2 : tb.unc t (resL ob cs) = some (x : T t) := (if_pos hv).symm.trans hf
       obtain ⟨rfl, rfl, hkn⟩ := hv
       have hsim := ok.unc _ _ _ hf2
       have hpu := ok.uncp _ _ _ hf2
       obtain ⟨r1, r2⟩ := resL_get ob cs
       obtain ⟨b, hb, rfl⟩ := hr.ptr_eq ho
       obtain ⟨b', e, cv, hb', hh, hsz, hc⟩ := m.body ho
       rw [hb] at hb'
       simp only [Value.pointer.injEq, Option.some.injEq, Addr.mk.injEq, and_true] at hb'
       subst hb'
       have hl := hlive key (by rw [ho]; rfl) (by rw [ho]; rfl) (by omega) b (by rw [hb]; rfl)
       refine ⟨b, e, cv, rfl, hh, by rw [hsz, hsim.1, r1], fun j V hV => ?_, hl.1, hl.2⟩
       have hj : j < (resL ob cs).length := by rw [← hsim.1]; exact (List.getElem?_eq_some_iff.1 hV).1
       have hd := List.getElem?_eq_getElem hj
       have hsm := hsim.2 j V _ hV hd
       have hjv : j < cs.length := by omega
       have hr2 := r2 j
       rw [hd, List.getElem?_eq_getElem hjv] at hr2
       simp only [Option.map_some, Option.some.injEq] at hr2
       rw [hr2] at hsm
       exact ((res_rep ok m (hc j _ (List.getElem?_eq_getElem hjv))).pure1 (hsm.pure (hpu V (List.mem_of_getElem? hV)))).sim hsm
      ·cases (if_neg hv).symm.trans hf
    | _ => cases hf
  | _ => cases hf
 | _ => exact other rfl hf
theorem finL_cons {n : Nat} {k k2 : Knd} {l : List Knd} {c : Val T} {cs : List (Val T)} {r : Tup T (k :: k2 :: l)} (hf : finL tb ob n (k :: k2 :: l) (c :: cs) = some r) :
  ∃ x y, k.fin tb ob n c = some x ∧ finL tb ob n (k2 :: l) cs = some y ∧ r = (x, y) := by
 have hh : finL tb ob n (k :: k2 :: l) (c :: cs) = (match k.fin tb ob n c, finL tb ob n (k2 :: l) cs with | some x, some y => some (x, y) | _, _ => none) := rfl
 rw [hh] at hf
 cases h1 : k.fin tb ob n c with
 | none => rw [h1] at hf; cases hf
 | some x =>
  cases h2 : finL tb ob n (k2 :: l) cs with
  | none => rw [h1, h2] at hf; cases hf
  | some y =>
   rw [h1, h2] at hf
   exact ⟨x, y, rfl, rfl, (Option.some.inj hf).symm⟩
theorem finL_sound (ok : TabOk P tb) (m : Mem tb w0 w N0 N h ob) {n : Nat} (hn : n ≤ w0.n) : ∀ (l : List Knd) (cs : List (Val T)) (vs : List Value) (r : Tup T l), RkOk tb l → vs.length = cs.length →
  (∀ (j : Nat) V v, cs[j]? = some V → vs[j]? = some v → Rep tb w N h ob V v) → finL tb ob n l cs = some r → RetL tb w N w0.w.heap.size l r vs := by
 intro l
 induction l with
 | nil =>
  intro cs vs r _ hl _ hf
  cases cs with
  | nil => simp only [RetL]; exact List.length_eq_zero_iff.1 (by simpa using hl)
  | cons => cases hf
 | cons k l ih =>
  intro cs vs r hk hl hr hf
  cases l with
  | nil =>
   match cs, vs, hl with
   | [], _, _ => cases hf
   | _ :: _ :: _, _, _ => cases hf
   | [c], [v], _ => exact ⟨v, rfl, fin_sound ok m hn (fun e he => hk e (by simp [he])) (hr 0 c v rfl rfl) hf⟩
  | cons k2 r' =>
   cases cs with
   | nil => cases hf
   | cons c cs =>
    cases vs with
    | nil => simp at hl
    | cons v vs =>
     obtain ⟨x, y, hx, hy, rfl⟩ := finL_cons hf
     exact ⟨v, vs, rfl, fin_sound ok m hn (fun e he => hk e (by simp [he])) (hr 0 c v rfl rfl) hx, ih cs vs y (fun e he => hk e (List.mem_cons_of_mem _ he)) (by simpa using hl) (fun j V u hV hu => hr (j + 1) V u (by simpa using hV) (by simpa using hu)) hy⟩
theorem resV_sound (ok : TabOk P tb) {s : St T} {a : Act} (inv : Inv tb w0 N0 N h s a w) (rv : ResultVar) (hj : resV tb s rv ≠ .junk) :
  ∃ u, (match rv with | .tmp t => (pure (a.tmps.getD t undef) : Sem Value) | .cell c t => do loadVar t (← asAddr (a.tmps.getD c undef))).run P w = .ok u w ∧ Rep tb w N h s.ob (resV tb s rv) u := by
 cases rv with
 | tmp t => exact ⟨_, rfl, inv.slots t⟩
 | cell c t =>
  simp only [resV] at hj ⊢
  split at hj
  ·rename_i ht
   rw [if_pos ht]
   cases hm : readAt tb s.ob (tb.agg t) (tb.size t) (s.get c) with
   | none => rw [hm] at hj; exact absurd rfl hj
   | some V =>
    obtain ⟨ad, u, h1, h2, h3⟩ := readAt_sound ok inv.mem ht (inv.slots c) hm
    refine ⟨u, ?_, h3⟩
    rw [h1]
    simpa [asAddr] using h2
  ·exact absurd rfl hj
theorem frzK_nojunk {n : Nat} : ∀ (l : List Knd) (cs : List (Val T)) {ob ob' : List (Obj' T)} {cs' : List (Val T)} {ob2 : List (Obj' T)} {r : Tup T l}, frzK l cs ob = some (cs', ob') → finL tb ob2 n l cs' = some r → ∀ V ∈ cs, V ≠ .junk := by
 intro l
 induction l with
 | nil =>
  intro cs ob ob' cs' ob2 r hf _ V hV
  cases cs with
  | nil => cases hV
  | cons => cases hf
 | cons k l ih =>
  intro cs ob ob' cs' ob2 r hf hg V hV
  cases cs with
  | nil => cases hV
  | cons c cs =>
   have hfin : ∀ {c' : Val T} {r' : List (Val T)}, finL tb ob2 n (k :: l) (c' :: r') = some r → (∃ x, k.fin tb ob2 n c' = some x) ∧ ∃ y : Tup T l, finL tb ob2 n l r' = some y := by
    intro c' r' hh
    cases l with
    | nil =>
     cases r' with
     | nil => exact ⟨⟨_, hh⟩, (), rfl⟩
     | cons => cases hh
    | cons k2 l2 =>
     obtain ⟨x, y, hx, hy, _⟩ := finL_cons hh
     exact ⟨⟨x, hx⟩, y, hy⟩
   simp only [frzK] at hf
   cases hk : k.isFresh with
   | true =>
    rw [hk] at hf
    simp only at hf
    cases h2 : frzK l cs ob with
    | none => rw [h2] at hf; cases hf
    | some q =>
     obtain ⟨r', ob3⟩ := q
     rw [h2] at hf
     simp only [Option.some.injEq, Prod.mk.injEq] at hf
     obtain ⟨rfl, rfl⟩ := hf
     obtain ⟨⟨x, hx⟩, y, hy⟩ := hfin hg
     rcases List.mem_cons.1 hV with rfl | hV
     ·intro hj
      subst hj
      cases k with
      | fresh e => cases hx
      | fbox e => cases hx
      | _ => cases hk
     ·exact ih cs h2 hy V hV
   | false =>
    rw [hk] at hf
    simp only at hf
    cases h1 : frz ob c with
    | none => rw [h1] at hf; cases hf
    | some p =>
     obtain ⟨c', ob1⟩ := p
     rw [h1] at hf
     simp only at hf
     cases h2 : frzK l cs ob1 with
     | none => rw [h2] at hf; cases hf
     | some q =>
      obtain ⟨r', ob3⟩ := q
      rw [h2] at hf
      simp only [Option.some.injEq, Prod.mk.injEq] at hf
      obtain ⟨rfl, rfl⟩ := hf
      obtain ⟨⟨x, hx⟩, y, hy⟩ := hfin hg
      rcases List.mem_cons.1 hV with rfl | hV
      ·intro hj
       subst hj
       cases h1
      ·exact ih cs h2 hy V hV
def resGet (a : Act) : ResultVar → Sem Value
 | .tmp t => pure (a.tmps.getD t undef)
 | .cell c t => do loadVar t (← asAddr (a.tmps.getD c undef))
theorem results_sound (ok : TabOk P tb) {s : St T} {a : Act} (inv : Inv tb w0 N0 N h s a w) (fn : Func) (hj : ∀ V ∈ fn.results.toList.map (resV tb s), V ≠ .junk) :
  ∃ vs : List Value, (results fn a.tmps).run P w = .ok (retV vs) w ∧ vs.length = (fn.results.toList.map (resV tb s)).length ∧ ∀ (j : Nat) V v, (fn.results.toList.map (resV tb s))[j]? = some V → vs[j]? = some v → Rep tb w N h s.ob V v := by
 have key : ∀ l : List ResultVar, (∀ rv ∈ l, resV tb s rv ≠ .junk) → ∃ vs : List Value, (l.mapM (resGet a)).run P w = .ok vs w ∧ vs.length = l.length ∧
   ∀ (j : Nat) rv v, l[j]? = some rv → vs[j]? = some v → Rep tb w N h s.ob (resV tb s rv) v := by
  intro l
  induction l with
  | nil => intro _; exact ⟨[], by simp [Sem.run_pure], rfl, fun j rv v hV => by simp at hV⟩
  | cons rv l ih =>
   intro hl
   obtain ⟨u, h1, h2⟩ := resV_sound ok inv rv (hl rv (by simp))
   have h1 : (resGet a rv).run P w = .ok u w := by
    cases rv <;> exact h1
   obtain ⟨vs, i1, i2, i3⟩ := ih fun rv hv => hl rv (by simp [hv])
   refine ⟨u :: vs, ?_, by simp [i2], fun j rv' v hV hv => ?_⟩
   ·rw [List.mapM_cons]
    simp only [Sem.run_bind, h1, i1, Result.andThen_ok, Sem.run_pure]
   ·cases j with
    | zero => simp at hV hv; subst hV; subst hv; exact h2
    | succ j => exact i3 j rv' v (by simpa using hV) (by simpa using hv)
 obtain ⟨vs, h1, h2, h3⟩ := key fn.results.toList fun rv hv => hj _ (List.mem_map_of_mem hv)
 refine ⟨vs, ?_, by simp [h2], fun j V v hV hv => ?_⟩
 ·have he : results fn a.tmps = (do let vs ← fn.results.mapM (resGet a); pure (if h : vs.size = 1 then vs[0] else .tuple vs)) := by
   unfold results
   have hfe : (fun | ResultVar.tmp t => (pure (a.tmps.getD t undef) : Sem Value) | ResultVar.cell a_1 t => do loadVar t (← asAddr (a.tmps.getD a_1 undef))) = resGet a := by
    funext rv
    cases rv <;> rfl
   exact congrArg (fun f => (do let vs ← fn.results.mapM f; pure (if h : vs.size = 1 then vs[0] else Value.tuple vs) : Sem Value)) hfe
  have hm : (fn.results.mapM (resGet a)).run P w = .ok vs.toArray w := by
   rw [Array.mapM_eq_mapM_toList]
   simp only [Sem.run_map, h1]
   rfl
  rw [he]
  simp only [Sem.run_bind, hm, Result.andThen_ok, Sem.run_pure]
  congr 1
  match vs with
  | [] => rfl
  | [v] => rfl
  | _ :: _ :: _ => rfl
 ·rw [List.getElem?_map] at hV
  cases hr : fn.results.toList[j]? with
  | none => rw [hr] at hV; cases hV
  | some rv =>
   rw [hr] at hV
   cases hV
   exact h3 j rv v hr hv
theorem finX_sound (ok : TabOk P tb) (m : Mem tb w0 w N0 N h ob) : ∀ (l : List XK) (j : Nat) (x : XTup T l), finX tb ob w0.n l j = some x → XRet tb w (fun j => w0.hx (w0.n + j)) l x j := by
 intro l
 induction l with
 | nil => intro j x _; trivial
 | cons y l ih =>
  intro j x hf
  have hh : h (w0.n + j) = w0.hx (w0.n + j) := (m.ext (w0.n + j) (by omega)).1
  have hbd := m.objs (w0.n + j)
  rw [hh] at hbd
  cases y with
  | cst => exact ih (j + 1) x hf
  | box t =>
   simp only [finX] at hf
   cases hb : (getO ob (w0.n + j)).body with
   | box fz cs =>
    rw [hb] at hf hbd
    cases fz with
    | true => cases hf
    | false =>
     simp only at hf
     revert hf
     split
     ·rename_i x0 y0 h1 h2 h3
      intro hf
      have hx := Option.some.inj hf
      subst hx
      exact ⟨box_same ok h2 h1 hbd, ih (j + 1) y0 h3⟩
     ·intro hf; cases hf
   | _ => rw [hb] at hf; cases hf
  | mp kt vt =>
   simp only [finX] at hf
   cases hb : (getO ob (w0.n + j)).body with
   | mp kt' vt' kvs =>
    rw [hb] at hf hbd
    simp only at hf
    split at hf
    ·rename_i hkv
     obtain ⟨rfl, rfl⟩ := hkv
     cases hr : finX tb ob w0.n l (j + 1) with
     | none => rw [hr] at hf; cases hf
     | some y0 =>
      rw [hr] at hf
      have hx := Option.some.inj hf
      subst hx
      exact ⟨hbd.2, ih (j + 1) y0 hr⟩
    ·cases hf
   | _ => rw [hb] at hf; cases hf
theorem start_inv {vals : List (Val T)} {bs : List (Body T)} {X : Nat → Prop} {hx : Nat → Value} {vargs : Array Value} {n : Nat} (m : Mem tb ⟨w, X, n, hx⟩ w N0 N0 hx (obX n bs)) (hl : vals.length = vargs.toList.length) (hz : ∀ (j : Nat) V v, vals[j]? = some V → vargs.toList[j]? = some v → Rep tb w N0 hx (obX n bs) V v)
  (hc : ∀ V ∈ vals, ∀ t w e v, V ≠ .cnd t w e v) (hn : vals.length ≤ n) :
  Inv tb ⟨w, X, n, hx⟩ N0 N0 hx (⟨vals ++ List.replicate (n - vals.length) .junk, obX n bs, []⟩ : St T) { tmps := vargs ++ Array.replicate (n - vargs.size) undef, defers := [] } w := by
 have hsz : vargs.size = vals.length := by rw [hl]; simp
 refine ⟨m, rfl, by simp [hsz], by simp; omega, fun t => ?_, fun x t wt e V hx => ?_⟩
 ·by_cases ht : t < vals.length
  ·have hv : (vals ++ List.replicate (n - vals.length) Val.junk)[t]? = some vals[t] := by rw [List.getElem?_append_left ht, List.getElem?_eq_getElem ht]
   unfold St.get
   simp only [List.getD_eq_getElem?_getD, hv, Option.getD_some]
   refine hz t _ _ (List.getElem?_eq_getElem ht) ?_
   have ht' : t < vargs.size := by omega
   simp [Array.getD_eq_getD_getElem?, Array.getElem?_append_left ht', ht']
  ·have : (⟨vals ++ List.replicate (n - vals.length) Val.junk, obX n bs, []⟩ : St T).get t = .junk := by
    unfold St.get
    simp only [List.getD_eq_getElem?_getD]
    rw [List.getElem?_append_right (by omega), List.getElem?_replicate]
    split <;> rfl
   rw [this]
   exact .junk
 ·exfalso
  unfold St.get at hx
  simp only [List.getD_eq_getElem?_getD] at hx
  by_cases ht : x < vals.length
  ·rw [List.getElem?_append_left ht, List.getElem?_eq_getElem ht] at hx
   simp only [Option.getD_some] at hx
   exact hc _ (List.getElem_mem ht) _ _ _ _ hx
  ·rw [List.getElem?_append_right (by omega), List.getElem?_replicate] at hx
   split at hx <;> cases hx
theorem evFn_sound (hm : P.follows .mixedOrders = true) (ok : TabOk P tb) {E : Env T tb} (hC : SoundC P tb E.C) (hL : LpOk E.lp) {fi : Fi} (hfi : FiOk tb fi) {f : Nat} {fn : Func} (hf : P.funcs[realF f]? = some fn) (hrk : RkOk tb (tb.rk f)) {args : List (Val T)} {r : Ret T tb f}
  (he : evFn E fi (tb.rk f) (tb.xk f) (tb.nt f) fn args = some r) : Contract P tb f args r := by
 intro w N0 X hx vals es bs vargs hargs hes hbs hmem hlen hz
 unfold evFn at he
 cases hb : fn.body with
 | none => rw [hb] at he; cases he
 | some c =>
  rw [hb] at he
  simp only at he
  have hal : args.length - (tb.xk f).length = vals.length := by rw [hargs, ← hes]; simp
  have htake : args.take vals.length = vals := by rw [hargs]; simp
  have hdrop : args.drop vals.length = es := by rw [hargs]; simp
  rw [hal, htake, hdrop, hbs] at he
  cases hn : Nat.beq fn.ntmps (tb.nt f) && plainV vals && Nat.ble vals.length (tb.nt f) with
  | false => rw [hn] at he; cases he
  | true =>
   rw [hn] at he
   simp only at he
   simp only [Bool.and_eq_true] at hn
   have hnt := Nat.eq_of_beq_eq_true hn.1.1
   have hnl := Nat.le_of_ble_eq_true hn.2
   have hc : ∀ V ∈ vals, ∀ t w e v, V ≠ .cnd t w e v := plainV_iff hn.1.2
   have hinv := start_inv (tb := tb) hmem hlen hz hc hnl
   rw [← hnt] at hinv
   refine calls_of_wp hf hb (ev_sound hm ok hC hL hfi c 1 _ _ w _ r _ ⟨N0, _, hinv⟩ (by rw [hnt]; exact he) fun e s' a' w' hs hk => ?_)
   obtain ⟨N, h, inv⟩ := hs
   have main : takeF tb s'.ob (tb.nt f) (tb.rk f) (tb.xk f) (fn.results.toList.map (resV tb s')) = some r → bodyPost P fn (AnsOk tb w N0 X hx (tb.nt f) (tb.rk f) (tb.xk f) r) .ret a' w' := fun ht => by
    unfold takeF at ht
    cases hkk : frzK (tb.rk f) (fn.results.toList.map (resV tb s')) s'.ob with
    | none => rw [hkk] at ht; cases ht
    | some q =>
     obtain ⟨cs', ob'⟩ := q
     rw [hkk] at ht
     simp only at ht
     cases hfl : finL tb ob' (tb.nt f) (tb.rk f) cs' with
     | none => rw [hfl] at ht; cases ht
     | some r1 =>
      cases hfx : finX tb ob' (tb.nt f) (tb.xk f) 0 with
      | none => rw [hfl, hfx] at ht; cases ht
      | some r2 =>
       rw [hfl, hfx] at ht
       have hr := Option.some.inj ht
       subst hr
       obtain ⟨vs, h1, h2, h3⟩ := results_sound ok inv fn (frzK_nojunk _ _ hkk hfl)
       obtain ⟨N', m', t', n', l', z'⟩ := frzK_sound ok _ _ inv.mem h2 h3 hkk
       have hxr := finX_sound ok m' (tb.xk f) 0 r2 (by rw [hnt]; exact hfx)
       exact ⟨inv.dfr, _, h1, vs, N', rfl, m'.below, m'.n0, m'.n1, m'.nlt, finL_sound ok m' (n := tb.nt f) (by rw [hnt]; exact Nat.le_refl _) _ _ vs r1 hrk (by rw [l', h2]) z' hfl, by rw [hnt] at hxr; exact hxr⟩
   cases e with
   | exit i => cases hk
   | normal => exact main hk
   | ret => exact main hk
end Go.Fw
namespace Go.Fw
open Go.RowKit
set_option linter.unusedVariables false
set_option linter.unusedSimpArgs false
variable {T : Nat → Type} {P : Program} {tb : Tab T}
theorem loopM_mono {V R : Type} {body : V → Option (Step V R)} {r : Out V R} : ∀ {n m : Nat} {v : V}, n ≤ m → loopM n body v = some r → loopM m body v = some r := by
 intro n
 induction n with
 | zero => intro m v _ h; cases h
 | succ n ih =>
  intro m v hm h
  cases m with
  | zero => omega
  | succ m =>
   unfold loopM at h ⊢
   cases hb : body v with
   | none => rw [hb] at h; cases h
   | some st =>
    rw [hb] at h
    cases st with
    | again v' => exact ih (by omega) h
    | out v' => exact h
    | ret r' => exact h
open Classical in
noncomputable def loopW (V R : Type) (body : V → Option (Step V R)) (v : V) : Option (Out V R) :=
 if h : ∃ r, ∃ n, loopM n body v = some r then some h.choose else none
theorem loopW_some {V R : Type} {body : V → Option (Step V R)} {v : V} {r : Out V R} : loopW V R body v = some r ↔ ∃ n, loopM n body v = some r := by
 unfold loopW
 constructor
 ·intro h
  split at h
  ·rename_i hh
   cases h
   exact hh.choose_spec
  ·cases h
 ·rintro ⟨n, hn⟩
  have hh : ∃ r, ∃ n, loopM n body v = some r := ⟨r, n, hn⟩
  rw [dif_pos hh]
  obtain ⟨m, hm⟩ := hh.choose_spec
  have h1 := loopM_mono (Nat.le_max_left n m) hn
  have h2 := loopM_mono (Nat.le_max_right n m) hm
  rw [h1] at h2
  exact h2.symm
theorem loopW_ok : LpOk loopW := fun V R body v r h => loopW_some.1 h
theorem loopW_eq {V R : Type} (body : V → Option (Step V R)) (v : V) : loopW V R body v = match body v with
  | none => none
  | some (.again v') => loopW V R body v'
  | some (.out v') => some (.out v')
  | some (.ret r) => some (.ret r) := by
 apply Option.ext
 intro r
 constructor
 ·intro h
  obtain ⟨n, hn⟩ := loopW_some.1 (Option.mem_def.1 h)
  cases n with
  | zero => cases hn
  | succ n =>
   unfold loopM at hn
   cases hb : body v with
   | none => rw [hb] at hn; cases hn
   | some st =>
    rw [hb] at hn
    cases st with
    | again v' => exact loopW_some.2 ⟨n, hn⟩
    | out v' => exact hn
    | ret r' => exact hn
 ·intro h
  refine loopW_some.2 ?_
  cases hb : body v with
  | none => rw [hb] at h; cases h
  | some st =>
   rw [hb] at h
   cases st with
   | again v' =>
    obtain ⟨n, hn⟩ := loopW_some.1 (Option.mem_def.1 h)
    exact ⟨n + 1, by unfold loopM; rw [hb]; exact hn⟩
   | out v' => exact ⟨1, by unfold loopM; rw [hb]; exact h⟩
   | ret r' => exact ⟨1, by unfold loopM; rw [hb]; exact h⟩
abbrev Calls' (tb : Tab T) := (f : Nat) → List (Val T) → Option (Ret T tb f)
def Approx (Cn : Nat → Calls' tb) (C : Calls' tb) : Prop := ∀ f args r, C f args = some r → ∃ n, ∀ m, n ≤ m → Cn m f args = some r
theorem cps_cont {R : Type} {Cn : Nat → Calls' tb} {C : Calls' tb} (ha : Approx Cn C) (x : SR T tb) {k : St T → Option R} {kn : Nat → St T → Option R} {r : R} (hk : ∀ s r, k s = some r → ∃ n, ∀ m, n ≤ m → kn m s = some r) (h : x.cps C k = some r) :
  ∃ n, ∀ m, n ≤ m → x.cps (Cn m) (kn m) = some r := by
 cases x with
 | bad => cases h
 | ok c s =>
  cases c with
  | false => cases h
  | true => exact hk s r h
 | call e f args ks =>
  simp only [SR.cps_call] at h ⊢
  cases e with
  | false => exact hk _ r h
  | true =>
   simp only [cond_true] at h ⊢
   cases hc : C f args with
   | none => rw [hc] at h; cases h
   | some y =>
    rw [hc] at h
    obtain ⟨n1, h1⟩ := ha f args y hc
    obtain ⟨n2, h2⟩ := hk _ r h
    refine ⟨n1 + n2, fun m hm => ?_⟩
    rw [h1 m (by omega)]
    exact h2 m (by omega)
theorem evOps_cont {R : Type} {Cn : Nat → Calls' tb} {C : Calls' tb} {lp} (ha : Approx Cn C) (ops : Array Oper) : ∀ (l : List Oper) (s : St T) {k : St T → Option R} {kn : Nat → St T → Option R} {r : R}, (∀ s r, k s = some r → ∃ n, ∀ m, n ≤ m → kn m s = some r) →
  evOps ⟨C, lp⟩ ops l s k = some r → ∃ n, ∀ m, n ≤ m → evOps ⟨Cn m, lp⟩ ops l s (kn m) = some r := by
 intro l
 induction l with
 | nil => intro s k kn r hk h; exact hk s r h
 | cons o l ih =>
  intro s k kn r hk h
  unfold evOps at h ⊢
  exact cps_cont ha _ (fun s r h => ih s hk h) h
theorem loop_cont {V R : Type} {body : V → Option (Step V R)} {bn : Nat → V → Option (Step V R)} (hb : ∀ v r, body v = some r → ∃ n, ∀ m, n ≤ m → bn m v = some r) {v : V} {r : Out V R} (h : loopW V R body v = some r) :
  ∃ n, ∀ m, n ≤ m → loopW V R (bn m) v = some r := by
 obtain ⟨q, hq⟩ := loopW_some.1 h
 clear h
 induction q generalizing v with
 | zero => cases hq
 | succ q ih =>
  unfold loopM at hq
  cases hbv : body v with
  | none => rw [hbv] at hq; cases hq
  | some st =>
   rw [hbv] at hq
   obtain ⟨n1, h1⟩ := hb v st hbv
   cases st with
   | again v' =>
    obtain ⟨n2, h2⟩ := ih hq
    refine ⟨n1 + n2, fun m hm => ?_⟩
    rw [loopW_eq, h1 m (by omega)]
    exact h2 m (by omega)
   | out v' => exact ⟨n1, fun m hm => by rw [loopW_eq, h1 m hm]; exact hq⟩
   | ret r' => exact ⟨n1, fun m hm => by rw [loopW_eq, h1 m hm]; exact hq⟩
theorem map_cont {α β : Type} {x : Option α} {xn : Nat → Option α} {f : α → β} {r : β} (hx : ∀ y, x = some y → ∃ n, ∀ m, n ≤ m → xn m = some y) (h : x.map f = some r) : ∃ n, ∀ m, n ≤ m → (xn m).map f = some r := by
 cases x with
 | none => cases h
 | some y =>
  obtain ⟨n, hn⟩ := hx y rfl
  exact ⟨n, fun m hm => by rw [hn m hm]; exact h⟩
theorem const_cont {α : Type} {x : Option α} {r : α} (h : x = some r) : ∃ n : Nat, ∀ m, n ≤ m → x = some r := ⟨0, fun _ _ => h⟩
theorem ev_cont {Cn : Nat → Calls' tb} {C : Calls' tb} (ha : Approx Cn C) (fi : Fi) : ∀ (c : Code) {R : Type} (p : Nat) (s : St T) {k : Ex → St T → Option R} {kn : Nat → Ex → St T → Option R} {r : R}, (∀ e s r, k e s = some r → ∃ n, ∀ m, n ≤ m → kn m e s = some r) →
  ev ⟨C, loopW⟩ fi c p s k = some r → ∃ n, ∀ m, n ≤ m → ev ⟨Cn m, loopW⟩ fi c p s (kn m) = some r := by
 intro c
 induction c with
 | skip => intro R p s k kn r hk h; exact hk _ _ _ h
 | region id ops draw =>
  intro R p s k kn r hk h
  cases draw with
  | true =>
   unfold ev at h ⊢
   exact evD_cont ops (fun x k kn r hk h => cps_cont ha x hk h) _ _ _ _ (fun s r h => hk _ _ _ h) h
  | false =>
   unfold ev at h ⊢
   exact evOps_cont ha ops _ _ (fun s r h => hk _ _ _ h) h
 | seq x y ihx ihy =>
  intro R p s k kn r hk h
  unfold ev at h ⊢
  refine ihx _ _ (fun e s r h => ?_) h
  cases e with
  | normal => exact ihy _ _ hk h
  | exit i => exact hk _ _ _ h
  | ret => exact hk _ _ _ h
 | cond c x y ihx ihy =>
  intro R p s k kn r hk h
  unfold ev at h ⊢
  cases hjn : jn tb fi.nl c x y with
  | some t =>
   rw [hjn] at h
   simp only at h ⊢
   cases hg : chainV tb fi.nl t (.cond c x y) s with
   | none => rw [hg] at h; cases h
   | some g => rw [hg] at h; exact hk _ _ _ h
  | none =>
  rw [hjn] at h
  simp only at h ⊢
  cases hc : opv s c with
  | bool t =>
   rw [hc] at h
   cases t with
   | true => exact ihx _ _ hk h
   | false => exact ihy _ _ hk h
  | _ => rw [hc] at h; cases h
 | block id c ih =>
  intro R p s k kn r hk h
  unfold ev at h ⊢
  refine ih _ _ (fun e s r h => ?_) h
  cases e with
  | normal => exact hk _ _ _ h
  | exit i =>
   simp only at h ⊢
   split
   ·rename_i hi; rw [if_pos hi] at h; exact hk _ _ _ h
   ·rename_i hi; rw [if_neg hi] at h; exact hk _ _ _ h
  | ret => exact hk _ _ _ h
 | loop c ih =>
  intro R p s k kn r hk h
  unfold ev at h ⊢
  cases hl : lookT fi.tpl p with
  | none => rw [hl] at h; cases h
  | some tp =>
   rw [hl] at h
   simp only at h ⊢
   cases hg : tp.get tb (fitT tb tp (thawNil tb tp s)) with
   | none => rw [hg] at h; cases h
   | some v =>
    rw [hg] at h
    simp only at h ⊢
    generalize hb : (fun v => ev ⟨C, loopW⟩ fi c (2 * p) (tp.put tb v) fun e s' => match e with
     | .normal => (tp.get tb (fitT tb tp s')).map Step.again
     | .exit i => if i = tp.xid then (tp.get tb (fitT tb tp s')).map .out else none
     | .ret => (k .ret s').map .ret) = body at h
    have hcont : ∀ v r, body v = some r → ∃ n, ∀ m, n ≤ m → (ev ⟨Cn m, loopW⟩ fi c (2 * p) (tp.put tb v) fun e s' => match e with
     | .normal => (tp.get tb (fitT tb tp s')).map Step.again
     | .exit i => if i = tp.xid then (tp.get tb (fitT tb tp s')).map .out else none
     | .ret => (kn m .ret s').map .ret) = some r := by
     intro v r hv
     rw [← hb] at hv
     refine ih _ _ (fun e s r h => ?_) hv
     cases e with
     | normal => exact const_cont h
     | exit i => exact const_cont h
     | ret => exact map_cont (fun y hy => hk _ _ _ hy) h
    cases hlp : loopW (tp.ty T) R body v with
    | none => rw [hlp] at h; cases h
    | some o =>
     rw [hlp] at h
     obtain ⟨n1, h1⟩ := loop_cont hcont hlp
     cases o with
     | out v' =>
      obtain ⟨n2, h2⟩ := hk _ _ _ h
      exact ⟨n1 + n2, fun m hm => (congrArg (fun o => (match o with | none => none | some (Out.out v') => kn m (Ex.exit tp.xid) (Tpl.put tb tp v') | some (Out.ret r) => some r : Option R)) (h1 m (by omega))).trans (h2 m (by omega))⟩
     | ret r' => exact ⟨n1, fun m hm => (congrArg (fun o => (match o with | none => none | some (Out.out v') => kn m (Ex.exit tp.xid) (Tpl.put tb tp v') | some (Out.ret r) => some r : Option R)) (h1 m hm)).trans h⟩
 | exit id => intro R p s k kn r hk h; exact hk _ _ _ h
 | ret => intro R p s k kn r hk h; exact hk _ _ _ h
 | _ => intro R p s k kn r hk h; cases h
theorem evFn_cont {Cn : Nat → Calls' tb} {C : Calls' tb} (ha : Approx Cn C) (fi : Fi) (rk : List Knd) (xk : List XK) (nt : Nat) (fn : Func) (args : List (Val T)) {r : Tup T rk × XTup T xk} (h : evFn ⟨C, loopW⟩ fi rk xk nt fn args = some r) :
  ∃ n, ∀ m, n ≤ m → evFn ⟨Cn m, loopW⟩ fi rk xk nt fn args = some r := by
 unfold evFn at h ⊢
 cases hb : fn.body with
 | none => rw [hb] at h; cases h
 | some c =>
  rw [hb] at h
  simp only at h ⊢
  revert h
  split
  ·intro h
   exact ev_cont ha fi c 1 _ (fun e s r h => const_cont h) h
  ·intro h; cases h
structure Sys (T : Nat → Type) (tb : Tab T) where
 fi : Nat → Fi
 hand : Nat → Bool
 by' : Calls' tb
noncomputable def callN (P : Program) (Y : Sys T tb) : Nat → Calls' tb
 | 0 => fun _ _ => none
 | n + 1 => fun f args => bif Y.hand f then Y.by' f args else match P.funcs[realF f]? with
  | none => none
  | some fn => evFn ⟨callN P Y n, loopW⟩ (Y.fi f) (tb.rk f) (tb.xk f) (tb.nt f) fn args
theorem callN_succ (P : Program) (Y : Sys T tb) (n f : Nat) (args : List (Val T)) : callN P Y (n + 1) f args = bif Y.hand f then Y.by' f args else match P.funcs[realF f]? with
  | none => none
  | some fn => evFn ⟨callN P Y n, loopW⟩ (Y.fi f) (tb.rk f) (tb.xk f) (tb.nt f) fn args := rfl
theorem ev_mono {C C' : Calls' tb} (hc : ∀ f args r, C f args = some r → C' f args = some r) (fi : Fi) (rk : List Knd) (xk : List XK) (nt : Nat) (fn : Func) (args : List (Val T)) {r : Tup T rk × XTup T xk} (h : evFn ⟨C, loopW⟩ fi rk xk nt fn args = some r) : evFn ⟨C', loopW⟩ fi rk xk nt fn args = some r := by
 obtain ⟨n, hn⟩ := evFn_cont (Cn := fun _ => C') (C := C) (fun f args r h => ⟨0, fun _ _ => hc f args r h⟩) fi rk xk nt fn args h
 exact hn n (Nat.le_refl _)
theorem callN_step (P : Program) (Y : Sys T tb) : ∀ (n f : Nat) (args : List (Val T)) (r : Ret T tb f), callN P Y n f args = some r → callN P Y (n + 1) f args = some r := by
 intro n
 induction n with
 | zero => intro f args r h; cases h
 | succ n ih =>
  intro f args r h
  rw [callN_succ] at h ⊢
  cases hh : Y.hand f with
  | true => rw [hh] at h; exact h
  | false =>
   rw [hh] at h
   simp only [cond_false] at h ⊢
   cases hf : P.funcs[realF f]? with
   | none => rw [hf] at h; cases h
   | some fn =>
    rw [hf] at h
    exact ev_mono ih _ _ _ _ _ _ h
theorem callN_mono (P : Program) (Y : Sys T tb) {n m f : Nat} {args : List (Val T)} {r : Ret T tb f} (hm : n ≤ m) (h : callN P Y n f args = some r) : callN P Y m f args = some r := by
 induction hm with
 | refl => exact h
 | step _ ih => exact callN_step P Y _ f args r ih
open Classical in
noncomputable def callW (P : Program) (Y : Sys T tb) : Calls' tb := fun f args => if h : ∃ r, ∃ n, callN P Y n f args = some r then some h.choose else none
theorem callW_some {Y : Sys T tb} {f : Nat} {args : List (Val T)} {r : Ret T tb f} : callW P Y f args = some r ↔ ∃ n, callN P Y n f args = some r := by
 unfold callW
 constructor
 ·intro h
  split at h
  ·rename_i hh
   cases h
   exact hh.choose_spec
  ·cases h
 ·rintro ⟨n, hn⟩
  have hh : ∃ r, ∃ n, callN P Y n f args = some r := ⟨r, n, hn⟩
  rw [dif_pos hh]
  obtain ⟨m, hm⟩ := hh.choose_spec
  have h1 := callN_mono P Y (Nat.le_max_left n m) hn
  have h2 := callN_mono P Y (Nat.le_max_right n m) hm
  rw [h1] at h2
  exact h2.symm
theorem callW_approx (Y : Sys T tb) : Approx (callN P Y) (callW P Y) := fun f args r h => by
 obtain ⟨n, hn⟩ := callW_some.1 h
 exact ⟨n, fun m hm => callN_mono P Y hm hn⟩
noncomputable def Sys.E (P : Program) (Y : Sys T tb) : Env T tb := ⟨callW P Y, loopW⟩
theorem callW_eq (Y : Sys T tb) {f : Nat} (hh : Y.hand f = false) {fn : Func} (hf : P.funcs[realF f]? = some fn) (args : List (Val T)) : callW P Y f args = evFn (Y.E P) (Y.fi f) (tb.rk f) (tb.xk f) (tb.nt f) fn args := by
 apply Option.ext
 intro r
 constructor
 ·intro h
  obtain ⟨n, hn⟩ := callW_some.1 (Option.mem_def.1 h)
  cases n with
  | zero => cases hn
  | succ n =>
   rw [callN_succ, hh, hf] at hn
   exact ev_mono (fun f args r h => callW_some.2 ⟨n, h⟩) _ _ _ _ _ _ hn
 ·intro h
  obtain ⟨n, hn⟩ := evFn_cont (callW_approx Y) (Y.fi f) (tb.rk f) (tb.xk f) (tb.nt f) fn args (Option.mem_def.1 h)
  refine callW_some.2 ⟨n + 1, ?_⟩
  rw [callN_succ, hh, hf]
  exact hn n (Nat.le_refl _)
theorem callW_hand (Y : Sys T tb) {f : Nat} (hh : Y.hand f = true) (args : List (Val T)) : callW P Y f args = Y.by' f args := by
 apply Option.ext
 intro r
 constructor
 ·intro h
  obtain ⟨n, hn⟩ := callW_some.1 (Option.mem_def.1 h)
  cases n with
  | zero => cases hn
  | succ n => rw [callN_succ, hh] at hn; exact hn
 ·intro h
  refine callW_some.2 ⟨1, ?_⟩
  rw [callN_succ, hh]
  exact h
structure SysOk (P : Program) (tb : Tab T) (Y : Sys T tb) : Prop where
 mixed : P.follows .mixedOrders = true
 tab : TabOk P tb
 fi : ∀ f, FiOk tb (Y.fi f)
 rk : ∀ f, RkOk tb (tb.rk f)
 by' : ∀ f args r, Y.hand f = true → Y.by' f args = some r → Contract P tb f args r
theorem callN_sound {Y : Sys T tb} (ok : SysOk P tb Y) : ∀ n, SoundC P tb (callN P Y n) := by
 intro n
 induction n with
 | zero => intro f args r h; cases h
 | succ n ih =>
  intro f args r h
  rw [callN_succ] at h
  cases hh : Y.hand f with
  | true => rw [hh] at h; exact ok.by' f args r hh h
  | false =>
   rw [hh] at h
   simp only [cond_false] at h
   cases hf : P.funcs[realF f]? with
   | none => rw [hf] at h; cases h
   | some fn =>
    rw [hf] at h
    exact evFn_sound ok.mixed ok.tab (E := ⟨callN P Y n, loopW⟩) ih loopW_ok (ok.fi f) hf (ok.rk f) h
theorem callW_sound {Y : Sys T tb} (ok : SysOk P tb Y) : SoundC P tb (callW P Y) := fun f args r h => by
 obtain ⟨n, hn⟩ := callW_some.1 h
 exact callN_sound ok n f args r hn
end Go.Fw
namespace Go.Fw
open Go.RowKit
set_option linter.unusedVariables false
set_option linter.unusedSimpArgs false
variable {T : Nat → Type}
def asI (k : IntKind) : Val T → Option Int
 | .int k' n => if k = k' then some n else none
 | _ => none
def asB : Val T → Option Bool
 | .bool b => some b
 | _ => none
def asS : Val T → Option ByteArray
 | .str s => some s
 | _ => none
def asL (e : Nat) : Val T → Option (List (T e))
 | .lst e' xs => if h : e' = e then some (h ▸ xs) else none
 | .nil => some []
 | _ => none
def asF : Val T → Option Nat
 | .clo f [] [] => some f
 | _ => none
theorem asI_ok {k : IntKind} {v : Val T} {n : Int} (h : asI k v = some n) : Sim (.int k n) v := by
 cases v with
 | int k' m =>
  simp only [asI] at h
  split at h
  ·rename_i hk; subst hk; cases h; exact .rfl
  ·cases h
 | _ => cases h
theorem asB_ok {v : Val T} {n : Bool} (h : asB v = some n) : Sim (.bool n) v := by
 cases v with
 | bool b => cases h; exact .rfl
 | _ => cases h
theorem asS_ok {v : Val T} {n : ByteArray} (h : asS v = some n) : Sim (.str n) v := by
 cases v with
 | str b => cases h; exact .rfl
 | _ => cases h
theorem asL_ok {e : Nat} {v : Val T} {n : List (T e)} (h : asL e v = some n) : Sim (.lst e n) v := by
 cases v with
 | lst e' xs =>
  simp only [asL] at h
  split at h
  ·rename_i hk; subst hk; cases h; exact .rfl
  ·cases h
 | nil => cases h; exact .nil
 | _ => cases h
theorem asF_ok {v : Val T} {n : Nat} (h : asF v = some n) : Sim (.clo n [] []) v := by
 cases v with
 | clo f a b =>
  cases a with
  | nil => cases b with
   | nil => cases h; exact .rfl
   | cons => cases h
  | cons => cases h
 | _ => cases h
theorem SimL.nil : SimL ([] : List (Val T)) [] := ⟨rfl, fun j c d h => by simp at h⟩
theorem SimL.cons {c d : Val T} {cs ds : List (Val T)} (h : Sim c d) (h' : SimL cs ds) : SimL (c :: cs) (d :: ds) := by
 refine ⟨by simp [h'.1], fun j a b ha hb => ?_⟩
 cases j with
 | zero => simp at ha hb; subst ha; subst hb; exact h
 | succ j => exact h'.2 j a b (by simpa using ha) (by simpa using hb)
def pureL : List (Val T) → Bool
 | [] => true
 | v :: r => v.pure1 && pureL r
theorem pureL_iff {cs : List (Val T)} (h : pureL cs = true) : ∀ V ∈ cs, V.pure1 = true := by
 induction cs with
 | nil => intro V hV; cases hV
 | cons c cs ih =>
  simp only [pureL, Bool.and_eq_true] at h
  intro V hV
  rcases List.mem_cons.1 hV with rfl | hV
  ·exact h.1
  ·exact ih h.2 V hV
inductive CstL : List (Val T) → List Value → Prop
 | nil : CstL [] []
 | cons {c v cs vs} : Cst c v → CstL cs vs → CstL (c :: cs) (v :: vs)
theorem CstL.get {cs : List (Val T)} {vs : List Value} (h : CstL cs vs) : vs.length = cs.length ∧ ∀ (j : Nat) V, cs[j]? = some V → Cst V (vs.toArray.getD j undef) := by
 induction h with
 | nil => exact ⟨rfl, fun j V hV => by simp at hV⟩
 | @cons c v cs vs h1 h2 ih =>
  refine ⟨by simp [ih.1], fun j V hV => ?_⟩
  cases j with
  | zero => simp at hV; subst hV; simpa using h1
  | succ j =>
   have := ih.2 j V (by simpa using hV)
   simpa [Array.getD_eq_getD_getElem?] using this
end Go.Fw
namespace Go.Fw
open Go.RowKit
set_option linter.unusedVariables false
set_option linter.unusedSimpArgs false
variable {T : Nat → Type} {P : Program} {tb : Tab T}
inductive CK where
 | int (k : IntKind) | bool | str | nil | junk
def ckC : CK → Val T → Bool
 | .int k, .int k' _ => decide (k = k')
 | .bool, .bool _ => true
 | .str, .str _ => true
 | _, _ => false
def ckL : List CK → List (Val T) → Bool
 | [], [] => true
 | c :: cs, v :: vs => ckC c v && ckL cs vs
 | _, _ => false
theorem ckL_flat : ∀ {ck : List CK} {cs : List (Val T)}, ckL ck cs = true → ∀ V ∈ cs, V.flat1 = true := by
 intro ck
 induction ck with
 | nil => intro cs h V hV; cases cs with | nil => cases hV | cons => cases h
 | cons c ck ih =>
  intro cs h V hV
  cases cs with
  | nil => cases hV
  | cons v cs =>
   simp only [ckL, Bool.and_eq_true] at h
   rcases List.mem_cons.1 hV with rfl | hV
   ·cases c <;> cases V <;> first | rfl | (have := h.1; cases this)
   ·exact ih h.2 V hV
theorem ckL_eqs : ∀ {ck : List CK} {cs ds : List (Val T)}, ckL ck cs = true → ckL ck ds = true → ∃ r, eqCs cs ds = some r := by
 intro ck
 induction ck with
 | nil =>
  intro cs ds h h'
  cases cs with
  | cons => cases h
  | nil => cases ds with
   | cons => cases h'
   | nil => exact ⟨_, rfl⟩
 | cons c ck ih =>
  intro cs ds h h'
  cases cs with
  | nil => cases h
  | cons v cs =>
   cases ds with
   | nil => cases h'
   | cons u ds =>
    simp only [ckL, Bool.and_eq_true] at h h'
    obtain ⟨r, hr⟩ := ih h.2 h'.2
    have hc : ∃ b, eqC v u = some b := by
     cases c <;> cases v <;> (try (have := h.1; cases this; done)) <;> cases u <;> (try (have := h'.1; cases this; done))
     ·have e1 := h.1
      have e2 := h'.1
      simp only [ckC, decide_eq_true_eq] at e1 e2
      subst e1; subst e2
      exact ⟨_, if_pos rfl⟩
     ·exact ⟨_, rfl⟩
     ·exact ⟨_, rfl⟩
    obtain ⟨b, hb⟩ := hc
    exact ⟨_, by simp only [eqCs]; rw [hb, hr]⟩
def primB (P : Program) (t : Nat) (c : CK) : Bool :=
 match P.underlying t, c with
 | some (.int k), .int k' => decide (k = k')
 | some .bool, .bool => true
 | some .string, .str => true
 | _, _ => false
theorem primB_plain {t : Nat} {c : CK} (h : primB P t c = true) : P.plainKey t = true := by
 unfold primB at h
 unfold Program.plainKey
 cases hu : P.underlying t with
 | none => rw [hu] at h; simp at h
 | some d => rw [hu] at h; cases d <;> cases c <;> first | rfl | (simp at h; done) | simp
theorem prim_eq {t : Nat} {c : CK} (h : primB P t c = true) {V V' : Val T} {v v' : Value} {r : Bool} (hc : ckC c V = true) (hc' : ckC c V' = true) (hv : valOf V = some v) (hv' : valOf V' = some v') (he : eqC V V' = some r) (d : Nat) (w : World) : (Op.equalIn (d + 1) t v v').run P w = .ok r w := by
 unfold primB at h
 cases hu : P.underlying t with
 | none => rw [hu] at h; simp at h
 | some dd =>
  rw [hu] at h
  cases c with
  | int k =>
   cases V with
   | int k1 m =>
    cases V' with
    | int k2 n =>
     simp only [ckC, decide_eq_true_eq] at hc hc'
     subst hc; subst hc'
     simp only [valOf, Option.some.injEq] at hv hv'
     subst hv; subst hv'
     simp only [eqC, if_true, Option.some.injEq] at he
     subst he
     cases dd <;> simp at h
     exact run_equalIn_int w d t _ _ m n hu
    | _ => cases hc'
   | _ => cases hc
  | bool =>
   cases V with
   | bool m =>
    cases V' with
    | bool n =>
     simp only [valOf, Option.some.injEq] at hv hv'
     subst hv; subst hv'
     simp only [eqC, Option.some.injEq] at he
     subst he
     cases dd <;> simp at h
     exact run_equalIn_bool w d t m n hu
    | _ => cases hc'
   | _ => cases hc
  | str =>
   cases V with
   | str m =>
    cases V' with
    | str n =>
     simp only [valOf, Option.some.injEq] at hv hv'
     subst hv; subst hv'
     simp only [eqC, Option.some.injEq] at he
     subst he
     cases dd <;> simp at h
     rw [run_equalIn_string w d t m n hu, beq_toListBytes]
    | _ => cases hc'
   | _ => cases hc
  | nil => cases V <;> cases hc
  | junk => cases V <;> cases hc
def fieldsEq (P : Program) : Nat → List Field → List CK → Bool
 | _, [], [] => true
 | o, f :: fs, c :: cs => Nat.beq f.offset o && (f.name != "_") && primB P f.type c && fieldsEq P (o + 1) fs cs
 | _, _, _ => false
def allPrim (P : Program) (e : Nat) : List CK → Bool
 | [] => true
 | c :: r => primB P e c && allPrim P e r
def chkEq (P : Program) (t : Nat) (cks : List CK) : Bool :=
 match P.underlying t with
 | some (.struct fs) => !(P.stoodInHeld t) && !(P.eqGuardType P.depth t) && fieldsEq P 0 fs.toList cks
 | some (.array n e) => !(P.eqGuardType P.depth t) && (P.info? e).isSome && Nat.beq (P.cellsOf e) 1 && Nat.beq cks.length n && allPrim P e cks
 | _ => match cks with
  | [c] => primB P t c
  | _ => false
theorem cells_cons {c : Val T} {cs : List (Val T)} {xs : Array Value} {o : Nat} (hx : ∀ (j : Nat) V, (c :: cs)[j]? = some V → ∃ v, xs[o + j]? = some v ∧ valOf V = some v) : (∃ v, xs[o]? = some v ∧ valOf c = some v) ∧ ∀ (j : Nat) V, cs[j]? = some V → ∃ v, xs[(o + 1) + j]? = some v ∧ valOf V = some v := by
 refine ⟨by simpa using hx 0 c rfl, fun j V hV => ?_⟩
 have := hx (j + 1) V (by simpa using hV)
 rw [show o + (j + 1) = (o + 1) + j by omega] at this
 exact this
theorem eqFields_run {xs ys : Array Value} (d : Nat) (w : World) : ∀ (fs : List Field) (cks : List CK) (cs ds : List (Val T)) (o : Nat) (r : Bool), fieldsEq P o fs cks = true → ckL cks cs = true → ckL cks ds = true →
  (∀ (j : Nat) V, cs[j]? = some V → ∃ v, xs[o + j]? = some v ∧ valOf V = some v) → (∀ (j : Nat) V, ds[j]? = some V → ∃ v, ys[o + j]? = some v ∧ valOf V = some v) → eqCs cs ds = some r → (Op.eqFields (d + 1) xs ys fs).run P w = .ok r w := by
 intro fs
 induction fs with
 | nil =>
  intro cks cs ds o r hf hc hd hx hy he
  cases cks with
  | cons => cases hf
  | nil =>
   cases cs with
   | cons => cases hc
   | nil =>
    cases ds with
    | cons => cases hd
    | nil => simp only [eqCs, Option.some.injEq] at he; subst he; simp [Op.eqFields]
 | cons f fs ih =>
  intro cks cs ds o r hf hc hd hx hy he
  cases cks with
  | nil => cases hf
  | cons ck cks =>
   cases cs with
   | nil => cases hc
   | cons c cs =>
    cases ds with
    | nil => cases hd
    | cons e ds =>
     simp only [fieldsEq, Bool.and_eq_true] at hf
     simp only [ckL, Bool.and_eq_true] at hc hd
     obtain ⟨⟨⟨h1, h2⟩, h3⟩, h4⟩ := hf
     have h1 := Nat.eq_of_beq_eq_true h1
     have h2 : f.name ≠ "_" := by simpa using h2
     obtain ⟨⟨v, hv, hvv⟩, hx'⟩ := cells_cons hx
     obtain ⟨⟨u, hu, huu⟩, hy'⟩ := cells_cons hy
     simp only [eqCs] at he
     cases he1 : eqC c e with
     | none => rw [he1] at he; cases he
     | some a =>
      cases he2 : eqCs cs ds with
      | none => rw [he1, he2] at he; cases he
      | some b =>
       rw [he1, he2] at he
       simp only [Option.some.injEq] at he
       subst he
       have hp := primB_plain h3
       have p1 := run_part_plain w hp (xs := xs) (off := f.offset) (by rw [h1]; exact hv)
       have p2 := run_part_plain w hp (xs := ys) (off := f.offset) (by rw [h1]; exact hu)
       have p3 := prim_eq h3 hc.1 hd.1 hvv huu he1 d w
       have p4 := ih cks cs ds (o + 1) b h4 hc.2 hd.2 hx' hy' he2
       simp only [Op.eqFields, h2, ne_eq, not_false_eq_true, if_true, Sem.run_bind, p1, p2, p3, Result.andThen_ok]
       cases a
       ·simp
       ·simpa using p4
theorem eqItems_run {xs ys : Array Value} {e : Nat} (d : Nat) (w : World) : ∀ (n : Nat) (cks : List CK) (cs ds : List (Val T)) (o : Nat) (r : Bool), cks.length = n → allPrim P e cks = true → ckL cks cs = true → ckL cks ds = true →
  (∀ (j : Nat) V, cs[j]? = some V → ∃ v, xs[o + j]? = some v ∧ valOf V = some v) → (∀ (j : Nat) V, ds[j]? = some V → ∃ v, ys[o + j]? = some v ∧ valOf V = some v) → eqCs cs ds = some r → (Op.eqItems (d + 1) e 1 xs ys (List.range' o n)).run P w = .ok r w := by
 intro n
 induction n with
 | zero =>
  intro cks cs ds o r hn hf hc hd hx hy he
  have : cks = [] := List.eq_nil_of_length_eq_zero hn
  subst this
  cases cs with
  | cons => cases hc
  | nil =>
   cases ds with
   | cons => cases hd
   | nil => simp only [eqCs, Option.some.injEq] at he; subst he; simp [Op.eqItems]
 | succ n ih =>
  intro cks cs ds o r hn hf hc hd hx hy he
  cases cks with
  | nil => simp at hn
  | cons ck cks =>
   cases cs with
   | nil => cases hc
   | cons c cs =>
    cases ds with
    | nil => cases hd
    | cons q ds =>
     simp only [allPrim, Bool.and_eq_true] at hf
     simp only [ckL, Bool.and_eq_true] at hc hd
     obtain ⟨⟨v, hv, hvv⟩, hx'⟩ := cells_cons hx
     obtain ⟨⟨u, hu, huu⟩, hy'⟩ := cells_cons hy
     simp only [eqCs] at he
     cases he1 : eqC c q with
     | none => rw [he1] at he; cases he
     | some a =>
      cases he2 : eqCs cs ds with
      | none => rw [he1, he2] at he; cases he
      | some b =>
       rw [he1, he2] at he
       simp only [Option.some.injEq] at he
       subst he
       have hp := primB_plain hf.1
       have p1 := run_part_plain w hp (by rw [Nat.mul_one]; exact hv : xs[o * 1]? = some v)
       have p2 := run_part_plain w hp (by rw [Nat.mul_one]; exact hu : ys[o * 1]? = some u)
       have p3 := prim_eq hf.1 hc.1 hd.1 hvv huu he1 d w
       have p4 := ih cks cs ds (o + 1) b (by simpa using hn) hf.2 hc.2 hd.2 hx' hy' he2
       rw [List.range'_succ]
       simp only [Op.eqItems, Sem.run_bind, p1, p2, p3, Result.andThen_ok]
       cases a
       ·simp
       ·simpa using p4
theorem valOf_get {cs : List (Val T)} {xs : Array Value} (h : cs.map valOf = xs.toList.map some) : ∀ (j : Nat) V, cs[j]? = some V → ∃ v, xs[0 + j]? = some v ∧ valOf V = some v := by
 intro j V hV
 have := congrArg (fun l : List (Option Value) => l[j]?) h
 simp only [List.getElem?_map, hV, Option.map_some, Array.getElem?_toList] at this
 rw [Nat.zero_add]
 cases hx : xs[j]? with
 | none => rw [hx] at this; cases this
 | some v => rw [hx] at this; exact ⟨v, rfl, by simpa using this⟩
theorem agg_eq {t : Nat} {cks : List CK} (hk : chkEq P t cks = true) {cs ds : List (Val T)} {r : Bool} (hc : ckL cks cs = true) (hd : ckL cks ds = true) (he : eqCs cs ds = some r) {xs ys : Array Value} (hx : cs.map valOf = xs.toList.map some) (hy : ds.map valOf = ys.toList.map some)
  (hag : ∃ d, P.underlying t = some d ∧ ((∃ fs, d = .struct fs) ∨ ∃ n e, d = .array n e)) (d : Nat) (w : World) : (Op.equalIn (d + 2) t (.agg xs) (.agg ys)).run P w = .ok r w ∧ P.eqGuardType P.depth t = false := by
 obtain ⟨dd, hu, hag⟩ := hag
 unfold chkEq at hk
 rw [hu] at hk
 rcases hag with ⟨fs, rfl⟩ | ⟨n, e, rfl⟩
 ·simp only [Bool.and_eq_true, Bool.not_eq_true'] at hk
  obtain ⟨⟨h1, h2⟩, h3⟩ := hk
  have hf : P.fieldsOf t = fs := by simp [Program.fieldsOf, hu]
  refine ⟨?_, h2⟩
  rw [run_equalIn_struct w (d + 1) t xs ys (by rw [hf]; exact hu) h1, hf]
  exact eqFields_run d w fs.toList cks cs ds 0 r h3 hc hd (valOf_get hx) (valOf_get hy) he
 ·simp only [Bool.and_eq_true, Bool.not_eq_true'] at hk
  obtain ⟨⟨⟨⟨h1, h2⟩, h3⟩, h4⟩, h5⟩ := hk
  have h3 := Nat.eq_of_beq_eq_true h3
  have h4 := Nat.eq_of_beq_eq_true h4
  obtain ⟨i, hi⟩ := Option.isSome_iff_exists.1 h2
  refine ⟨?_, h1⟩
  rw [run_equalIn_array w (d + 1) xs ys hu hi, h3, List.range_eq_range']
  exact eqItems_run d w n cks cs ds 0 r h4 h5 hc hd (valOf_get hx) (valOf_get hy) he
theorem lit_cells {t : Nat} {cks : List CK} (ok : ∀ x, ckL cks (tb.cells t x) = true) {x : T t} {v : Value} (h : Lit tb t x v) : (tb.agg t = true ∧ ∃ xs : Array Value, v = .agg xs ∧ (tb.cells t x).map valOf = xs.toList.map some) ∨ (tb.agg t = false ∧ ∃ c, tb.cells t x = [c] ∧ valOf c = some v) := by
 have h := h ⟨default, default, default, default, default⟩ (fun _ _ => False)
 have hf := ckL_flat (ok x)
 have one : ∀ {V : Val T} {u : Value} {w : World} {N : NS}, V.flat1 = true → Fz tb w N V u → valOf V = some u := by
  intro V u w N hV hz
  cases V with
  | int k n => cases hz; rfl
  | bool b => cases hz; rfl
  | str s => cases hz; rfl
  | _ => cases hV
 unfold valT at h
 cases ha : tb.agg t with
 | true =>
  rw [ha] at h
  left
  cases h with
  | agg h1 h2 =>
   rename_i xs
   refine ⟨rfl, xs, rfl, ?_⟩
   apply List.ext_getElem?
   intro j
   have e : xs.toList[j]? = xs[j]? := by simp
   rw [List.getElem?_map, List.getElem?_map, e]
   by_cases hj : j < (tb.cells t x).length
   ·have hV := List.getElem?_eq_getElem hj
    have hjx : j < xs.size := by omega
    rw [hV, Array.getElem?_eq_getElem hjx]
    have := one (hf _ (List.getElem_mem hj)) (h2 j _ hV)
    simpa [Array.getD_eq_getD_getElem?, hjx] using this
   ·have hjx : xs.size ≤ j := by omega
    rw [List.getElem?_eq_none (by omega), Array.getElem?_eq_none hjx]; rfl
 | false =>
  rw [ha] at h
  right
  match hcs : tb.cells t x, h with
  | [c], h => exact ⟨rfl, c, rfl, one (hf c (by rw [hcs]; simp)) h⟩
  | [], h => cases h
  | _ :: _ :: _, h => cases h
end Go.Fw
namespace Go.Fw
open Go.RowKit
set_option linter.unusedVariables false
set_option linter.unusedSimpArgs false
variable {T : Nat → Type} {P : Program} {tb : Tab T}
theorem prim_key {t : Nat} {c : CK} (h : primB P t c = true) {V : Val T} {v : Value} (hc : ckC c V = true) (hv : valOf V = some v) (em : Bool) (n : Nat) (w : World) : (Instr.checkKey em (n + 1) t v).run P w = .ok () w := by
  unfold primB at h
  cases hu : P.underlying t with
  | none => rw [hu] at h; simp at h
  | some dd =>
    rw [hu] at h
    cases c <;> cases V <;> first
      | (cases hc; done)
      | (simp only [valOf, Option.some.injEq] at hv
         subst hv
         cases dd <;> simp at h <;> simp [Instr.checkKey, run_underlying hu])
theorem keyFields_run {xs : Array Value} (em : Bool) (n : Nat) (w : World) : ∀ (fs : List Field) (cks : List CK) (cs : List (Val T)) (o : Nat), fieldsEq P o fs cks = true → ckL cks cs = true →
    (∀ (j : Nat) V, cs[j]? = some V → ∃ v, xs[o + j]? = some v ∧ valOf V = some v) → (forIn fs PUnit.unit fun f _ =>
      if f.name ≠ "_" then do
        let a ← part f.type xs f.offset
        Instr.checkKey em (n + 1) f.type a
        pure (ForInStep.yield PUnit.unit)
      else pure (ForInStep.yield PUnit.unit) : Sem PUnit).run P w = .ok PUnit.unit w := by
  intro fs
  induction fs with
  | nil => intro cks cs o hf hc hx; simp
  | cons f fs ih =>
    intro cks cs o hf hc hx
    cases cks with
    | nil => cases hf
    | cons ck cks =>
      cases cs with
      | nil => cases hc
      | cons c cs =>
        simp only [fieldsEq, Bool.and_eq_true] at hf
        simp only [ckL, Bool.and_eq_true] at hc
        obtain ⟨⟨⟨h1, h2⟩, h3⟩, h4⟩ := hf
        have h1 := Nat.eq_of_beq_eq_true h1
        have h2 : f.name ≠ "_" := by simpa using h2
        obtain ⟨⟨v, hv, hvv⟩, hx'⟩ := cells_cons hx
        have p1 := run_part_plain w (primB_plain h3) (xs := xs) (off := f.offset) (by rw [h1]; exact hv)
        have p2 := prim_key h3 hc.1 hvv em n w
        have p4 := ih cks cs (o + 1) h4 hc.2 hx'
        simp only [List.forIn_cons, h2, ne_eq, not_false_eq_true, if_true, Sem.run_bind, p1, p2, Result.andThen_ok, Sem.run_pure]
        exact p4
theorem keyItems_run {xs : Array Value} {e : Nat} {i : TypeInfo} (hi : P.info? e = some i) (hs : P.cellsOf e = 1) (em : Bool) (d : Nat) (w : World) : ∀ (n : Nat) (cks : List CK) (cs : List (Val T)) (o : Nat), cks.length = n → allPrim P e cks = true → ckL cks cs = true →
    (∀ (j : Nat) V, cs[j]? = some V → ∃ v, xs[o + j]? = some v ∧ valOf V = some v) → (forIn (List.range' o n) PUnit.unit fun i _ => do
      Instr.checkKey em (d + 1) e (← part e xs (i * (← sizeOf e)))
      pure (ForInStep.yield PUnit.unit) : Sem PUnit).run P w = .ok PUnit.unit w := by
  intro n
  induction n with
  | zero => intro cks cs o hn hf hc hx; simp
  | succ n ih =>
    intro cks cs o hn hf hc hx
    cases cks with
    | nil => simp at hn
    | cons ck cks =>
      cases cs with
      | nil => cases hc
      | cons c cs =>
        simp only [allPrim, Bool.and_eq_true] at hf
        simp only [ckL, Bool.and_eq_true] at hc
        obtain ⟨⟨v, hv, hvv⟩, hx'⟩ := cells_cons hx
        have p1 := run_part_plain w (primB_plain hf.1) (xs := xs) (off := o * 1) (by rw [Nat.mul_one]; exact hv)
        have p2 := prim_key hf.1 hc.1 hvv em d w
        have p4 := ih cks cs (o + 1) (by simpa using hn) hf.2 hc.2 hx'
        rw [List.range'_succ]
        simp only [List.forIn_cons, Sem.run_bind, run_sizeOf w hi, hs, p1, p2, Result.andThen_ok, Sem.run_pure]
        exact p4
theorem key_run {t : Nat} {cks : List CK} (hk : chkEq P t cks = true) (ok : ∀ x, ckL cks (tb.cells t x) = true) (hag : ∃ d, P.underlying t = some d ∧ tb.agg t = (match d with | .struct _ => true | .array _ _ => true | _ => false)) {x : T t} {v : Value} (h : Lit tb t x v) (em : Bool) (d : Nat) (w : World) : (Instr.checkKey em (d + 2) t v).run P w = .ok () w := by
  obtain ⟨dd, hu, hag⟩ := hag
  unfold chkEq at hk
  rw [hu] at hk
  rcases lit_cells ok h with ⟨ha, xs, rfl, hx⟩ | ⟨ha, c, hcs, hv⟩
  · rw [ha] at hag
    cases dd with
    | struct fs =>
      simp only [Bool.and_eq_true] at hk
      have := keyFields_run (P := P) (xs := xs) em d w fs.toList cks (tb.cells t x) 0 hk.2 (ok x) (valOf_get hx)
      rw [Instr.checkKey]
      simp only [Sem.run_bind, run_underlying hu, Result.andThen_ok]
      rw [← Array.forIn_toList, this]
      rfl
    | array n e =>
      simp only [Bool.and_eq_true] at hk
      obtain ⟨⟨⟨⟨_, h2⟩, h3⟩, h4⟩, h5⟩ := hk
      obtain ⟨i, hi⟩ := Option.isSome_iff_exists.1 h2
      have := keyItems_run (P := P) (xs := xs) hi (Nat.eq_of_beq_eq_true h3) em d w n cks (tb.cells t x) 0 (Nat.eq_of_beq_eq_true h4) h5 (ok x) (valOf_get hx)
      rw [Instr.checkKey]
      simp only [Sem.run_bind, run_underlying hu, Result.andThen_ok]
      simp only [Std.Legacy.Range.forIn_eq_forIn_range', Std.Legacy.Range.size, Nat.sub_zero, Nat.add_one_sub_one, Nat.div_one]
      rw [this]
      rfl
    | _ => cases hag
  · rw [ha] at hag
    have hp : ∃ c, cks = [c] ∧ primB P t c = true := by
      cases dd <;> first
        | (cases hag; done)
        | (match cks, hk with
           | [c], hk => exact ⟨c, rfl, hk⟩)
    obtain ⟨ck, rfl, hp⟩ := hp
    have := ok x
    rw [hcs] at this
    simp only [ckL, Bool.and_eq_true] at this
    exact prim_key hp this.1 hv em (d + 1) w
theorem key_eq {t : Nat} {cks : List CK} (hk : chkEq P t cks = true) (ok : ∀ x, ckL cks (tb.cells t x) = true) (hag : ∃ d, P.underlying t = some d ∧ tb.agg t = (match d with | .struct _ => true | .array _ _ => true | _ => false)) {x k : T t} {r : Bool} {a b : Value} (he : eqT tb t x k = some r) (h1 : Lit tb t x a) (h2 : Lit tb t k b) (w : World) :
    (Op.equal t a b).run P w = .ok r w ∧ ∀ d r', P.underlying t = some d → Instr.sameNow d a b = some r' → r' = r := by
  obtain ⟨dd, hu, hag⟩ := hag
  rcases lit_cells ok h1 with ⟨ha, xs, rfl, hx⟩ | ⟨ha, c, hcs, hv⟩
  · rcases lit_cells ok h2 with ⟨_, ys, rfl, hy⟩ | ⟨ha', _⟩
    · rw [ha] at hag
      have := (agg_eq hk (ok x) (ok k) he hx hy ⟨dd, hu, by cases dd <;> first | (cases hag; done) | exact .inl ⟨_, rfl⟩ | exact .inr ⟨_, _, rfl⟩⟩ 9998 w).1
      refine ⟨this, fun d r' hd hs => ?_⟩
      rw [hu] at hd
      simp only [Option.some.injEq] at hd
      subst hd
      cases dd <;> cases hs
    · rw [ha] at ha'; cases ha'
  · rcases lit_cells ok h2 with ⟨ha', _⟩ | ⟨_, c', hcs', hv'⟩
    · rw [ha] at ha'; cases ha'
    · rw [ha] at hag
      have hp : ∃ c, cks = [c] ∧ primB P t c = true := by
        unfold chkEq at hk
        rw [hu] at hk
        cases dd <;> first
          | (cases hag; done)
          | (match cks, hk with
             | [c], hk => exact ⟨c, rfl, hk⟩)
      obtain ⟨ck, rfl, hp⟩ := hp
      have o1 := ok x
      have o2 := ok k
      rw [hcs] at o1
      rw [hcs'] at o2
      simp only [ckL, Bool.and_eq_true] at o1 o2
      unfold eqT at he
      rw [hcs, hcs'] at he
      simp only [eqCs] at he
      cases hec : eqC c c' with
      | none => rw [hec] at he; cases he
      | some q =>
        rw [hec] at he
        simp only [Option.some.injEq, Bool.and_true] at he
        subst he
        refine ⟨prim_eq hp o1.1 o2.1 hv hv' hec 9999 w, fun d r' hd hs => ?_⟩
        cases c <;> cases c' <;> simp only [eqC] at hec <;> (try (cases hec; done)) <;> simp only [valOf, Option.some.injEq] at hv hv' <;> subst hv <;> subst hv'
        · split at hec
          · rename_i hkk
            subst hkk
            cases d <;> simp only [Instr.sameNow] at hs <;> first
              | (cases hs; done)
              | (simp only [if_true, Option.some.injEq] at hs hec; rw [← hs, ← hec])
          · cases hec
        · cases d <;> simp only [Instr.sameNow] at hs <;> first
            | (cases hs; done)
            | (simp only [Option.some.injEq] at hs hec; rw [← hs, ← hec])
        · cases d <;> simp only [Instr.sameNow] at hs <;> first
            | (cases hs; done)
            | (simp only [Option.some.injEq] at hs hec; rw [← hs, ← hec])
end Go.Fw
namespace Go.Fw
open Go.RowKit
set_option linter.unusedVariables false
set_option linter.unusedSimpArgs false
variable {T : Nat → Type}
def CK.val : CK → Val T
 | .int k => .int k 0
 | .bool => .bool false
 | .str => .str ByteArray.empty
 | .nil => .nil
 | .junk => .junk
structure Row where
 t : Nat
 size : Nat
 bytes : Nat
 agg : Bool
 elem : Option Nat
 flds : List (Nat × Nat)
 places : List (Nat × Nat)
 zero : Option (List CK)
 ik : Option IntKind
 str : Bool
 arr : Option (Nat × Nat)
 mp : Option (Nat × Nat)
 flt : Bool
def findR : List Row → Nat → Option Row
 | [], _ => none
 | r :: l, t => match Nat.beq r.t t with
  | true => some r
  | false => findR l t
theorem findR_mem {l : List Row} {t : Nat} {r : Row} (h : findR l t = some r) : r ∈ l ∧ r.t = t := by
 induction l with
 | nil => cases h
 | cons a l ih =>
  unfold findR at h
  cases hb : Nat.beq a.t t with
  | true => rw [hb] at h; cases h; exact ⟨by simp, Nat.eq_of_beq_eq_true hb⟩
  | false => rw [hb] at h; exact ⟨by simp [(ih h).1], (ih h).2⟩
def mkTab (rows : List Row) (cells : (e : Nat) → T e → List (Val T)) (unc : (e : Nat) → List (Val T) → Option (T e)) (dflt : (e : Nat) → T e) (fns : List Nat) (rk : Nat → List Knd) (xk : Nat → List XK) (nt : Nat → Nat) (split : (t : Nat) → (R : Type) → T t → (T t → R) → R) (splitOk : ∀ t R x k, split t R x k = k x) : Tab T where
 split := split
 splitOk := splitOk
 iface := fun _ => false
 gl := 0
 gok := fun _ => True
 gokOk := fun _ _ _ _ => trivial
 cells := cells
 unc := unc
 dflt := dflt
 has := fun t => match findR rows t with | some _ => true | none => false
 size := fun t => match findR rows t with | some r => r.size | none => 0
 bytes := fun t => match findR rows t with | some r => r.bytes | none => 0
 agg := fun t => match findR rows t with | some r => r.agg | none => false
 elem := fun t => match findR rows t with | some r => r.elem | none => none
 fld := fun t f => match findR rows t with | some r => r.flds[f]? | none => none
 part := fun t i => match findR rows t with | some r => r.places[i]? | none => none
 zero := fun t => match findR rows t with | some r => r.zero.map (List.map CK.val) | none => none
 ikind := fun t => match findR rows t with | some r => r.ik | none => none
 eqs := fun t => match findR rows t with | some r => r.flt && r.agg | none => false
 isStr := fun t => match findR rows t with | some r => r.str | none => false
 fn := fun f => inB f fns
 rk := rk
 xk := xk
 nt := nt
 arr := fun t => match findR rows t with | some r => r.arr | none => none
 mp := fun t => match findR rows t with | some r => r.mp | none => none
 flt := fun t => match findR rows t with | some r => r.flt | none => false
def ckB : List CK → List Value → Bool
 | [], [] => true
 | .int k :: r, .int k' n :: vs => decide (k = k') && decide (n = 0) && decide (k.wrap 0 = 0) && ckB r vs
 | .bool :: r, .bool b :: vs => !b && ckB r vs
 | .str :: r, .string s :: vs => Nat.beq s.size 0 && ckB r vs
 | .nil :: r, .slice none 0 0 :: vs => ckB r vs
 | .junk :: r, _ :: vs => ckB r vs
 | _, _ => false
def sizesB (P : Program) : List Field → List (Nat × Nat) → Bool
 | [], [] => true
 | f :: fs, (o, s) :: r => Nat.beq f.offset o && (match P.info? f.type with | some i => Nat.beq i.size s | none => false) && sizesB P fs r
 | _, _ => false
def fldsB (rows : List Row) : List Field → List (Nat × Nat) → Bool
 | [], [] => true
 | f :: fs, (o, t) :: r => Nat.beq f.offset o && Nat.beq f.type t && (findR rows t).isSome && fldsB rows fs r
 | _, _ => false
def placesB : Nat → Nat → List (Nat × Nat) → Bool
 | _, _, [] => true
 | i, s, (o, z) :: r => Nat.beq o (i * s) && Nat.beq z s && placesB (i + 1) s r
def chkRow (P : Program) (rows : List Row) (r : Row) : Bool :=
 match P.info? r.t, P.underlying r.t with
 | some i, some d =>
  Nat.beq i.size r.size && Nat.beq i.bytes r.bytes && Nat.blt 0 r.size &&
  (match d with | .struct _ => r.agg | .array _ _ => r.agg | _ => !r.agg) &&
  (match r.zero with
   | none => true
   | some cs => match i.zero with
    | some z => ckB cs z.cells.toList && (match z with | .agg _ => r.agg | _ => !r.agg)
    | none => false) &&
  (match r.elem with
   | none => true
   | some e => (match d with | .slice e' => Nat.beq e e' | _ => false) && (match findR rows e, P.info? e with
    | some re, some ie => Nat.blt 0 re.bytes && Nat.beq ie.size re.size && (match ie.zero with | some z => Nat.beq z.cells.size re.size | none => false)
    | _, _ => false)) &&
  (match r.flds with
   | [] => true
   | l => match d with | .struct fs => fldsB rows fs.toList l | _ => false) &&
  (match d with
   | .struct fs => sizesB P fs.toList r.places
   | .array _ e => (match P.info? e with | some ie => placesB 0 ie.size r.places | none => false)
   | _ => match r.places with | [] => true | _ => false) &&
  (match r.ik with
   | none => true
   | some k => match d with | .int k' => decide (k = k') | _ => false) &&
  (match r.str with
   | false => true
   | true => match d with | .string => true | _ => false) &&
  (match r.arr with
   | none => true
   | some (e, n) => (match d with | .array n' e' => Nat.beq e e' && Nat.beq n n' | _ => false) && (findR rows e).isSome) &&
  (match r.mp with
   | none => true
   | some (k, v) => (match d with | .map k' v' => Nat.beq k k' && Nat.beq v v' | _ => false) && (match findR rows k, findR rows v with | some a, some b => a.flt && b.flt | _, _ => false)) &&
  (match r.flt with
   | false => true
   | true => chkEq P r.t (r.zero.getD []))
 | _, _ => false
def chkFn (P : Program) (f : Nat) : Bool :=
 match P.funcs[f]? with
 | none => false
 | some fn => !(fn.name == "runtime.NumGoroutine") && fn.body.isSome
def allB {α : Type} (p : α → Bool) : List α → Bool
 | [] => true
 | a :: r => p a && allB p r
theorem allB_iff {α : Type} {p : α → Bool} {l : List α} (h : allB p l = true) : ∀ a ∈ l, p a = true := by
 induction l with
 | nil => intro a ha; cases ha
 | cons b l ih =>
  simp only [allB, Bool.and_eq_true] at h
  intro a ha
  rcases List.mem_cons.1 ha with rfl | ha
  ·exact h.1
  ·exact ih h.2 a ha
theorem chkFn_ok {P : Program} {f : Nat} (h : chkFn P f = true) (args : Array Value) (w : World) : (callFunc f args).run P w = .ok (.enter f args) w := by
 unfold chkFn at h
 cases hf : P.funcs[f]? with
 | none => rw [hf] at h; cases h
 | some fn =>
  rw [hf] at h
  simp only [Bool.and_eq_true, Bool.not_eq_true'] at h
  obtain ⟨h1, h2⟩ := h
  unfold callFunc
  have h1' : fn.name ≠ "runtime.NumGoroutine" := by simpa using h1
  have hn : fn.body ≠ none := by cases hb : fn.body <;> simp_all
  simp [hf, h1', hn]
theorem ckB_ok {cs : List CK} : ∀ {vs : List Value}, ckB cs vs = true → CstL (cs.map CK.val : List (Val T)) vs := by
 induction cs with
 | nil => intro vs h; cases vs with | nil => exact .nil | cons => cases h
 | cons c cs ih =>
  intro vs h
  cases vs with
  | nil => cases c <;> cases h
  | cons v vs =>
   cases c with
   | int k =>
    cases v with
    | int k' n =>
     simp only [ckB, Bool.and_eq_true, decide_eq_true_eq] at h
     obtain ⟨⟨⟨rfl, rfl⟩, h1⟩, h2⟩ := h
     exact .cons (.int h1) (ih h2)
    | _ => cases h
   | bool =>
    cases v with
    | bool b =>
     simp only [ckB, Bool.and_eq_true, Bool.not_eq_true'] at h
     obtain ⟨rfl, h2⟩ := h
     exact .cons .bool (ih h2)
    | _ => cases h
   | str =>
    cases v with
    | string s =>
     simp only [ckB, Bool.and_eq_true] at h
     obtain ⟨h1, h2⟩ := h
     have hs : s.size = 0 := Nat.eq_of_beq_eq_true h1
     have : s = ByteArray.empty := by
      apply ByteArray.ext
      apply Array.eq_empty_of_size_eq_zero
      exact hs
     subst this
     exact .cons (.str (by simp)) (ih h2)
    | _ => cases h
   | nil =>
    cases v with
    | slice A n c =>
     cases A with
     | some a => cases h
     | none =>
      cases n with
      | succ n => cases h
      | zero =>
       cases c with
       | succ c => cases h
       | zero => exact .cons .nil (ih h)
    | _ => cases h
   | junk => exact .cons .junk (ih h)
theorem fldsB_ok {rows : List Row} : ∀ {fs : List Field} {l : List (Nat × Nat)}, fldsB rows fs l = true → ∀ (f : Nat) (p : Nat × Nat), l[f]? = some p → ∃ fd : Field, fs[f]? = some fd ∧ fd.offset = p.1 ∧ fd.type = p.2 ∧ (findR rows p.2).isSome = true := by
 intro fs
 induction fs with
 | nil => intro l h f p hp; cases l with | nil => simp at hp | cons => cases h
 | cons a fs ih =>
  intro l h f p hp
  cases l with
  | nil => simp at hp
  | cons q l =>
   obtain ⟨o, t⟩ := q
   simp only [fldsB, Bool.and_eq_true] at h
   obtain ⟨⟨⟨h1, h2⟩, h3⟩, h4⟩ := h
   cases f with
   | zero =>
    simp at hp
    subst hp
    exact ⟨a, rfl, Nat.eq_of_beq_eq_true h1, Nat.eq_of_beq_eq_true h2, h3⟩
   | succ f =>
    obtain ⟨fd, e1, e2⟩ := ih h4 f p (by simpa using hp)
    exact ⟨fd, by simpa using e1, e2⟩
theorem sizesB_ok {P : Program} {w : World} : ∀ {fs : List Field} {l : List (Nat × Nat)}, sizesB P fs l = true → (fs.mapM fun f => do pure (f.offset, ← sizeOf f.type) : Sem (List (Nat × Nat))).run P w = .ok l w := by
 intro fs
 induction fs with
 | nil => intro l h; cases l with | nil => simp [Sem.run_pure] | cons => cases h
 | cons a fs ih =>
  intro l h
  cases l with
  | nil => cases h
  | cons q l =>
   obtain ⟨o, s⟩ := q
   simp only [sizesB, Bool.and_eq_true] at h
   obtain ⟨⟨h1, h2⟩, h3⟩ := h
   have h1 := Nat.eq_of_beq_eq_true h1
   cases hi : P.info? a.type with
   | none => rw [hi] at h2; cases h2
   | some i =>
    rw [hi] at h2
    have h2 := Nat.eq_of_beq_eq_true h2
    rw [List.mapM_cons]
    have hso : (sizeOf a.type).run P w = .ok i.size w := by simp [sizeOf, typeInfo, hi]
    have := ih h3
    simp only [Sem.run_bind] at this ⊢
    simp only [hso, Result.andThen_ok, Sem.run_pure, this, h1, h2]
theorem placesB_ok {s : Nat} : ∀ {l : List (Nat × Nat)} {i : Nat}, placesB i s l = true → ∀ (j : Nat) p, l[j]? = some p → p = ((i + j) * s, s) := by
 intro l
 induction l with
 | nil => intro i _ j p hp; simp at hp
 | cons q l ih =>
  intro i h j p hp
  obtain ⟨o, z⟩ := q
  simp only [placesB, Bool.and_eq_true] at h
  obtain ⟨⟨h1, h2⟩, h3⟩ := h
  cases j with
  | zero =>
   simp at hp
   subst hp
   rw [Nat.eq_of_beq_eq_true h1, Nat.eq_of_beq_eq_true h2]
   simp
  | succ j =>
   have := ih h3 j p (by simpa using hp)
   rw [this]
   simp [Nat.add_assoc, Nat.add_comm 1 j]
theorem tabOk_of {P : Program} {rows : List Row} {cells : (e : Nat) → T e → List (Val T)} {unc : (e : Nat) → List (Val T) → Option (T e)} {dflt : (e : Nat) → T e} {fns : List Nat} {rk : Nat → List Knd} {xk : Nat → List XK} {nt : Nat → Nat} {split : (t : Nat) → (R : Type) → T t → (T t → R) → R} {splitOk : ∀ t R x k, split t R x k = k x}
  (hrows : allB (chkRow P rows) rows = true) (hfns : allB (chkFn P) fns = true)
  (hunc : ∀ e vs x, unc e vs = some x → SimL (cells e x) vs ∧ pureL (cells e x) = true)
  (hlen : ∀ r, r ∈ rows → ∀ e, r.elem = some e → ∀ re, findR rows e = some re → ∀ x, (cells e x).length = re.size ∧ pureL (cells e x) = true)
  (hflt : ∀ r, r ∈ rows → r.flt = true → ∀ x, ckL (r.zero.getD []) (cells r.t x) = true) : TabOk P (mkTab rows cells unc dflt fns rk xk nt split splitOk) := by
 have row : ∀ t r, findR rows t = some r → ∃ i d, P.info? t = some i ∧ P.underlying t = some d ∧ chkRow P rows r = true ∧ r.t = t := fun t r hr => by
  have hm := findR_mem hr
  have hc := allB_iff hrows r hm.1
  have hc' := hc
  unfold chkRow at hc
  rw [hm.2] at hc
  cases hi : P.info? t with
  | none => rw [hi] at hc; cases hc
  | some i =>
   cases hd : P.underlying t with
   | none => rw [hi, hd] at hc; cases hc
   | some d => exact ⟨i, d, rfl, rfl, hc', hm.2⟩
 have parts : ∀ t r, findR rows t = some r → ∃ i d, P.info? t = some i ∧ P.underlying t = some d ∧
   i.size = r.size ∧ i.bytes = r.bytes ∧ 0 < r.size ∧ (match d with | .struct _ => r.agg | .array _ _ => r.agg | _ => !r.agg) = true ∧
   (∀ cs, r.zero = some cs → ∃ z, i.zero = some z ∧ ckB cs z.cells.toList = true ∧ (match z with | .agg _ => r.agg | _ => !r.agg) = true) ∧
   (∀ e, r.elem = some e → d = .slice e ∧ ∃ re ie z, findR rows e = some re ∧ P.info? e = some ie ∧ 0 < re.bytes ∧ ie.size = re.size ∧ ie.zero = some z ∧ z.cells.size = re.size) ∧
   (r.flds ≠ [] → ∃ fs, d = .struct fs ∧ fldsB rows fs.toList r.flds = true) ∧
   ((∃ fs, d = .struct fs ∧ sizesB P fs.toList r.places = true) ∨ (∃ n e ie, d = .array n e ∧ P.info? e = some ie ∧ placesB 0 ie.size r.places = true) ∨ r.agg = false) ∧
   (∀ k, r.ik = some k → d = .int k) ∧ (r.str = true → d = .string) ∧ (∀ e n, r.arr = some (e, n) → d = .array n e ∧ ∃ re, findR rows e = some re) ∧ (∀ k v, r.mp = some (k, v) → d = .map k v ∧ ∃ a b, findR rows k = some a ∧ findR rows v = some b ∧ a.flt = true ∧ b.flt = true) ∧ (r.flt = true → chkEq P t (r.zero.getD []) = true) := fun t r hr => by
  obtain ⟨i, d, hi, hd, hc, ht⟩ := row t r hr
  refine ⟨i, d, hi, hd, ?_⟩
  unfold chkRow at hc
  rw [ht, hi, hd] at hc
  simp only [Bool.and_eq_true, Nat.blt_eq] at hc
  obtain ⟨⟨⟨⟨⟨⟨⟨⟨⟨⟨⟨⟨c1, c2⟩, c3⟩, c4⟩, c5⟩, c6⟩, c7⟩, c8⟩, c9⟩, c10⟩, c11⟩, c12⟩, c13⟩ := hc
  refine ⟨Nat.eq_of_beq_eq_true c1, Nat.eq_of_beq_eq_true c2, c3, c4, fun cs hcs => ?_, fun e he => ?_, fun hf => ?_, ?_, fun k hk => ?_, fun hs => ?_, fun e n he => ?_, fun k v hm => ?_, fun hf => ?_⟩
  ·rw [hcs] at c5
   simp only at c5
   cases hz : i.zero with
   | none => rw [hz] at c5; cases c5
   | some z => rw [hz] at c5; simp only [Bool.and_eq_true] at c5; exact ⟨z, rfl, c5.1, c5.2⟩
  ·rw [he] at c6
   simp only [Bool.and_eq_true] at c6
   obtain ⟨c61, c62⟩ := c6
   refine ⟨?_, ?_⟩
   ·cases d <;> first | (cases c61; done) | (simp only at c61; rw [Nat.eq_of_beq_eq_true c61])
   ·cases hre : findR rows e with
    | none => rw [hre] at c62; cases c62
    | some re =>
     cases hie : P.info? e with
     | none => rw [hre, hie] at c62; cases c62
     | some ie =>
      rw [hre, hie] at c62
      simp only [Bool.and_eq_true, Nat.blt_eq] at c62
      obtain ⟨⟨d1, d2⟩, d3⟩ := c62
      cases hz : ie.zero with
      | none => rw [hz] at d3; cases d3
      | some z => rw [hz] at d3; exact ⟨re, ie, z, rfl, rfl, d1, Nat.eq_of_beq_eq_true d2, hz, Nat.eq_of_beq_eq_true d3⟩
  ·cases hfl : r.flds with
   | nil => exact absurd hfl hf
   | cons p l =>
    rw [hfl] at c7
    cases d <;> first | (cases c7; done) | exact ⟨_, rfl, c7⟩
  ·cases d with
   | struct fs => exact .inl ⟨fs, rfl, c8⟩
   | array n e =>
    simp only at c8
    cases hie : P.info? e with
    | none => rw [hie] at c8; cases c8
    | some ie => rw [hie] at c8; exact .inr (.inl ⟨n, e, ie, rfl, hie, c8⟩)
   | _ =>
    refine .inr (.inr ?_)
    simpa using c4
  ·rw [hk] at c9
   cases d <;> first | (cases c9; done) | (simp only [decide_eq_true_eq] at c9; rw [c9])
  ·rw [hs] at c10
   cases d <;> first | (cases c10; done) | rfl
  ·rw [he] at c11
   simp only [Bool.and_eq_true] at c11
   refine ⟨?_, Option.isSome_iff_exists.1 c11.2⟩
   have := c11.1
   cases d <;> first
    | (cases this; done)
    | (simp only [Bool.and_eq_true] at this; rw [Nat.eq_of_beq_eq_true this.1, Nat.eq_of_beq_eq_true this.2])
  ·rw [hm] at c12
   simp only [Bool.and_eq_true] at c12
   obtain ⟨m1, m2⟩ := c12
   refine ⟨?_, ?_⟩
   ·cases d <;> first
     | (cases m1; done)
     | (simp only [Bool.and_eq_true] at m1; rw [Nat.eq_of_beq_eq_true m1.1, Nat.eq_of_beq_eq_true m1.2])
   ·cases ha : findR rows k with
    | none => rw [ha] at m2; cases m2
    | some a =>
     cases hb : findR rows v with
     | none => rw [ha, hb] at m2; cases m2
     | some b => rw [ha, hb] at m2; simp only [Bool.and_eq_true] at m2; exact ⟨a, b, rfl, rfl, m2.1, m2.2⟩
  ·rw [hf] at c13; exact c13
 have has : ∀ t, (mkTab rows cells unc dflt fns rk xk nt split splitOk).has t = true → ∃ r, findR rows t = some r := fun t ht => by
  simp only [mkTab] at ht
  cases hr : findR rows t with
  | none => rw [hr] at ht; cases ht
  | some r => exact ⟨r, rfl⟩
 have flt : ∀ t, (mkTab rows cells unc dflt fns rk xk nt split splitOk).flt t = true → ∃ r, findR rows t = some r ∧ r.flt = true ∧ chkEq P t (r.zero.getD []) = true ∧ (∀ x, ckL (r.zero.getD []) (cells t x) = true) ∧ ∃ d, P.underlying t = some d ∧ (mkTab rows cells unc dflt fns rk xk nt split splitOk).agg t = (match d with | .struct _ => true | .array _ _ => true | _ => false) := fun t ht => by
  simp only [mkTab] at ht ⊢
  cases hr : findR rows t with
  | none => rw [hr] at ht; cases ht
  | some r =>
   rw [hr] at ht
   obtain ⟨i, d, hi, hd, p1, p2, p3, p4, p5, p6, p7, p8, p9, p10, p11, p12, p13⟩ := parts t r hr
   refine ⟨r, rfl, ht, p13 ht, ?_, d, hd, ?_⟩
   ·have := hflt r (findR_mem hr).1 ht
    rw [(findR_mem hr).2] at this
    exact this
   ·revert p4
    simp only
    cases d <;> intro p4 <;> simpa using p4
 refine ⟨fun e vs x hx => (hunc e vs x hx).1, fun e vs x hx V hV => pureL_iff (hunc e vs x hx).2 V hV, fun t e he => ?_, fun t ht => ?_, fun t cs hz => ?_, fun t f o ft hf => ?_, fun t ha => ?_, fun t k hk => ?_, fun t ht cs ds a b r hca hdb he xs ys hx hy x y w => ?_, fun t h => (by cases h), fun t hs => ?_, fun t e n ha => ?_, fun t kt vt hm => ?_, fun t x V hf hV => ?_, fun t x y hf => ?_, fun f hf args w => chkFn_ok (allB_iff hfns f (inB_iff.1 hf)) args w⟩
 ·simp only [mkTab] at he ⊢
  cases hr : findR rows t with
  | none => rw [hr] at he; cases he
  | some r =>
   rw [hr] at he
   obtain ⟨i, d, hi, hd, p1, p2, p3, p4, p5, p6, p7, p8, p9, p10, p11, p12, p13⟩ := parts t r hr
   obtain ⟨rfl, re, ie, z, q1, q2, q3, q4, q5, q6⟩ := p6 e he
   obtain ⟨ie', de, hie, hde, p1', p2', p3', _⟩ := parts e re q1
   rw [hie] at q2
   cases q2
   rw [q1]
   refine ⟨hd, ⟨ie, z, hie, q5, p1', p2', q6⟩, p3', q3, fun x => ?_, fun x V hV => ?_⟩
   ·exact (hlen r (findR_mem hr).1 e he re q1 x).1
   ·exact pureL_iff (hlen r (findR_mem hr).1 e he re q1 x).2 V hV
 ·obtain ⟨r, hr⟩ := has t ht
  obtain ⟨i, d, hi, hd, p1, p2, p3, p4, p5, p6, p7, p8, p9, p10, p11, p12, p13⟩ := parts t r hr
  simp only [mkTab]
  rw [hr]
  refine ⟨⟨i, hi, p1⟩, p3, fun w => ?_⟩
  simp only
  revert p4
  cases d <;> intro p4 <;> simp only [Bool.not_eq_true'] at p4 <;> rw [p4] <;> simp [isAgg, run_underlying hd]
 ·simp only [mkTab] at hz
  cases hr : findR rows t with
  | none => rw [hr] at hz; cases hz
  | some r =>
   rw [hr] at hz
   obtain ⟨i, d, hi, hd, p1, p2, p3, p4, p5, p6, p7, p8, p9, p10, p11, p12, p13⟩ := parts t r hr
   simp only at hz
   cases hrz : r.zero with
   | none => rw [hrz] at hz; cases hz
   | some cks =>
    rw [hrz] at hz
    cases hz
    obtain ⟨z, hz, hck, _⟩ := p5 cks hrz
    have := (ckB_ok (T := T) hck).get
    exact ⟨i, z, hi, hz, by simpa using this.1, fun j V hV => by simpa using this.2 j V hV⟩
 ·simp only [mkTab] at hf
  cases hr : findR rows t with
  | none => rw [hr] at hf; cases hf
  | some r =>
   rw [hr] at hf
   simp only at hf
   obtain ⟨i, d, hi, hd, p1, p2, p3, p4, p5, p6, p7, p8, p9, p10, p11, p12, p13⟩ := parts t r hr
   obtain ⟨fs, rfl, hfs⟩ := p7 (fun hh => by rw [hh] at hf; simp at hf)
   obtain ⟨fd, e1, e2, e3, e4⟩ := fldsB_ok hfs f _ hf
   refine ⟨fs, fd, hd, by simpa using e1, e2, e3, ?_⟩
   simp only [mkTab]
   cases hft : findR rows ft with
   | none => simp only at e4; rw [hft] at e4; cases e4
   | some _ => rfl
 ·simp only [mkTab] at ha ⊢
  cases hr : findR rows t with
  | none => rw [hr] at ha; cases ha
  | some r =>
   rw [hr] at ha
   simp only at ha
   obtain ⟨i, d, hi, hd, p1, p2, p3, p4, p5, p6, p7, p8, p9, p10, p11, p12, p13⟩ := parts t r hr
   rcases p8 with ⟨fs, rfl, h8⟩ | ⟨n, e, ie, rfl, hie, h8⟩ | h8
   ·refine ⟨fun i => r.places[i]?, fun i p hp => hp, fun ps w z out hz hfill => ?_⟩
    have hmap : (fs.mapM fun f => do pure (f.offset, ← sizeOf f.type) : Sem (Array (Nat × Nat))).run P w = .ok r.places.toArray w := by
     rw [Array.mapM_eq_mapM_toList]
     simp only [Sem.run_map, sizesB_ok h8]
     rfl
    unfold Instr.build
    simp only [Sem.run_bind, hz, Result.andThen_ok, run_underlying hd, hmap]
    have hfill' : Instr.fill (fun x => r.places.toArray[x]?) z.cells ps.toList = some out := by simpa using hfill
    rw [hfill']
    rfl
   ·refine ⟨fun i => some (i * ie.size, ie.size), fun i p hp => ?_, fun ps w z out hz hfill => ?_⟩
    ·have := placesB_ok h8 i p hp
     rw [this]; simp
    ·unfold Instr.build
     have hso : (sizeOf e).run P w = .ok ie.size w := by simp [sizeOf, typeInfo, hie]
     simp only [Sem.run_bind, hz, Result.andThen_ok, run_underlying hd, hso]
     rw [hfill]
     rfl
   ·rw [h8] at ha; cases ha
 ·simp only [mkTab] at hk
  cases hr : findR rows t with
  | none => rw [hr] at hk; cases hk
  | some r =>
   rw [hr] at hk
   obtain ⟨i, d, hi, hd, p1, p2, p3, p4, p5, p6, p7, p8, p9, p10, p11, p12, p13⟩ := parts t r hr
   rw [hd, p9 k hk]
 ·have hfl : (mkTab rows cells unc dflt fns rk xk nt split splitOk).flt t = true ∧ (mkTab rows cells unc dflt fns rk xk nt split splitOk).agg t = true := by
   simp only [mkTab] at ht ⊢
   cases hr : findR rows t with
   | none => rw [hr] at ht; cases ht
   | some r => rw [hr] at ht; simpa using ht
  obtain ⟨r0, hr, _, hchk, hck, d, hd, hag⟩ := flt t hfl.1
  rw [hfl.2] at hag
  have e1 : cs = cells t a := SimL.flat (hunc t cs a hca).1 (ckL_flat (hck a))
  have e2 : ds = cells t b := SimL.flat (hunc t ds b hdb).1 (ckL_flat (hck b))
  subst e1; subst e2
  have hde : ∃ d, P.underlying t = some d ∧ ((∃ fs, d = .struct fs) ∨ ∃ n e, d = .array n e) := ⟨d, hd, by cases d <;> first | (cases hag; done) | exact .inl ⟨_, rfl⟩ | exact .inr ⟨_, _, rfl⟩⟩
  obtain ⟨q1, q2⟩ := agg_eq hchk (hck a) (hck b) he hx hy hde 9998 w
  have q3 : (Op.equal t (.agg xs) (.agg ys)).run P w = .ok r w := q1
  constructor
  ·simp only [Sem.run_bind, run_eqGuard_agg w _ t x y xs ys q2, Result.andThen_ok, binOp, q3, Sem.run_pure]
  ·simp only [Sem.run_bind, run_eqGuard_agg w _ t x y xs ys q2, Result.andThen_ok, binOp, q3, Sem.run_pure]
 ·simp only [mkTab] at hs
  cases hr : findR rows t with
  | none => rw [hr] at hs; cases hs
  | some r =>
   rw [hr] at hs
   obtain ⟨i, d, hi, hd, p1, p2, p3, p4, p5, p6, p7, p8, p9, p10, p11, p12, p13⟩ := parts t r hr
   rw [hd, p10 hs]
 ·simp only [mkTab] at ha ⊢
  cases hr : findR rows t with
  | none => rw [hr] at ha; cases ha
  | some r =>
   rw [hr] at ha
   obtain ⟨i, d, hi, hd, p1, p2, p3, p4, p5, p6, p7, p8, p9, p10, p11, p12, p13⟩ := parts t r hr
   obtain ⟨rfl, re, hre⟩ := p11 e n ha
   exact ⟨hd, by rw [hre]⟩
 ·have hm' := hm
  simp only [mkTab] at hm'
  cases hr : findR rows t with
  | none => rw [hr] at hm'; cases hm'
  | some r =>
   rw [hr] at hm'
   obtain ⟨i, d, hi, hd, p1, p2, p3, p4, p5, p6, p7, p8, p9, p10, p11, p12, p13⟩ := parts t r hr
   obtain ⟨rfl, ra, rb, ha, hb, haf, hbf⟩ := p12 kt vt hm'
   have fk : (mkTab rows cells unc dflt fns rk xk nt split splitOk).flt kt = true := by simp only [mkTab]; rw [ha]; exact haf
   have fv : (mkTab rows cells unc dflt fns rk xk nt split splitOk).flt vt = true := by simp only [mkTab]; rw [hb]; exact hbf
   obtain ⟨_, _, _, kchk, kck, dk, hdk, hagk⟩ := flt kt fk
   obtain ⟨rv, hrv, _, vchk, vck, dv, hdv, hagv⟩ := flt vt fv
   refine ⟨hd, fk, fv, ⟨dk, hdk⟩, fun z0 hz0 => ?_, fun x a em w h => key_run kchk kck ⟨dk, hdk, hagk⟩ h em 9998 w, fun x k r a b w he h1 h2 => key_eq kchk kck ⟨dk, hdk, hagk⟩ he h1 h2 w⟩
   obtain ⟨iv, dv', hiv, hdv', q1, q2, q3, q4, q5, _⟩ := parts vt rv hrv
   unfold zeroT at hz0
   rw [fv] at hz0
   cases hzz : (mkTab rows cells unc dflt fns rk xk nt split splitOk).zero vt with
   | none => rw [hzz] at hz0; cases hz0
   | some cs =>
    rw [hzz] at hz0
    simp only at hz0
    have hu : unc vt cs = some z0 := hz0
    have hcs : cs = cells vt z0 := SimL.flat (hunc vt cs z0 hu).1 (ckL_flat (vck z0))
    simp only [mkTab] at hzz
    rw [hrv] at hzz
    simp only at hzz
    cases hrz : rv.zero with
    | none => rw [hrz] at hzz; cases hzz
    | some cks =>
     rw [hrz] at hzz
     simp only [Option.map_some, Option.some.injEq] at hzz
     obtain ⟨z, hz, hck, hform⟩ := q5 cks hrz
     have hget := (ckB_ok (T := T) hck).get
     refine ⟨z, fun w => by simp [zeroValue, typeInfo, hiv, hz], fun w N => ?_⟩
     have hall : ∀ (j : Nat) V, (cells vt z0)[j]? = some V → Fz (mkTab rows cells unc dflt fns rk xk nt split splitOk) w N V (z.cells.getD j undef) := fun j V hV => by
      have hfl := ckL_flat (vck z0) V (List.mem_of_getElem? hV)
      have hc := hget.2 j V (by rw [hzz, hcs]; exact hV)
      have hc' : Cst V (z.cells.getD j undef) := by simpa using hc
      generalize z.cells.getD j undef = u at hc' ⊢
      cases hc' with
      | int a => exact .int a
      | bool => exact .bool
      | str a => exact .str a
      | nil => cases hfl
      | junk => cases hfl
     have hlen' : z.cells.size = (cells vt z0).length := by
      have := hget.1
      rw [hzz, hcs] at this
      simpa using this
     unfold valT
     cases hag : (mkTab rows cells unc dflt fns rk xk nt split splitOk).agg vt with
     | true =>
      have hra : rv.agg = true := by simp only [mkTab] at hag; rw [hrv] at hag; exact hag
      rw [hra] at hform
      cases z <;> first | (cases hform; done) | exact .agg hlen' hall
     | false =>
      have hra : rv.agg = false := by simp only [mkTab] at hag; rw [hrv] at hag; exact hag
      rw [hra] at hform
      have hz1 : z.cells = #[z] := by cases z <;> first | rfl | cases hform
      rw [hz1] at hlen' hall
      show Fz _ w N (match false, cells vt z0 with | true, cs => .agg cs | false, [c] => c | _, _ => .junk) z
      match hcc : cells vt z0, hlen', hall with
      | [c], _, hall => simpa using hall 0 c rfl
      | [], hl, _ => simp at hl
      | _ :: _ :: _, hl, _ => simp at hl
 ·obtain ⟨r, _, _, _, hck, _⟩ := flt t hf
  exact ckL_flat (hck x) V hV
 ·obtain ⟨r, _, _, _, hck, _⟩ := flt t hf
  exact ckL_eqs (hck x) (hck y)
end Go.Fw
namespace Go.Fw
open Go.RowKit
set_option linter.unusedVariables false
variable {T : Nat → Type}
def findN {α : Type} (d : α) : List (Nat × α) → Nat → α
 | [], _ => d
 | (a, x) :: r, n => match Nat.beq a n with
  | true => x
  | false => findN d r n
theorem findN_all {α : Type} {Q : α → Prop} {d : α} (hd : Q d) : ∀ {l : List (Nat × α)}, (∀ p, p ∈ l → Q p.2) → ∀ n, Q (findN d l n) := by
 intro l
 induction l with
 | nil => intro _ n; exact hd
 | cons p l ih =>
  intro h n
  obtain ⟨a, x⟩ := p
  unfold findN
  split
  ·exact h (a, x) (by simp)
  ·exact ih (fun p hp => h p (by simp [hp])) n
def elemGo (rows : List Row) (e : Nat) : List Row → Bool
 | [] => false
 | x :: r => (match findR rows x.t with
  | some y => (match y.elem with | some e' => Nat.beq e' e | none => false)
  | none => false) || elemGo rows e r
def elemB (rows : List Row) (e : Nat) : Bool := elemGo rows e rows
def rowsB (rows : List Row) (n : Nat) : List ObT → Nat → Bool
 | [], _ => true
 | .row _ e :: r, k => (elemB rows e && Nat.blt k n) && rowsB rows n r (k + 1)
 | _ :: r, k => rowsB rows n r (k + 1)
def tplB (rows : List Row) : List (Nat × Tpl) → Bool
 | [] => true
 | (_, p) :: r => rowsB rows p.sl.length p.ob 0 && tplB rows r
def fisB (rows : List Row) : List (Nat × Fi) → Bool
 | [] => true
 | (_, fi) :: r => tplB rows fi.tpl && fisB rows r
def rkB (rows : List Row) : List Knd → Bool
 | [] => true
 | .fresh e :: r => elemB rows e && rkB rows r
 | _ :: r => rkB rows r
def rksB (rows : List Row) : List (Nat × List Knd) → Bool
 | [] => true
 | (_, l) :: r => rkB rows l && rksB rows r
section
variable {rows : List Row} {cells : (e : Nat) → T e → List (Val T)} {unc : (e : Nat) → List (Val T) → Option (T e)} {dflt : (e : Nat) → T e} {fns : List Nat} {rk : Nat → List Knd} {xk : Nat → List XK} {nt : Nat → Nat} {split : (t : Nat) → (R : Type) → T t → (T t → R) → R} {splitOk : ∀ t R x k, split t R x k = k x}
theorem elemB_ok {e : Nat} (h : elemB rows e = true) : ∃ t, (mkTab rows cells unc dflt fns rk xk nt split splitOk).elem t = some e := by
 unfold elemB at h
 have key : ∀ l : List Row, elemGo rows e l = true → ∃ t, (mkTab rows cells unc dflt fns rk xk nt split splitOk).elem t = some e := by
  intro l
  induction l with
  | nil => intro h; cases h
  | cons x l ih =>
   intro h
   simp only [elemGo, Bool.or_eq_true] at h
   rcases h with h | h
   ·refine ⟨x.t, ?_⟩
    simp only [mkTab]
    cases hf : findR rows x.t with
    | none => rw [hf] at h; cases h
    | some y =>
     rw [hf] at h
     simp only at h ⊢
     cases he : y.elem with
     | none => rw [he] at h; cases h
     | some e' => rw [he] at h; rw [Nat.eq_of_beq_eq_true h]
   ·exact ih h
 exact key rows h
theorem rowsB_ok {n : Nat} : ∀ {l : List ObT} {k0 : Nat}, rowsB rows n l k0 = true → ∀ k fz e, l.getD k .dead = .row fz e → (∃ t, (mkTab rows cells unc dflt fns rk xk nt split splitOk).elem t = some e) ∧ k0 + k < n := by
 intro l
 induction l with
 | nil => intro k0 _ k fz e hk; simp at hk
 | cons o l ih =>
  intro k0 h k fz e hk
  cases k with
  | zero =>
   simp only [List.getD_cons_zero] at hk
   subst hk
   simp only [rowsB, Bool.and_eq_true, Nat.blt_eq] at h
   exact ⟨elemB_ok h.1.1, h.1.2⟩
  | succ k =>
   simp only [List.getD_cons_succ] at hk
   have h' : rowsB rows n l (k0 + 1) = true := by
    cases o with
    | row fz e => simp only [rowsB, Bool.and_eq_true] at h; exact h.2
    | _ => exact h
   obtain ⟨a, b⟩ := ih h' k fz e hk
   exact ⟨a, by omega⟩
theorem tplB_ok : ∀ {l : List (Nat × Tpl)}, tplB rows l = true → ∀ p tp, lookT l p = some tp → RowsOk (mkTab rows cells unc dflt fns rk xk nt split splitOk) tp := by
 intro l
 induction l with
 | nil => intro _ p tp h; cases h
 | cons x l ih =>
  intro h p tp hp
  obtain ⟨a, q⟩ := x
  simp only [tplB, Bool.and_eq_true] at h
  unfold lookT at hp
  split at hp
  ·cases hp
   intro k fz e hk
   obtain ⟨h1, h2⟩ := rowsB_ok (cells := cells) (unc := unc) (dflt := dflt) (fns := fns) (rk := rk) (xk := xk) (nt := nt) (split := split) (splitOk := splitOk) h.1 k fz e hk
   exact ⟨h1, by omega⟩
  ·exact ih h.2 p tp hp
theorem fisB_ok : ∀ {l : List (Nat × Fi)}, fisB rows l = true → ∀ p, p ∈ l → FiOk (mkTab rows cells unc dflt fns rk xk nt split splitOk) p.2 := by
 intro l
 induction l with
 | nil => intro _ p hp; cases hp
 | cons x l ih =>
  intro h p hp
  obtain ⟨a, q⟩ := x
  simp only [fisB, Bool.and_eq_true] at h
  rcases List.mem_cons.1 hp with rfl | hp
  ·exact tplB_ok h.1
  ·exact ih h.2 p hp
theorem rkB_ok : ∀ {l : List Knd}, rkB rows l = true → RkOk (mkTab rows cells unc dflt fns rk xk nt split splitOk) l := by
 intro l
 induction l with
 | nil => intro _ e he; cases he
 | cons x l ih =>
  intro h e he
  rcases List.mem_cons.1 he with rfl | he
  ·simp only [rkB, Bool.and_eq_true] at h
   exact elemB_ok h.1
  ·refine ih ?_ e he
   cases x with
   | fresh e => simp only [rkB, Bool.and_eq_true] at h; exact h.2
   | _ => exact h
theorem rksB_ok : ∀ {l : List (Nat × List Knd)}, rksB rows l = true → ∀ p, p ∈ l → RkOk (mkTab rows cells unc dflt fns rk xk nt split splitOk) p.2 := by
 intro l
 induction l with
 | nil => intro _ p hp; cases hp
 | cons x l ih =>
  intro h p hp
  obtain ⟨a, q⟩ := x
  simp only [rksB, Bool.and_eq_true] at h
  rcases List.mem_cons.1 hp with rfl | hp
  ·exact rkB_ok h.1
  ·exact ih h.2 p hp
end
def Ok {α : Type} (x : Option α) (Q : α → Prop) : Prop := ∃ a, x = some a ∧ Q a
theorem Ok.mono {α : Type} {x : Option α} {Q Q' : α → Prop} (h : Ok x Q) (hq : ∀ a, Q a → Q' a) : Ok x Q' := by
 obtain ⟨a, h1, h2⟩ := h
 exact ⟨a, h1, hq a h2⟩
theorem Ok.pure {α : Type} {a : α} {Q : α → Prop} (h : Q a) : Ok (some a) Q := ⟨a, rfl, h⟩
theorem Ok.bind {α β : Type} {x : Option α} {f : α → Option β} {Q : α → Prop} {Q' : β → Prop} (h : Ok x Q) (hf : ∀ a, Q a → Ok (f a) Q') : Ok (x.bind f) Q' := by
 obtain ⟨a, h1, h2⟩ := h
 rw [h1]
 exact hf a h2
theorem Ok.map {α β : Type} {x : Option α} {f : α → β} {Q' : β → Prop} (h : Ok x fun a => Q' (f a)) : Ok (x.map f) Q' := by
 obtain ⟨a, h1, h2⟩ := h
 rw [h1]
 exact ⟨f a, rfl, h2⟩
theorem Ok.bif {α : Type} {b : Bool} {x y : Option α} {Q : α → Prop} (h1 : b = true → Ok x Q) (h2 : b = false → Ok y Q) : Ok (bif b then x else y) Q := by
 cases b with
 | true => exact h1 rfl
 | false => exact h2 rfl
theorem Ok.loop {V R : Type} {body : V → Option (Step V R)} {Q : Out V R → Prop} (I : V → Prop) (m : V → Nat)
  (hb : ∀ v, I v → Ok (body v) fun s => match s with
   | .again v' => I v' ∧ m v' < m v
   | .out v' => Q (.out v')
   | .ret r => Q (.ret r)) (v : V) (hv : I v) : Ok (loopW V R body v) Q := by
 have key : ∀ n v, m v = n → I v → Ok (loopW V R body v) Q := by
  intro n
  induction n using Nat.strongRecOn with
  | _ n ih =>
   intro v hm hv
   rw [loopW_eq]
   obtain ⟨s, h1, h2⟩ := hb v hv
   rw [h1]
   cases s with
   | again v' => exact ih (m v') (by have := h2.2; omega) v' rfl h2.1
   | out v' => exact ⟨_, rfl, h2⟩
   | ret r => exact ⟨_, rfl, h2⟩
 exact key _ v rfl hv
def afterL {V R : Type} (x : Option (Out V R)) (k : V → Option R) : Option R := match x with
 | none => none
 | some (.out v) => k v
 | some (.ret r) => some r
theorem Ok.after {V R : Type} {x : Option (Out V R)} {k : V → Option R} {Q : R → Prop} (h : Ok x fun o => match o with
   | .out v => Ok (k v) Q
   | .ret r => Q r) : Ok (afterL x k) Q := by
 obtain ⟨o, h1, h2⟩ := h
 rw [h1]
 cases o with
 | out v => exact h2
 | ret r => exact ⟨r, rfl, h2⟩
end Go.Fw
namespace Go.Fw
open Go.RowKit
set_option linter.unusedVariables false
variable {T : Nat → Type} {P : Program} {tb : Tab T}
def lpM (m : Nat) (V R : Type) (body : V → Option (Step V R)) (v : V) : Option (Out V R) := loopM m body v
def callL (P : Program) (Y : Sys T tb) (m : Nat) : Nat → Calls' tb
 | 0 => fun _ _ => none
 | n + 1 => fun f args => bif Y.hand f then Y.by' f args else match P.funcs[realF f]? with
  | none => none
  | some fn => evFn ⟨callL P Y m n, lpM m⟩ (Y.fi f) (tb.rk f) (tb.xk f) (tb.nt f) fn args
theorem loopM_le {V R : Type} {b b' : V → Option (Step V R)} (hb : ∀ v s, b v = some s → b' v = some s) : ∀ {m : Nat} {v : V} {o : Out V R}, loopM m b v = some o → loopM m b' v = some o := by
 intro m
 induction m with
 | zero => intro v o h; cases h
 | succ m ih =>
  intro v o h
  unfold loopM at h ⊢
  cases hv : b v with
  | none => rw [hv] at h; cases h
  | some s =>
   rw [hv] at h
   rw [hb v s hv]
   cases s with
   | again v' => exact ih h
   | out v' => exact h
   | ret r => exact h
theorem cps_le {R : Type} {C C' : Calls' tb} (hc : ∀ f args r, C f args = some r → C' f args = some r) (x : SR T tb) {k k' : St T → Option R} (hk : ∀ s r, k s = some r → k' s = some r) {r : R} (h : x.cps C k = some r) : x.cps C' k' = some r := by
 cases x with
 | bad => cases h
 | ok c s => cases c with
  | false => cases h
  | true => exact hk s r h
 | call e f args ks =>
  rw [SR.cps_call] at h ⊢
  cases e with
  | false => exact hk _ r h
  | true =>
   simp only [cond_true] at h ⊢
   cases hf : C f args with
   | none => rw [hf] at h; cases h
   | some y => rw [hf] at h; rw [hc f args y hf]; exact hk _ r h
theorem evOps_le {R : Type} {E E' : Env T tb} (hc : ∀ f args r, E.C f args = some r → E'.C f args = some r) (ops : Array Oper) : ∀ (l : List Oper) (s : St T) {k k' : St T → Option R} {r : R}, (∀ s r, k s = some r → k' s = some r) →
  evOps E ops l s k = some r → evOps E' ops l s k' = some r := by
 intro l
 induction l with
 | nil => intro s k k' r hk h; exact hk s r h
 | cons o l ih =>
  intro s k k' r hk h
  unfold evOps at h ⊢
  exact cps_le hc _ (fun s r h => ih s hk h) h
theorem evD_le {R : Type} {E E' : Env T tb} (hc : ∀ f args r, E.C f args = some r → E'.C f args = some r) (ops : Array Oper) : ∀ (l : List Oper) (n : Nat) (past : List Pst) (s : St T) {k k' : St T → Option R} {r : R}, (∀ s r, k s = some r → k' s = some r) →
  evD E ops n l past s k = some r → evD E' ops n l past s k' = some r := by
 intro l
 induction l with
 | nil => intro n past s k k' r hk h; exact hk s r h
 | cons o l ih =>
  intro n past s k k' r hk h
  unfold evD at h ⊢
  split at h
  ·rename_i hb
   exact cps_le hc _ (fun s r h => ih _ _ s hk h) h
  ·cases h
theorem map_le {α β : Type} {x x' : Option α} {f : α → β} {r : β} (hx : ∀ y, x = some y → x' = some y) (h : x.map f = some r) : x'.map f = some r := by
 cases x with
 | none => cases h
 | some y => rw [hx y rfl]; exact h
theorem ev_le {m : Nat} {C C' : Calls' tb} (hc : ∀ f args r, C f args = some r → C' f args = some r) (fi : Fi) : ∀ (c : Code) {R : Type} (p : Nat) (s : St T) {k k' : Ex → St T → Option R} {r : R}, (∀ e s r, k e s = some r → k' e s = some r) →
  ev ⟨C, lpM m⟩ fi c p s k = some r → ev ⟨C', loopW⟩ fi c p s k' = some r := by
 intro c
 induction c with
 | skip => intro R p s k k' r hk h; exact hk _ _ _ h
 | region id ops draw =>
  intro R p s k k' r hk h
  cases draw with
  | true =>
   unfold ev at h ⊢
   exact evD_le hc ops _ _ _ _ (fun s r h => hk _ _ _ h) h
  | false =>
   unfold ev at h ⊢
   exact evOps_le hc ops _ _ (fun s r h => hk _ _ _ h) h
 | seq x y ihx ihy =>
  intro R p s k k' r hk h
  unfold ev at h ⊢
  refine ihx _ _ (fun e s r h => ?_) h
  cases e with
  | normal => exact ihy _ _ hk h
  | exit i => exact hk _ _ _ h
  | ret => exact hk _ _ _ h
 | cond c x y ihx ihy =>
  intro R p s k k' r hk h
  unfold ev at h ⊢
  cases hjn : jn tb fi.nl c x y with
  | some t =>
   rw [hjn] at h
   simp only at h ⊢
   cases hg : chainV tb fi.nl t (.cond c x y) s with
   | none => rw [hg] at h; cases h
   | some g => rw [hg] at h; exact hk _ _ _ h
  | none =>
  rw [hjn] at h
  simp only at h ⊢
  cases hcc : opv s c with
  | bool t =>
   rw [hcc] at h
   cases t with
   | true => exact ihx _ _ hk h
   | false => exact ihy _ _ hk h
  | _ => rw [hcc] at h; cases h
 | block id c ih =>
  intro R p s k k' r hk h
  unfold ev at h ⊢
  refine ih _ _ (fun e s r h => ?_) h
  cases e with
  | normal => exact hk _ _ _ h
  | exit i =>
   simp only at h ⊢
   split
   ·rename_i hi; rw [if_pos hi] at h; exact hk _ _ _ h
   ·rename_i hi; rw [if_neg hi] at h; exact hk _ _ _ h
  | ret => exact hk _ _ _ h
 | loop c ih =>
  intro R p s k k' r hk h
  unfold ev at h ⊢
  cases hl : lookT fi.tpl p with
  | none => rw [hl] at h; cases h
  | some tp =>
   rw [hl] at h
   simp only at h ⊢
   cases hg : tp.get tb (fitT tb tp (thawNil tb tp s)) with
   | none => rw [hg] at h; cases h
   | some v =>
    rw [hg] at h
    simp only at h ⊢
    generalize hb : (fun v => ev ⟨C, lpM m⟩ fi c (2 * p) (tp.put tb v) fun e s' => match e with
     | .normal => (tp.get tb (fitT tb tp s')).map Step.again
     | .exit i => if i = tp.xid then (tp.get tb (fitT tb tp s')).map .out else none
     | .ret => (k .ret s').map .ret) = body at h
    have hle : ∀ v r, body v = some r → (ev ⟨C', loopW⟩ fi c (2 * p) (tp.put tb v) fun e s' => match e with
     | .normal => (tp.get tb (fitT tb tp s')).map Step.again
     | .exit i => if i = tp.xid then (tp.get tb (fitT tb tp s')).map .out else none
     | .ret => (k' .ret s').map .ret) = some r := by
     intro v r hv
     rw [← hb] at hv
     refine ih _ _ (fun e s r h => ?_) hv
     cases e with
     | normal => exact h
     | exit i => exact h
     | ret => exact map_le (fun y hy => hk _ _ _ hy) h
    cases hlp : lpM m (tp.ty T) R body v with
    | none => rw [hlp] at h; cases h
    | some o =>
     rw [hlp] at h
     have h1 := loopW_some.2 ⟨m, loopM_le hle hlp⟩
     cases o with
     | out v' =>
      exact (congrArg (fun o => (match o with | none => none | some (Out.out v') => k' (Ex.exit tp.xid) (Tpl.put tb tp v') | some (Out.ret r) => some r : Option R)) h1).trans (hk _ _ _ h)
     | ret r' =>
      exact (congrArg (fun o => (match o with | none => none | some (Out.out v') => k' (Ex.exit tp.xid) (Tpl.put tb tp v') | some (Out.ret r) => some r : Option R)) h1).trans h
 | exit id => intro R p s k k' r hk h; exact hk _ _ _ h
 | ret => intro R p s k k' r hk h; exact hk _ _ _ h
 | _ => intro R p s k k' r hk h; cases h
theorem callL_W (Y : Sys T tb) (m : Nat) : ∀ (n f : Nat) (args : List (Val T)) (r : Ret T tb f), callL P Y m n f args = some r → callW P Y f args = some r := by
 intro n
 induction n with
 | zero => intro f args r h; cases h
 | succ n ih =>
  intro f args r h
  unfold callL at h
  cases hh : Y.hand f with
  | true => rw [hh] at h; rw [callW_hand Y hh]; exact h
  | false =>
   rw [hh] at h
   simp only [cond_false] at h
   cases hf : P.funcs[realF f]? with
   | none => rw [hf] at h; cases h
   | some fn =>
    rw [hf] at h
    rw [callW_eq Y hh hf]
    simp only at h
    unfold evFn at h ⊢
    cases hb : fn.body with
    | none => rw [hb] at h; cases h
    | some c =>
     rw [hb] at h
     simp only at h ⊢
     revert h
     split
     ·intro h
      exact ev_le ih (Y.fi f) c 1 _ (fun e s r h => h) h
     ·intro h; cases h
end Go.Fw
namespace Go.Fw
open Go.RowKit
set_option linter.unusedVariables false
variable {T : Nat → Type} {P : Program}
def withG (tb : Tab T) (ifc : Nat → Bool) (gl : Nat) (gok : World → Prop) (gokOk : ∀ w w' : World, (∀ k, k < gl → w'.heap[k]? = w.heap[k]?) → gok w → gok w') : Tab T :=
 { tb with iface := ifc, gl := gl, gok := gok, gokOk := gokOk }
section
variable {tb : Tab T} {ifc : Nat → Bool} {gl : Nat} {gok : World → Prop} {gokOk : ∀ w w' : World, (∀ k, k < gl → w'.heap[k]? = w.heap[k]?) → gok w → gok w'}
theorem Fz.toG {w : World} {N : NS} {V : Val T} {v : Value} (h : Fz tb w N V v) : Fz (withG tb ifc gl gok gokOk) w N V v := by
 induction h with
 | int a => exact .int a
 | bool => exact .bool
 | str a => exact .str a
 | nil => exact .nil
 | ifc a b => exact .ifc a b
 | lst vs h1 h2 h3 h4 h5 h6 _ ih => exact .lst vs h1 h2 h3 h4 h5 h6 ih
 | adr vs h1 h2 _ ih => exact .adr vs h1 h2 ih
 | clo h1 h2 _ _ ih1 ih2 => exact .clo h1 h2 ih1 ih2
 | agg h1 _ ih => exact .agg h1 ih
theorem Fz.ofG {w : World} {N : NS} {V : Val T} {v : Value} (h : Fz (withG tb ifc gl gok gokOk) w N V v) : Fz tb w N V v := by
 induction h with
 | int a => exact .int a
 | bool => exact .bool
 | str a => exact .str a
 | nil => exact .nil
 | ifc a b => exact .ifc a b
 | lst vs h1 h2 h3 h4 h5 h6 _ ih => exact .lst vs h1 h2 h3 h4 h5 h6 ih
 | adr vs h1 h2 _ ih => exact .adr vs h1 h2 ih
 | clo h1 h2 _ _ ih1 ih2 => exact .clo h1 h2 ih1 ih2
 | agg h1 _ ih => exact .agg h1 ih
theorem withG_ok (ok : TabOk P tb) (hi : ∀ t, ifc t = true → ∃ ms, P.underlying t = some (.interface ms)) : TabOk P (withG tb ifc gl gok gokOk) where
 unc := ok.unc
 uncp := ok.uncp
 elem := ok.elem
 has := ok.has
 zero := ok.zero
 fld := ok.fld
 bld := ok.bld
 ikind := ok.ikind
 eqs := ok.eqs
 iface := hi
 isStr := ok.isStr
 arr := ok.arr
 mp := fun t kt vt h => by
  obtain ⟨a, b, c, d⟩ := ok.mp t kt vt h
  refine ⟨a, b, c, ⟨d.und, fun z0 hz => ?_, fun x a em w hl => d.key x a em w fun w N => (hl w N).ofG, fun x k r a b w he h1 h2 => d.eq x k r a b w he (fun w N => (h1 w N).ofG) (fun w N => (h2 w N).ofG)⟩⟩
  obtain ⟨z, h1, h2⟩ := d.zero z0 hz
  exact ⟨z, h1, fun w N => (h2 w N).toG⟩
 flt := ok.flt
 eqS := ok.eqS
 fn := ok.fn
end
theorem contract_hand {tb : Tab T} {f : Nat} {args : List (Val T)} {r : Ret T tb f} (hx : tb.xk f = []) (hp : ∀ V ∈ args, V.pure1 = true)
  (hc : ∀ (w : World) (N : NS) (vargs : Array Value), tb.gl ≤ w.heap.size → tb.gok w → FzL tb w N args vargs.toList →
   Calls P (realF f) vargs w fun e w' => ∃ vs, e = .returned (retV vs) ∧ Below w.heap.size w w' ∧ RetL tb w' N w.heap.size (tb.rk f) r.1 vs) : Contract P tb f args r := by
 intro w N0 X hx' vals es bs vargs hv hl hd m hlen hr
 rw [hx] at hl
 have hes : es = [] := List.eq_nil_of_length_eq_zero hl
 subst hes
 rw [List.append_nil] at hv
 subst hv
 have hz : FzL tb w N0 args vargs.toList := ⟨hlen.symm, fun j V v hV hv => (hr j V v hV hv).pure1 (hp V (List.mem_of_getElem? hV))⟩
 refine (hc w N0 vargs m.gnow.1 m.gnow.2 hz).mono fun e w' he => ?_
 obtain ⟨vs, rfl, hb, hR⟩ := he
 refine ⟨vs, N0, rfl, BelowX.of hb, fun _ _ x => x, fun _ _ x => .inl x, fun b o hb' => Nat.lt_of_lt_of_le (m.nlt b o hb') hb.size, hR, ?_⟩
 exact (show ∀ (l : List XK) (hl : l = []) (x : XTup T l) (j : Nat), XRet tb w' (fun j => hx' (tb.nt f + j)) l x j from fun l hl x j => by subst hl; trivial) _ hx r.2 0
end Go.Fw
