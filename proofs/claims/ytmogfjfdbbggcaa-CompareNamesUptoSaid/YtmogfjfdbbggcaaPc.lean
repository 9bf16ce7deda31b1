/- Plans whose names are changed: the same matches. -/
import Derived.Test.YtmogfjfdbbggcaaPb
set_option linter.unusedVariables false
set_option maxHeartbeats 1000000
set_option maxRecDepth 100000
namespace Go.Fw.S1
open Go.Proofs

def aggP (g : Agg) : Int × Int := (g.f0, g.f1)
def colP (c : Col) : Int := c.f1

/-- a node whose names are changed -/
structure LikeN (a b : Node) : Prop where
  h0 : b.f0 = a.f0
  h1 : b.f1 = a.f1
  h2 : b.f2 = a.f2
  h3 : b.f3 = a.f3
  h4 : b.f4 = a.f4
  h5 : b.f5 = a.f5
  h6 : b.f6 = a.f6
  h7 : b.f7 = a.f7
  h8 : b.f8 = a.f8
  h9 : b.f9 = a.f9
  h10 : b.f10 = a.f10
  h11 : b.f11 = a.f11
  h12 : b.f12 = a.f12
  h13 : b.f13.map aggP = a.f13.map aggP
  h14 : b.f14 = a.f14
  h15 : b.f15.map colP = a.f15.map colP

theorem LikeN.refl (a : Node) : LikeN a a := ⟨rfl, rfl, rfl, rfl, rfl, rfl, rfl, rfl, rfl, rfl, rfl, rfl, rfl, rfl, rfl, rfl⟩

structure LikeP (G : List Go.Fw.S1.Func) (M : List Node) (G' : List Go.Fw.S1.Func) (M' : List Node) : Prop where
  bodies : G'.map (·.f3) = G.map (·.f3)
  len : M'.length = M.length
  nodes : ∀ (i : Nat) (h : i < M.length) (h' : i < M'.length), LikeN M[i] M'[i]

theorem eqf_map {α β : Type} {h : α → β → Bool} {p : α → β} : ∀ {l k k' : List α}, k'.map p = k.map p → eqf (fun a b => h a (p b)) l k' = eqf (fun a b => h a (p b)) l k := by
  intro l
  induction l with
  | nil =>
    intro k k' hk
    cases k <;> cases k' <;> first | rfl | simp at hk
  | cons a l ih =>
    intro k k' hk
    cases k with
    | nil => cases k' with
      | nil => rfl
      | cons b k' => simp at hk
    | cons c k => cases k' with
      | nil => simp at hk
      | cons b k' =>
        simp only [List.map_cons, List.cons.injEq] at hk
        simp only [eqf]
        rw [hk.1, ih hk.2]

theorem bodies_map (fs : List Go.Fw.S1.Func) : bodies fs = (fs.map (·.f3)).foldl (fun bs e => bs ++ [inlE bs e]) [] := by
  unfold bodies
  rw [List.foldl_map]

theorem bodies_like {G G' : List Go.Fw.S1.Func} (h : G'.map (·.f3) = G.map (·.f3)) : bodies G' = bodies G := by
  rw [bodies_map, bodies_map, h]

theorem inlineE_like {G G' : List Go.Fw.S1.Func} (h : G'.map (·.f3) = G.map (·.f3)) (e : Expr) : inlineE G' e = inlineE G e := by
  unfold inlineE
  rw [bodies_like h]

theorem alikeB_like {F G G' : List Go.Fw.S1.Func} (h : G'.map (·.f3) = G.map (·.f3)) (a b : Expr) : alikeB F a G' b = alikeB F a G b := by
  unfold alikeB
  rw [inlineE_like h]

theorem fieldsB_like {F G G' : List Go.Fw.S1.Func} (h : G'.map (·.f3) = G.map (·.f3)) {a b b' : Node} (hb : LikeN b b') : fieldsB F G' a b' = fieldsB F G a b := by
  unfold fieldsB
  rw [hb.h0, hb.h2, hb.h3, hb.h4, hb.h5, hb.h6, hb.h7, hb.h8, hb.h9, hb.h10, hb.h11, hb.h12, hb.h14]
  rw [show eqf aggB a.f13 b'.f13 = eqf aggB a.f13 b.f13 from eqf_map (h := fun (x : Agg) (q : Int × Int) => (bif ((x.f0 == q.1)) then ((x.f1 == q.2)) else false)) (p := aggP) hb.h13]
  rw [show eqf colB a.f15 b'.f15 = eqf colB a.f15 b.f15 from eqf_map (h := fun (x : Col) (q : Int) => (x.f1 == q)) (p := colP) hb.h15]
  rw [show (fun a b => alikeB F a G' b) = (fun a b => alikeB F a G b) from by funext x y; exact alikeB_like h x y]
  rw [show patB F G' = patB F G from by funext x y; unfold patB; rw [alikeB_like h]]

theorem rd47_like {G : List Go.Fw.S1.Func} {M : List Node} {G' : List Go.Fw.S1.Func} {M' : List Node} (h : LikeP G M G' M') (k : Int) : LikeN (rd47 M k) (rd47 M' k) := by
  have e : ∀ l : List Node, rd47 l k = l.getD k.toNat (show Node from tb.dflt 47) := fun l => rfl
  rw [e, e]
  by_cases hk : k.toNat < M.length
  · have hk' : k.toNat < M'.length := by rw [h.len]; exact hk
    rw [List.getD_eq_getElem?_getD, List.getD_eq_getElem?_getD, List.getElem?_eq_getElem hk, List.getElem?_eq_getElem hk']
    exact h.nodes _ hk hk'
  · rw [List.getD_eq_getElem?_getD, List.getD_eq_getElem?_getD, List.getElem?_eq_none (by omega), List.getElem?_eq_none (by have := h.len; omega)]
    exact LikeN.refl _

theorem SB_like {F : List Go.Fw.S1.Func} {N : List Node} {G : List Go.Fw.S1.Func} {M : List Node} {G' : List Go.Fw.S1.Func} {M' : List Node} (h : LikeP G M G' M') : ∀ (n : Nat) (i k : Int), SB F N G' M' n i k = SB F N G M n i k := by
  intro n
  induction n with
  | zero => intro i k; rfl
  | succ n ih =>
    intro i k
    have hl := rd47_like h k
    simp only [SB]
    rw [fieldsB_like h.bodies hl, hl.h1]
    congr 1
    exact eqf_congr fun a _ b => ih a b

theorem sameB_like {F : List Go.Fw.S1.Func} {N : List Node} {G : List Go.Fw.S1.Func} {M : List Node} {G' : List Go.Fw.S1.Func} {M' : List Node} (h : LikeP G M G' M') : sameB F N G' M' = sameB F N G M := by
  funext i k
  exact SB_like h _ i k

theorem ownB_like {b b' : Node} (hb : LikeN b b') : ownB b' = ownB b := by
  unfold ownB boundedB windowB topB joinB matchOpB sizedB blockB
  rw [hb.h0, hb.h5, hb.h6, hb.h7, hb.h10, hb.h11, hb.h12, hb.h14]

theorem stateB_like {F : List Go.Fw.S1.Func} {N : List Node} {G : List Go.Fw.S1.Func} {M : List Node} {G' : List Go.Fw.S1.Func} {M' : List Node} (h : LikeP G M G' M') (i k : Int) : stateB F N G' M' i k = stateB F N G M i k := by
  have hl := rd47_like h k
  unfold stateB stateN
  rw [sameB_like h, hl.h0, hl.h1, hl.h8, hl.h9, ownB_like hl]

theorem matchB_like {F : List Go.Fw.S1.Func} {N : List Node} {G : List Go.Fw.S1.Func} {M : List Node} {G' : List Go.Fw.S1.Func} {M' : List Node} (h : LikeP G M G' M') : matchB F N G' M' = matchB F N G M := by
  funext k
  unfold matchB
  rw [sameB_like h, show (fun i => stateB F N G' M' i (k : Int)) = (fun i => stateB F N G M i (k : Int)) from by funext i; exact stateB_like h i k]

theorem okPl_like {G : List Go.Fw.S1.Func} {M : List Node} {G' : List Go.Fw.S1.Func} {M' : List Node} (h : LikeP G M G' M') (hM : OkPl G M) : OkPl G' M' := by
  have hlen : G'.length = G.length := by simpa using congrArg List.length h.bodies
  have hget : ∀ (i : Nat) (h1 : i < G'.length) (h2 : i < G.length), G'[i].f3 = G[i].f3 := fun i h1 h2 => by
    have := congrArg (·[i]?) h.bodies
    simpa [List.getElem?_map, List.getElem?_eq_getElem h1, List.getElem?_eq_getElem h2] using this
  refine ⟨⟨by have := hM.funcs.len; omega, fun f hf => ?_, fun i hi => ?_⟩, by have := hM.len; have := h.len; omega, fun i hi => ?_⟩
  · obtain ⟨i, hi, rfl⟩ := List.getElem_of_mem hf
    rw [hget i hi (by omega)]
    exact hM.funcs.sz _ (List.getElem_mem (by omega))
  · rw [hget i hi (by omega)]
    exact hM.funcs.calls i (by omega)
  · have hi' : i < M.length := by have := h.len; omega
    have hl := h.nodes i hi' hi
    obtain ⟨a, b⟩ := hM.nodes i hi'
    have l13 : M'[i].f13.length = M[i].f13.length := by simpa using congrArg List.length hl.h13
    have l15 : M'[i].f15.length = M[i].f15.length := by simpa using congrArg List.length hl.h15
    refine ⟨⟨?_, ?_, ?_, ?_, ?_, ?_, ?_, ?_, ?_⟩, ?_⟩
    · rw [hl.h4]; exact fun e he => ⟨(a.exprs e he).sz, by rw [hlen]; exact (a.exprs e he).calls⟩
    · rw [hl.h14]; exact fun p hp => ⟨(a.pats p hp).sz, by rw [hlen]; exact (a.pats p hp).calls⟩
    · rw [hl.h1]; exact a.l1
    · rw [hl.h4]; exact a.l4
    · rw [hl.h8]; exact a.l8
    · rw [hl.h9]; exact a.l9
    · rw [l13]; exact a.l13
    · rw [hl.h14]; exact a.l14
    · rw [l15]; exact a.l15
    · rw [hl.h1]; exact b

end Go.Fw.S1
set_option linter.unusedVariables false
set_option maxHeartbeats 1000000
set_option maxRecDepth 100000
namespace Go.Fw.S1
open Go.Proofs

/-- names of limited size -/
structure SzNm (F : List Go.Fw.S1.Func) (N : List Node) : Prop where
  f : ∀ f, f ∈ F → f.f0.size ≤ 2097152
  a : ∀ a, a ∈ N → ∀ g, g ∈ a.f13 → g.f2.size ≤ 2097152

theorem map_set_same {α β : Type} {p : α → β} {l : List α} {i : Nat} {x : α} (h : i < l.length) (hx : p x = p l[i]) : (l.set i x).map p = l.map p := by
  apply List.ext_getElem (by simp)
  intro j h1 h2
  simp only [List.getElem_map, List.getElem_set]
  split
  · rename_i e; subst e; exact hx
  · rfl

theorem rd50_set {l : List Col} {i : Nat} {x : Col} (h : i < l.length) : rd50 (l.set i x) (i : Int) = x := by
  rw [rd50_get (xs := l.set i x) (i := i) (by simpa using h)]
  simp

theorem byte_ok (x : Int) : decide ((⟨#[122]⟩ : ByteArray).size + (byteStr [x]).size ≤ 9223372036854775807) = true := by
  have : (byteStr [x]).size = 1 := by simp [byteStr, ByteArray.size]
  rw [this]
  rfl

theorem x_ok {s : ByteArray} (h : s.size ≤ 2097152) : decide (s.size + (⟨#[120]⟩ : ByteArray).size ≤ 9223372036854775807) = true := by
  simp only [decide_eq_true_eq]
  show s.size + 1 ≤ _
  omega

theorem w4_ok (h5 : W 5 [] = (some (true, ()) : Option (Bool × Unit))) (F : List Go.Fw.S1.Func) (N : List Node) (G : List Go.Fw.S1.Func) (M : List Node) (hP : SzP F N) (hQ : SzP G M) (hS : SzNm G M) : W 4 [.agg [.lst 42 F, .lst 47 N], .agg [.lst 42 G, .lst 47 M]] = (some (true, ()) : Option (Bool × Unit)) := by
  refine (w4 ⟨F, N⟩ ⟨G, M⟩).trans ?_
  unfold t4
  rw [E0_C, E0_lp]
  refine Ok.eq (Ok.bind ⟨_, h5, rfl⟩ ?_)
  rintro r rfl
  refine Ok.bind (w6_ok F N hP 2) ?_
  rintro ⟨(b : Bool), u⟩ hb
  dsimp only at hb ⊢
  cases b with
  | false =>
    refine Ok.bind (Q := fun _ => True) ⟨_, rfl, trivial⟩ fun r3 _ => ?_
    exact Ok.pure rfl
  | true =>
  have hf := hb rfl
  simp only [Bool.not_true, Bool.not_false, cond_true, cond_false]
  refine Ok.bind (w6_ok G M hQ 2) ?_
  rintro ⟨(b : Bool), u⟩ hb
  dsimp only at hb ⊢
  cases b with
  | false => exact Ok.pure rfl
  | true =>
  have hg := hb rfl
  simp only [Bool.not_true, cond_false]
  have hN := okPl_of hP hf
  have hM := okPl_of hQ hg
  have oN : ∀ (i : Nat) (h : i < N.length), OpIn N[i] := fun i h => (hf.chk i h).op
  have oM : ∀ (i : Nat) (h : i < M.length), OpIn M[i] := fun i h => (hg.chk i h).op
  refine Ok.bind ⟨_, w8_ok hN hM oN oM, rfl⟩ ?_
  rintro r rfl
  dsimp only
  generalize hl : (List.range M.length).map (matchB F N G M) = l
  have hlM := hg.len
  have hll : l.length = M.length := by rw [← hl]; simp
  have hlF := hQ.funcs.len
  refine Ok.after (Ok.range G.length (fun i v => ∃ z, ∃ out : List Go.Fw.S1.Func, out.length = i ∧ out.map (·.f3) = (G.take i).map (·.f3) ∧ v = ((z, true, l, (i : Int), ()), ((F, N, ()), (G, M, ()), (()), [], out, ()))) ?_ ?_ _ ⟨_, [], rfl, rfl, rfl⟩)
  · rintro i v hi ⟨z, out, ho, hmap, rfl⟩
    dsimp only
    simp only [ltb hi, nnb, Bool.and_true, cond_true, rd42_get hi]
    have hs := hS.f _ (List.getElem_mem hi)
    rw [x_ok hs, cond_true]
    rw [room (by simp only [List.length_singleton]; omega), cond_true]
    simp only [wrapK_succ hi (by omega)]
    refine Ok.pure ⟨_, _, ?_, ?_, rfl⟩
    · simp [ho]
    · rw [List.map_append, hmap, take_succ hi, List.map_append]
      simp only [List.map_cons, List.map_nil, Expr.eta]
  · rintro v ⟨z, out, ho, hmap, rfl⟩
    dsimp only
    rw [geb (Nat.le_refl _), cond_false]
    refine Ok.pure ?_
    dsimp only
    rw [List.take_length] at hmap
    refine Ok.after (Ok.range M.length (fun k v => ∃ z, ∃ os : List Node, os.length = k ∧ (∀ j (h : j < M.length) (h' : j < os.length), LikeN M[j] os[j]) ∧ v = ((z, true, l, (G.length : Int), (k : Int), ()), ((F, N, ()), (G, M, ()), (()), os, out, ()))) ?_ ?_ _ ⟨_, [], rfl, (fun j _ h => by simp at h), rfl⟩)
    · rintro k v hk ⟨z, os, hos, hlike, rfl⟩
      dsimp only
      simp only [ltb hk, nnb, Bool.and_true, cond_true, rd47_get hk]
      have ha := hQ.nodes _ (List.getElem_mem hk)
      have hna := hS.a _ (List.getElem_mem hk)
      generalize hae : M[k] = a at ha hna ⊢
      have h15 := ha.c15.len
      have h13 := ha.l13
      rw [room (by simp only [List.length_nil]; omega), cond_true, room (by simp only [List.length_nil]; omega), cond_true]
      simp only [List.nil_append]
      refine Ok.after (Ok.range a.f15.length (fun i v => ∃ z, ∃ cs : List Col, cs.length = a.f15.length ∧ cs.map colP = a.f15.map colP ∧ v = ((z, true, l, (G.length : Int), (k : Int), (i : Int), ()), ((F, N, ()), (G, M, ()), (()), (a.f0, a.f1, a.f2, a.f3, a.f4, a.f5, a.f6, a.f7, a.f8, a.f9, a.f10, a.f11, a.f12, a.f14, ()), os, out, cs, a.f13, ()))) ?_ ?_ _ ⟨_, _, rfl, rfl, rfl⟩)
      · rintro i v hi ⟨z, cs, hcs, hmap2, rfl⟩
        dsimp only
        have hi' : i < cs.length := by omega
        simp only [Int.toNat_natCast, List.length_set, ltb hi', nnb, Bool.and_true, byte_ok, cond_true, rd50_get hi', rd50_set hi', wrapK_succ hi (by omega)]
        refine Ok.pure ⟨_, _, ?_, ?_, rfl⟩
        · simp [hcs]
        · rw [map_set_same (by simpa using hi'), map_set_same hi', hmap2]
          · rfl
          · simp; rfl
      · rintro v ⟨z, cs, hcs, hmap2, rfl⟩
        dsimp only
        rw [hcs, geb (Nat.le_refl _), cond_false]
        refine Ok.pure ?_
        dsimp only
        refine Ok.after (Ok.range a.f13.length (fun i v => ∃ z, ∃ gs : List Agg, gs.length = a.f13.length ∧ gs.map aggP = a.f13.map aggP ∧ (∀ j, i ≤ j → gs[j]? = a.f13[j]?) ∧ v = ((z, true, l, (G.length : Int), (k : Int), (a.f15.length : Int), (i : Int), ()), ((F, N, ()), (G, M, ()), (()), (a.f0, a.f1, a.f2, a.f3, a.f4, a.f5, a.f6, a.f7, a.f8, a.f9, a.f10, a.f11, a.f12, a.f14, ()), os, out, cs, gs, ()))) ?_ ?_ _ ⟨_, _, rfl, rfl, (fun j _ => rfl), rfl⟩)
        · rintro i v hi ⟨z, gs, hgs, hmap3, hrest, rfl⟩
          dsimp only
          have hi' : i < gs.length := by omega
          have e : gs[i] = a.f13[i] := by
            have := hrest i (Nat.le_refl _)
            rw [List.getElem?_eq_getElem hi', List.getElem?_eq_getElem hi] at this
            exact Option.some.inj this
          have hs := hna _ (List.getElem_mem hi)
          rw [← e] at hs
          simp only [Int.toNat_natCast, ltb hi', nnb, Bool.and_true, cond_true, rd52_get hi', x_ok hs, wrapK_succ hi (by omega)]
          refine Ok.pure ⟨_, _, ?_, ?_, ?_, rfl⟩
          · simp [hgs]
          · rw [map_set_same hi', hmap3]
            rfl
          · intro j hj
            rw [List.getElem?_set_ne (by omega)]
            exact hrest j (by omega)
        · rintro v ⟨z, gs, hgs, hmap3, hrest, rfl⟩
          dsimp only
          rw [hgs, geb (Nat.le_refl _), cond_false]
          refine Ok.pure ?_
          dsimp only
          rw [room (by simp only [List.length_singleton]; omega), cond_true]
          simp only [wrapK_succ hk (by omega)]
          refine Ok.pure ⟨_, _, ?_, ?_, rfl⟩
          · simp [hos]
          · intro j h h'
            rcases Nat.lt_or_ge j os.length with hj | hj
            · rw [List.getElem_append_left hj]
              exact hlike j h hj
            · have hjk : j = k := by simp at h'; omega
              subst hjk
              rw [hae, List.getElem_append_right hj]
              simp only [List.getElem_singleton]
              exact ⟨rfl, rfl, rfl, rfl, rfl, rfl, rfl, rfl, rfl, rfl, rfl, rfl, rfl, hmap3, rfl, hmap2⟩
    · rintro v ⟨z, os, hos, hlike, rfl⟩
      dsimp only
      rw [geb (Nat.le_refl _), cond_false]
      refine Ok.pure ?_
      dsimp only
      have hL : LikeP G M out os := ⟨hmap, hos, fun i h h' => hlike i h h'⟩
      have hM' := okPl_like hL hM
      have oM' : ∀ (i : Nat) (h : i < os.length), OpIn os[i] := fun i h => by
        have hi : i < M.length := by omega
        have := hlike i hi h
        obtain ⟨q1, q2⟩ := oM i hi
        exact ⟨by rw [this.h0]; exact q1, by rw [this.h0]; exact q2⟩
      have e : (List.range os.length).map (matchB F N out os) = l := by rw [matchB_like hL, hos, hl]
      simp only [cond_true]
      refine Ok.bind ⟨_, w8_ok hN hM' oN oM', rfl⟩ ?_
      rintro r rfl
      dsimp only
      rw [e]
      refine Ok.bind ⟨_, w11_ok l l (by omega), rfl⟩ ?_
      rintro r rfl
      dsimp only
      rw [eqf_refl matchEq_refl]
      simp only [cond_true]
      refine Ok.bind ⟨_, w10_ok hN hM' oN oM' l e, rfl⟩ ?_
      rintro r rfl
      exact Ok.pure rfl

end Go.Fw.S1
