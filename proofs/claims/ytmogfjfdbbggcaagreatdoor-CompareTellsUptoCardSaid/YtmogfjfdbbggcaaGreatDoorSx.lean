import Derived.Test.YtmogfjfdbbggcaaGreatDoorSc
import Derived.Test.YtmogfjfdbbggcaaGreatDoorFwD
set_option linter.all false
set_option linter.unusedVariables false
set_option maxHeartbeats 1000000
set_option maxRecDepth 100000
namespace Go.Fw.S1
open Go.Proofs
abbrev Disp := (g : Nat) × (Env T tb → List (Val T) → Option (Ret T tb g))
theorem evFn_le {m : Nat} {C C' : Calls' tb} (hc : ∀ f args r, C f args = some r → C' f args = some r) (fi : Fi) (rk : List Knd) (xk : List XK) (nt : Nat) (fn : Go.Func) (args : List (Val T)) {r : Tup T rk × XTup T xk} (h : evFn ⟨C, lpM m⟩ fi rk xk nt fn args = some r) : evFn ⟨C', loopW⟩ fi rk xk nt fn args = some r := by
 unfold evFn at h ⊢
 cases hb : fn.body with
 | none => rw [hb] at h; cases h
 | some c =>
  rw [hb] at h
  simp only at h ⊢
  revert h
  split
  ·intro h
   exact ev_le hc fi c 1 _ (fun e s r h => h) h
  ·intro h; cases h
def Good (p : Disp) : Prop := ∀ (C : Calls' tb), (∀ f args r, C f args = some r → W f args = some r) → ∀ args r, p.2 ⟨C, lpM 60⟩ args = some r → W p.1 args = some r
inductive AllG : List Disp → Prop
 | nil : AllG []
 | cons {p l} : Good p → AllG l → AllG (p :: l)
theorem allG_ok {l : List Disp} (h : AllG l) : ∀ p, p ∈ l → Good p := by
 induction h with
 | nil => intro p hp; cases hp
 | cons hg _ ih =>
  intro p hp
  rcases List.mem_cons.1 hp with rfl | hp
  ·exact hg
  ·exact ih p hp
noncomputable def pickD (E : Env T tb) (f : Nat) (args : List (Val T)) : List Disp → Option (Ret T tb f)
 | [] => none
 | p :: r => if h : p.1 = f then (match (h ▸ p.2 E args : Option (Ret T tb f)) with
  | some x => some x
  | none => pickD E f args r) else pickD E f args r
theorem pickD_ok {C : Calls' tb} (hC : ∀ f args r, C f args = some r → W f args = some r) : ∀ {l : List Disp}, (∀ p, p ∈ l → Good p) → ∀ f args r, pickD ⟨C, lpM 60⟩ f args l = some r → W f args = some r := by
 intro l
 induction l with
 | nil => intro _ f args r h; cases h
 | cons p l ih =>
  intro hl f args r h
  unfold pickD at h
  by_cases hp : p.1 = f
  ·rw [dif_pos hp] at h
   subst hp
   simp only at h
   split at h
   ·rename_i x hx
    cases h
    exact hl p (by simp) C hC args _ hx
   ·exact ih (fun q hq => hl q (by simp [hq])) _ args r h
  ·rw [dif_neg hp] at h
   exact ih (fun q hq => hl q (by simp [hq])) f args r h
structure Cod (X : Type) where
 enc : X → Val T
 dec : Val T → Option X
 ok : ∀ v x, dec v = some x → v = enc x
structure CodL (X : Type) where
 enc : X → List (Val T)
 dec : List (Val T) → Option X
 ok : ∀ v x, dec v = some x → v = enc x
def nl : CodL Unit := ⟨fun _ => [], fun l => match l with | [] => some () | _ => none, fun l x h => by
 cases l with
 | nil => rfl
 | cons => cases h⟩
def cn {A B : Type} (c : Cod A) (d : CodL B) : CodL (A × B) := ⟨fun x => c.enc x.1 :: d.enc x.2, fun l => match l with
 | v :: r => (c.dec v).bind fun a => (d.dec r).bind fun b => some (a, b)
 | [] => none, fun l x h => by
 cases l with
 | nil => cases h
 | cons v r =>
  obtain ⟨a, h1, h⟩ := Option.bind_eq_some_iff.1 h
  obtain ⟨b, h2, h⟩ := Option.bind_eq_some_iff.1 h
  cases h
  rw [c.ok _ _ h1, d.ok _ _ h2]⟩
def ag {X : Type} (c : CodL X) : Cod X := ⟨fun x => .agg (c.enc x), fun v => match v with | .agg l => c.dec l | _ => none, fun v x h => by
 cases v <;> first | (cases h; done) | (rw [c.ok _ _ h])⟩
def tp {X : Type} (c : CodL X) : Cod X := ⟨fun x => .tup (c.enc x), fun v => match v with | .tup l => c.dec l | _ => none, fun v x h => by
 cases v <;> first | (cases h; done) | (rw [c.ok _ _ h])⟩
def cI (k : IntKind) : Cod Int := ⟨fun x => .int k x, fun v => match v with | .int k' n => if k' = k then some n else none | _ => none, fun v x h => by
 cases v with
 | int k' n =>
  simp only at h
  split at h
  ·rename_i hk; cases h; rw [hk]
  ·cases h
 | _ => cases h⟩
def cS : Cod ByteArray := ⟨fun x => .str x, fun v => match v with | .str s => some s | _ => none, fun v x h => by
 cases v <;> first | (cases h; done) | (cases h; rfl)⟩
def cB : Cod Bool := ⟨fun x => .bool x, fun v => match v with | .bool s => some s | _ => none, fun v x h => by
 cases v <;> first | (cases h; done) | (cases h; rfl)⟩
def cL (e : Nat) : Cod (List (T e)) := ⟨fun x => .lst e x, fun v => match v with | .lst e' l => if h : e' = e then some (h ▸ l) else none | _ => none, fun v x h => by
 cases v with
 | lst e' l =>
  simp only at h
  split at h
  ·rename_i hk; subst hk; cases h; rfl
  ·cases h
 | _ => cases h⟩
def cM (k t : Nat) : Cod (List (T k × T t)) := ⟨fun x => .mpv k t x, fun v => match v with | .mpv k' t' l => if h : k' = k ∧ t' = t then some (h.1 ▸ h.2 ▸ l) else none | _ => none, fun v x h => by
 cases v with
 | mpv k' t' l =>
  simp only at h
  split at h
  ·rename_i hk; obtain ⟨rfl, rfl⟩ := hk; cases h; rfl
  ·cases h
 | _ => cases h⟩
def isP : Val T → Nat → Bool
 | .ptr a 0 0, b => Nat.beq a b
 | _, _ => false
theorem isP_ok {v : Val T} {a : Nat} (h : isP v a = true) : v = .ptr a 0 0 := by
 unfold isP at h
 split at h
 ·rw [Nat.eq_of_beq_eq_true h]
 ·cases h
def cP (a : Nat) : Cod Unit := ⟨fun _ => .ptr a 0 0, fun v => bif isP v a then some () else none, fun v x h => by
 cases hp : isP v a with
 | true => exact isP_ok hp
 | false => rw [hp] at h; cases h⟩
def cR (a : Nat) : Cod Unit := ⟨fun _ => .mref a 0, fun v => match v with | .mref b 0 => if b = a then some () else none | _ => none, fun v x h => by
 revert h
 split
 ·split
  ·rename_i hk; intro _; rw [hk]
  ·intro h; cases h
 ·intro h; cases h⟩
def isPs : List (Val T) → List Nat → Bool
 | [], [] => true
 | v :: r, a :: l => isP v a && isPs r l
 | _, _ => false
theorem isPs_ok : ∀ {r : List (Val T)} {l : List Nat}, isPs r l = true → r = l.map fun a => .ptr a 0 0 := by
 intro r
 induction r with
 | nil => intro l h; cases l with | nil => rfl | cons => cases h
 | cons v r ih =>
  intro l h
  cases l with
  | nil => cases h
  | cons a l =>
   simp only [isPs, Bool.and_eq_true] at h
   rw [isP_ok h.1, ih h.2]; rfl
def cC (f : Nat) (l m : List Nat) : Cod Unit := ⟨fun _ => .clo f (l.map fun a => .ptr a 0 0) (m.map fun a => .ptr a 0 0), fun v => match v with
 | .clo g a b => if g = f ∧ isPs a l = true ∧ isPs b m = true then some () else none
 | _ => none, fun v x h => by
 cases v with
 | clo g a b =>
  simp only at h
  split at h
  ·rename_i hk
   rw [hk.1, isPs_ok hk.2.1, isPs_ok hk.2.2]
  ·cases h
 | _ => cases h⟩
def mp {A B : Type} (c : Cod A) (f : A → B) (g : B → A) (h : ∀ a, g (f a) = a) : Cod B := ⟨fun b => c.enc (g b), fun v => (c.dec v).map f, fun v x hx => by
 obtain ⟨a, h1, rfl⟩ := Option.map_eq_some_iff.1 hx
 rw [h, ← c.ok _ _ h1]⟩
noncomputable def dp (f : Nat) {X : Type} (c : CodL X) (t : Env T tb → X → Option (Ret T tb f)) : Disp := ⟨f, fun E args => (c.dec args).bind (t E)⟩
theorem gd {f : Nat} {X : Type} {c : CodL X} {t : Env T tb → X → Option (Ret T tb f)} {fn : Go.Func} (hh : hand f = false) (hf : Tryz.prog.funcs[realF f]? = some fn) (he : ∀ E x, evFn E (fi f) (tb.rk f) (tb.xk f) (tb.nt f) fn (c.enc x) = t E x) : Good (dp f c t) := fun C hC args r h => by
 obtain ⟨x, h1, h2⟩ := Option.bind_eq_some_iff.1 h
 show W f args = some r
 rw [c.ok _ _ h1]
 exact (callW_eq Y0 hh hf _).trans (evFn_le hC _ _ _ _ _ _ ((he ⟨C, lpM 60⟩ x).trans h2))
noncomputable def dv (f : Nat) (fn : Go.Func) : Disp := ⟨f, fun E args => evFn E (fi f) (tb.rk f) (tb.xk f) (tb.nt f) fn args⟩
theorem gv {f : Nat} {fn : Go.Func} (hh : hand f = false) (hf : Tryz.prog.funcs[realF f]? = some fn) : Good (dv f fn) := fun C hC args r h => by
 exact (callW_eq Y0 hh hf _).trans (evFn_le hC _ _ _ _ _ _ h)
theorem g84 : Good ⟨84, fun _ args => of84 args⟩ := fun C hC args r h => (callW_hand Y0 (by rfl) _).trans h
def cAgg : Cod Agg := mp (ag (cn (cI .i64) <| cn (cI .i64) <| cn cS <| nl)) (fun x => ⟨x.1, x.2.1, x.2.2.1⟩) (fun a => (a.f0, a.f1, a.f2, ())) fun a => rfl
def kAgg : Cod Agg := mp (tp (cn (cI .i64) <| cn (cI .i64) <| cn cS <| nl)) (fun x => ⟨x.1, x.2.1, x.2.2.1⟩) (fun a => (a.f0, a.f1, a.f2, ())) fun a => rfl
def cCol : Cod Col := mp (ag (cn cS <| cn (cI .i64) <| cn cS <| nl)) (fun x => ⟨x.1, x.2.1, x.2.2.1⟩) (fun a => (a.f0, a.f1, a.f2, ())) fun a => rfl
def kCol : Cod Col := mp (tp (cn cS <| cn (cI .i64) <| cn cS <| nl)) (fun x => ⟨x.1, x.2.1, x.2.2.1⟩) (fun a => (a.f0, a.f1, a.f2, ())) fun a => rfl
def cExpr : Cod Expr := mp (ag (cn (cI .i64) <| cn (cI .i64) <| cn cS <| cn (cL 49) <| nl)) (fun x => ⟨x.1, x.2.1, x.2.2.1, x.2.2.2.1⟩) (fun a => (a.f0, a.f1, a.f2, a.f3, ())) fun a => rfl
def kExpr : Cod Expr := mp (tp (cn (cI .i64) <| cn (cI .i64) <| cn cS <| cn (cL 49) <| nl)) (fun x => ⟨x.1, x.2.1, x.2.2.1, x.2.2.2.1⟩) (fun a => (a.f0, a.f1, a.f2, a.f3, ())) fun a => rfl
def cMatch : Cod Match := mp (ag (cn (cI .i64) <| cn (cI .i64) <| cn (cI .i64) <| nl)) (fun x => ⟨x.1, x.2.1, x.2.2.1⟩) (fun a => (a.f0, a.f1, a.f2, ())) fun a => rfl
def kMatch : Cod Match := mp (tp (cn (cI .i64) <| cn (cI .i64) <| cn (cI .i64) <| nl)) (fun x => ⟨x.1, x.2.1, x.2.2.1⟩) (fun a => (a.f0, a.f1, a.f2, ())) fun a => rfl
def cNode : Cod Node := mp (ag (cn (cI .i64) <| cn (cL 3) <| cn cS <| cn (cI .i64) <| cn (cL 49) <| cn (cI .i64) <| cn (cI .i64) <| cn (cI .i64) <| cn (cL 3) <| cn (cL 3) <| cn (cI .i64) <| cn (cI .i64) <| cn (cI .i64) <| cn (cL 47) <| cn (cL 103) <| cn (cL 77) <| nl)) (fun x => ⟨x.1, x.2.1, x.2.2.1, x.2.2.2.1, x.2.2.2.2.1, x.2.2.2.2.2.1, x.2.2.2.2.2.2.1, x.2.2.2.2.2.2.2.1, x.2.2.2.2.2.2.2.2.1, x.2.2.2.2.2.2.2.2.2.1, x.2.2.2.2.2.2.2.2.2.2.1, x.2.2.2.2.2.2.2.2.2.2.2.1, x.2.2.2.2.2.2.2.2.2.2.2.2.1, x.2.2.2.2.2.2.2.2.2.2.2.2.2.1, x.2.2.2.2.2.2.2.2.2.2.2.2.2.2.1, x.2.2.2.2.2.2.2.2.2.2.2.2.2.2.2.1⟩) (fun a => (a.f0, a.f1, a.f2, a.f3, a.f4, a.f5, a.f6, a.f7, a.f8, a.f9, a.f10, a.f11, a.f12, a.f13, a.f14, a.f15, ())) fun a => rfl
def kNode : Cod Node := mp (tp (cn (cI .i64) <| cn (cL 3) <| cn cS <| cn (cI .i64) <| cn (cL 49) <| cn (cI .i64) <| cn (cI .i64) <| cn (cI .i64) <| cn (cL 3) <| cn (cL 3) <| cn (cI .i64) <| cn (cI .i64) <| cn (cI .i64) <| cn (cL 47) <| cn (cL 103) <| cn (cL 77) <| nl)) (fun x => ⟨x.1, x.2.1, x.2.2.1, x.2.2.2.1, x.2.2.2.2.1, x.2.2.2.2.2.1, x.2.2.2.2.2.2.1, x.2.2.2.2.2.2.2.1, x.2.2.2.2.2.2.2.2.1, x.2.2.2.2.2.2.2.2.2.1, x.2.2.2.2.2.2.2.2.2.2.1, x.2.2.2.2.2.2.2.2.2.2.2.1, x.2.2.2.2.2.2.2.2.2.2.2.2.1, x.2.2.2.2.2.2.2.2.2.2.2.2.2.1, x.2.2.2.2.2.2.2.2.2.2.2.2.2.2.1, x.2.2.2.2.2.2.2.2.2.2.2.2.2.2.2.1⟩) (fun a => (a.f0, a.f1, a.f2, a.f3, a.f4, a.f5, a.f6, a.f7, a.f8, a.f9, a.f10, a.f11, a.f12, a.f13, a.f14, a.f15, ())) fun a => rfl
def cPat : Cod Pat := mp (ag (cn (cI .i64) <| cn (cI .i64) <| cn cS <| cn (cL 49) <| cn (cI .i64) <| nl)) (fun x => ⟨⟨x.1, x.2.1, x.2.2.1, x.2.2.2.1⟩, x.2.2.2.2.1⟩) (fun a => (a.f0.f0, a.f0.f1, a.f0.f2, a.f0.f3, a.f1, ())) fun a => rfl
def kPat : Cod Pat := mp (tp (cn (cI .i64) <| cn (cI .i64) <| cn cS <| cn (cL 49) <| cn (cI .i64) <| nl)) (fun x => ⟨⟨x.1, x.2.1, x.2.2.1, x.2.2.2.1⟩, x.2.2.2.2.1⟩) (fun a => (a.f0.f0, a.f0.f1, a.f0.f2, a.f0.f3, a.f1, ())) fun a => rfl
def cProgram : Cod Program := mp (ag (cn (cL 100) <| cn (cL 43) <| nl)) (fun x => ⟨x.1, x.2.1⟩) (fun a => (a.f0, a.f1, ())) fun a => rfl
def kProgram : Cod Program := mp (tp (cn (cL 100) <| cn (cL 43) <| nl)) (fun x => ⟨x.1, x.2.1⟩) (fun a => (a.f0, a.f1, ())) fun a => rfl
noncomputable def d4 := dp 4 (nl) fun E x => t4 E
theorem g4 : Good d4 := gd (by rfl) Tryz.func4 fun E x => eq4 E
noncomputable def d6 := dp 6 (cn cProgram <| cn cProgram <| nl) fun E x => t6 E x.1 x.2.1
theorem g6 : Good d6 := gd (by rfl) Tryz.func6 fun E x => eq6 E x.1 x.2.1
noncomputable def d9 := dp 9 (cn cProgram <| cn cProgram <| cn (cL 52) <| nl) fun E x => t9 E x.1 x.2.1 x.2.2.1
theorem g9 : Good d9 := gd (by rfl) Tryz.func9 fun E x => eq9 E x.1 x.2.1 x.2.2.1
noncomputable def d11 := dp 11 (cn cProgram <| cn (cL 52) <| nl) fun E x => t11 E x.1 x.2.1
theorem g11 : Good d11 := gd (by rfl) Tryz.func11 fun E x => eq11 E x.1 x.2.1
noncomputable def d15 := dp 15 (nl) fun E x => t15 E
theorem g15 : Good d15 := gd (by rfl) Tryz.func15 fun E x => eq15 E
noncomputable def d16 := dp 16 (cn (cI .i64) <| cn (cL 47) <| nl) fun E x => t16 E x.1 x.2.1
theorem g16 : Good d16 := gd (by rfl) Tryz.func16 fun E x => eq16 E x.1 x.2.1
noncomputable def d17 := dp 17 (cn cProgram <| nl) fun E x => t17 E x.1
theorem g17 : Good d17 := gd (by rfl) Tryz.func17 fun E x => eq17 E x.1
noncomputable def d2250020 := dp 2250020 (cn (cP 23) <| cn (cC 21 [23] []) <| cn (cI .i64) <| cn (ag (cn (cL 100) <| cn (cL 43) <| cn (cL 100) <| cn (cL 43) <| cn (cR 24) <| nl)) <| cn (cM 80 4) <| nl) fun E x => t2250020 E x.2.2.1 x.2.2.2.1.1 x.2.2.2.1.2.1 x.2.2.2.1.2.2.1 x.2.2.2.1.2.2.2.1 x.2.2.2.2.1
theorem g2250020 : Good d2250020 := gd (by rfl) Tryz.func20 fun E x => eq2250020 E x.2.2.1 x.2.2.2.1.1 x.2.2.2.1.2.1 x.2.2.2.1.2.2.1 x.2.2.2.1.2.2.2.1 x.2.2.2.2.1
noncomputable def d2350020 := dp 2350020 (cn (cP 23) <| cn (cC 22 [23] []) <| cn (cI .i64) <| cn (ag (cn (cL 100) <| cn (cL 43) <| cn (cL 100) <| cn (cL 43) <| cn (cR 24) <| nl)) <| cn (cM 80 4) <| nl) fun E x => t2350020 E x.2.2.1 x.2.2.2.1.1 x.2.2.2.1.2.1 x.2.2.2.1.2.2.1 x.2.2.2.1.2.2.2.1 x.2.2.2.2.1
theorem g2350020 : Good d2350020 := gd (by rfl) Tryz.func20 fun E x => eq2350020 E x.2.2.1 x.2.2.2.1.1 x.2.2.2.1.2.1 x.2.2.2.1.2.2.1 x.2.2.2.1.2.2.2.1 x.2.2.2.2.1
noncomputable def d50021 := dp 50021 (cn (cP 59) <| cn (cI .i64) <| cn (cI .i64) <| cn (ag (cn (cL 100) <| cn (cL 43) <| cn (cL 100) <| cn (cL 43) <| cn (cR 60) <| nl)) <| cn (cM 80 4) <| nl) fun E x => t50021 E x.2.1 x.2.2.1 x.2.2.2.1.1 x.2.2.2.1.2.1 x.2.2.2.1.2.2.1 x.2.2.2.1.2.2.2.1 x.2.2.2.2.1
theorem g50021 : Good d50021 := gd (by rfl) Tryz.func21 fun E x => eq50021 E x.2.1 x.2.2.1 x.2.2.2.1.1 x.2.2.2.1.2.1 x.2.2.2.1.2.2.1 x.2.2.2.1.2.2.2.1 x.2.2.2.2.1
noncomputable def d50022 := dp 50022 (cn (cP 73) <| cn (cI .i64) <| cn (cI .i64) <| cn (ag (cn (cL 100) <| cn (cL 43) <| cn (cL 100) <| cn (cL 43) <| cn (cR 74) <| nl)) <| cn (cM 80 4) <| nl) fun E x => t50022 E x.2.1 x.2.2.1 x.2.2.2.1.1 x.2.2.2.1.2.1 x.2.2.2.1.2.2.1 x.2.2.2.1.2.2.2.1 x.2.2.2.2.1
theorem g50022 : Good d50022 := gd (by rfl) Tryz.func22 fun E x => eq50022 E x.2.1 x.2.2.1 x.2.2.2.1.1 x.2.2.2.1.2.1 x.2.2.2.1.2.2.1 x.2.2.2.1.2.2.2.1 x.2.2.2.2.1
noncomputable def d2750025 := dp 2750025 (cn (cL 52) <| cn (cC 26 [] [9]) <| cn (ag (cn (cI .i64) <| nl)) <| nl) fun E x => t2750025 E x.1 x.2.2.1.1
theorem g2750025 : Good d2750025 := gd (by rfl) Tryz.func25 fun E x => eq2750025 E x.1 x.2.2.1.1
noncomputable def d27 := dp 27 (cn cNode <| nl) fun E x => t27 E x.1
theorem g27 : Good d27 := gd (by rfl) Tryz.func27 fun E x => eq27 E x.1
noncomputable def d41 := dp 41 (cn cProgram <| nl) fun E x => t41 E x.1
theorem g41 : Good d41 := gd (by rfl) Tryz.func41 fun E x => eq41 E x.1
noncomputable def d42 := dp 42 (cn cProgram <| nl) fun E x => t42 E x.1
theorem g42 : Good d42 := gd (by rfl) Tryz.func42 fun E x => eq42 E x.1
noncomputable def d43 := dp 43 (cn cNode <| nl) fun E x => t43 E x.1
theorem g43 : Good d43 := gd (by rfl) Tryz.func43 fun E x => eq43 E x.1
noncomputable def d50045 := dp 50045 (cn (cP 80) <| cn cNode <| cn cNode <| cn (ag (cn (cL 100) <| cn (cL 43) <| cn (cL 100) <| cn (cL 43) <| cn (cR 81) <| nl)) <| cn (cM 80 4) <| nl) fun E x => t50045 E x.2.1 x.2.2.1 x.2.2.2.1.1 x.2.2.2.1.2.1 x.2.2.2.1.2.2.1 x.2.2.2.1.2.2.2.1 x.2.2.2.2.1
theorem g50045 : Good d50045 := gd (by rfl) Tryz.func45 fun E x => eq50045 E x.2.1 x.2.2.1 x.2.2.2.1.1 x.2.2.2.1.2.1 x.2.2.2.1.2.2.1 x.2.2.2.1.2.2.2.1 x.2.2.2.2.1
noncomputable def d50046 := dp 50046 (cn (cP 14) <| cn cNode <| cn cNode <| cn (ag (cn (cL 100) <| cn (cL 43) <| cn (cL 100) <| cn (cL 43) <| cn (cR 15) <| nl)) <| cn (cM 80 4) <| nl) fun E x => t50046 E x.2.1 x.2.2.1 x.2.2.2.1.1 x.2.2.2.1.2.1 x.2.2.2.1.2.2.1 x.2.2.2.1.2.2.2.1 x.2.2.2.2.1
theorem g50046 : Good d50046 := gd (by rfl) Tryz.func46 fun E x => eq50046 E x.2.1 x.2.2.1 x.2.2.2.1.1 x.2.2.2.1.2.1 x.2.2.2.1.2.2.1 x.2.2.2.1.2.2.2.1 x.2.2.2.2.1
noncomputable def d47 := dp 47 (cn cNode <| nl) fun E x => t47 E x.1
theorem g47 : Good d47 := gd (by rfl) Tryz.func47 fun E x => eq47 E x.1
noncomputable def d48 := dp 48 (cn (cL 3) <| cn (cL 3) <| nl) fun E x => t48 E x.1 x.2.1
theorem g48 : Good d48 := gd (by rfl) Tryz.func48 fun E x => eq48 E x.1 x.2.1
noncomputable def d2750053 := dp 2750053 (cn (cL 52) <| cn (cC 26 [] [19]) <| cn (ag (cn (cI .i64) <| nl)) <| nl) fun E x => t2750053 E x.1 x.2.2.1.1
theorem g2750053 : Good d2750053 := gd (by rfl) Tryz.func53 fun E x => eq2750053 E x.1 x.2.2.1.1
noncomputable def d65 := dp 65 (cn cProgram <| nl) fun E x => t65 E x.1
theorem g65 : Good d65 := gd (by rfl) Tryz.func65 fun E x => eq65 E x.1
noncomputable def d67 := dp 67 (cn (cL 77) <| nl) fun E x => t67 E x.1
theorem g67 : Good d67 := gd (by rfl) Tryz.func67 fun E x => eq67 E x.1
noncomputable def d66 := dp 66 (cn (cL 3) <| cn (cL 3) <| nl) fun E x => t66 E x.1 x.2.1
theorem g66 : Good d66 := gd (by rfl) Tryz.func66 fun E x => eq66 E x.1 x.2.1
noncomputable def d68 := dp 68 (cn (cI .i64) <| nl) fun E x => t68 E x.1
theorem g68 : Good d68 := gd (by rfl) Tryz.func68 fun E x => eq68 E x.1
noncomputable def d69 := dp 69 (cn (cI .i64) <| cn (cI .i64) <| cn (cI .i64) <| nl) fun E x => t69 E x.1 x.2.1 x.2.2.1
theorem g69 : Good d69 := gd (by rfl) Tryz.func69 fun E x => eq69 E x.1 x.2.1 x.2.2.1
noncomputable def d71 := dp 71 (cn cExpr <| nl) fun E x => t71 E x.1
theorem g71 : Good d71 := gd (by rfl) Tryz.func71 fun E x => eq71 E x.1
noncomputable def d7650074 := dp 7650074 (cn (cL 49) <| cn (cL 49) <| cn (cC 75 [32] []) <| cn (ag (cn (cL 100) <| cn (cL 43) <| cn (cL 100) <| cn (cL 43) <| cn (cR 33) <| nl)) <| cn (cM 80 4) <| nl) fun E x => t7650074 E x.1 x.2.1 x.2.2.2.1.1 x.2.2.2.1.2.1 x.2.2.2.1.2.2.1 x.2.2.2.1.2.2.2.1 x.2.2.2.2.1
theorem g7650074 : Good d7650074 := gd (by rfl) Tryz.func74 fun E x => eq7650074 E x.1 x.2.1 x.2.2.2.1.1 x.2.2.2.1.2.1 x.2.2.2.1.2.2.1 x.2.2.2.1.2.2.2.1 x.2.2.2.2.1
noncomputable def d7800076 := dp 7800076 (cn (cL 47) <| cn (cL 47) <| cn (cC 77 [] []) <| nl) fun E x => t7800076 E x.1 x.2.1
theorem g7800076 : Good d7800076 := gd (by rfl) Tryz.func76 fun E x => eq7800076 E x.1 x.2.1
noncomputable def d8050078 := dp 8050078 (cn (cL 103) <| cn (cL 103) <| cn (cC 79 [] [32]) <| cn (ag (cn (cP 33) <| nl)) <| cn (ag (cn (cL 100) <| cn (cL 43) <| cn (cL 100) <| cn (cL 43) <| cn (cR 34) <| nl)) <| cn (cM 80 4) <| nl) fun E x => t8050078 E x.1 x.2.1 x.2.2.2.2.1.1 x.2.2.2.2.1.2.1 x.2.2.2.2.1.2.2.1 x.2.2.2.2.1.2.2.2.1 x.2.2.2.2.2.1
theorem g8050078 : Good d8050078 := gd (by rfl) Tryz.func78 fun E x => eq8050078 E x.1 x.2.1 x.2.2.2.2.1.1 x.2.2.2.2.1.2.1 x.2.2.2.2.1.2.2.1 x.2.2.2.2.1.2.2.2.1 x.2.2.2.2.2.1
noncomputable def d8200080 := dp 8200080 (cn (cL 77) <| cn (cL 77) <| cn (cC 81 [] []) <| nl) fun E x => t8200080 E x.1 x.2.1
theorem g8200080 : Good d8200080 := gd (by rfl) Tryz.func80 fun E x => eq8200080 E x.1 x.2.1
noncomputable def d73 := dp 73 (cn cNode <| nl) fun E x => t73 E x.1
theorem g73 : Good d73 := gd (by rfl) Tryz.func73 fun E x => eq73 E x.1
noncomputable def d2250082 := dp 2250082 (cn (cL 3) <| cn (cL 3) <| cn (cC 21 [32] []) <| cn (ag (cn (cL 100) <| cn (cL 43) <| cn (cL 100) <| cn (cL 43) <| cn (cR 33) <| nl)) <| cn (cM 80 4) <| nl) fun E x => t2250082 E x.1 x.2.1 x.2.2.2.1.1 x.2.2.2.1.2.1 x.2.2.2.1.2.2.1 x.2.2.2.1.2.2.2.1 x.2.2.2.2.1
theorem g2250082 : Good d2250082 := gd (by rfl) Tryz.func82 fun E x => eq2250082 E x.1 x.2.1 x.2.2.2.1.1 x.2.2.2.1.2.1 x.2.2.2.1.2.2.1 x.2.2.2.1.2.2.2.1 x.2.2.2.2.1
noncomputable def d83 := dp 83 (cn cNode <| nl) fun E x => t83 E x.1
theorem g83 : Good d83 := gd (by rfl) Tryz.func83 fun E x => eq83 E x.1
noncomputable def d103 := dp 103 (cn cNode <| nl) fun E x => t103 E x.1
theorem g103 : Good d103 := gd (by rfl) Tryz.func103 fun E x => eq103 E x.1
noncomputable def d105 := dp 105 (cn cNode <| nl) fun E x => t105 E x.1
theorem g105 : Good d105 := gd (by rfl) Tryz.func105 fun E x => eq105 E x.1
noncomputable def d110 := dp 110 (cn cNode <| nl) fun E x => t110 E x.1
theorem g110 : Good d110 := gd (by rfl) Tryz.func110 fun E x => eq110 E x.1
noncomputable def d112 := dp 112 (cn cNode <| nl) fun E x => t112 E x.1
theorem g112 : Good d112 := gd (by rfl) Tryz.func112 fun E x => eq112 E x.1
noncomputable def d114 := dp 114 (cn cNode <| nl) fun E x => t114 E x.1
theorem g114 : Good d114 := gd (by rfl) Tryz.func114 fun E x => eq114 E x.1
noncomputable def d50026 := dp 50026 (cn cMatch <| cn (cP 13) <| cn (ag (cn (cI .i64) <| nl)) <| nl) fun E x => t50026 E x.1 x.2.2.1.1
theorem g50026 : Good d50026 := gd (by rfl) Tryz.func26 fun E x => eq50026 E x.1 x.2.2.1.1
noncomputable def d94 := dp 94 (cn (cL 100) <| nl) fun E x => t94 E x.1
theorem g94 : Good d94 := gd (by rfl) Tryz.func94 fun E x => eq94 E x.1
noncomputable def d95 := dp 95 (cn (cI .i64) <| nl) fun E x => t95 E x.1
theorem g95 : Good d95 := gd (by rfl) Tryz.func95 fun E x => eq95 E x.1
noncomputable def d96 := dp 96 (cn cNode <| nl) fun E x => t96 E x.1
theorem g96 : Good d96 := gd (by rfl) Tryz.func96 fun E x => eq96 E x.1
noncomputable def d97 := dp 97 (cn (cL 100) <| cn cNode <| cn (cL 3) <| cn (cL 3) <| nl) fun E x => t97 E x.1 x.2.1 x.2.2.1 x.2.2.2.1
theorem g97 : Good d97 := gd (by rfl) Tryz.func97 fun E x => eq97 E x.1 x.2.1 x.2.2.1 x.2.2.2.1
noncomputable def d98 := dp 98 (cn (cI .i64) <| nl) fun E x => t98 E x.1
theorem g98 : Good d98 := gd (by rfl) Tryz.func98 fun E x => eq98 E x.1
noncomputable def d50075 := dp 50075 (cn (cP 40) <| cn cExpr <| cn cExpr <| cn (ag (cn (cL 100) <| cn (cL 43) <| cn (cL 100) <| cn (cL 43) <| cn (cR 41) <| nl)) <| cn (cM 80 4) <| nl) fun E x => t50075 E x.2.1 x.2.2.1 x.2.2.2.1.1 x.2.2.2.1.2.1 x.2.2.2.1.2.2.1 x.2.2.2.1.2.2.2.1 x.2.2.2.2.1
theorem g50075 : Good d50075 := gd (by rfl) Tryz.func75 fun E x => eq50075 E x.2.1 x.2.2.1 x.2.2.2.1.1 x.2.2.2.1.2.1 x.2.2.2.1.2.2.1 x.2.2.2.1.2.2.2.1 x.2.2.2.2.1
noncomputable def d77 := dp 77 (cn cAgg <| cn cAgg <| nl) fun E x => t77 E x.1 x.2.1
theorem g77 : Good d77 := gd (by rfl) Tryz.func77 fun E x => eq77 E x.1 x.2.1
noncomputable def d50079 := dp 50079 (cn cPat <| cn cPat <| cn (cP 19) <| cn (ag (cn (cP 20) <| nl)) <| cn (ag (cn (cL 100) <| cn (cL 43) <| cn (cL 100) <| cn (cL 43) <| cn (cR 21) <| nl)) <| cn (cM 80 4) <| nl) fun E x => t50079 E x.1 x.2.1 x.2.2.2.2.1.1 x.2.2.2.2.1.2.1 x.2.2.2.2.1.2.2.1 x.2.2.2.2.1.2.2.2.1 x.2.2.2.2.2.1
theorem g50079 : Good d50079 := gd (by rfl) Tryz.func79 fun E x => eq50079 E x.1 x.2.1 x.2.2.2.2.1.1 x.2.2.2.2.1.2.1 x.2.2.2.2.1.2.2.1 x.2.2.2.2.1.2.2.2.1 x.2.2.2.2.2.1
noncomputable def d81 := dp 81 (cn cCol <| cn cCol <| nl) fun E x => t81 E x.1 x.2.1
theorem g81 : Good d81 := gd (by rfl) Tryz.func81 fun E x => eq81 E x.1 x.2.1
noncomputable def d102 := dp 102 (cn cNode <| nl) fun E x => t102 E x.1
theorem g102 : Good d102 := gd (by rfl) Tryz.func102 fun E x => eq102 E x.1
noncomputable def d104 := dp 104 (cn cNode <| nl) fun E x => t104 E x.1
theorem g104 : Good d104 := gd (by rfl) Tryz.func104 fun E x => eq104 E x.1
noncomputable def d106 := dp 106 (cn cNode <| nl) fun E x => t106 E x.1
theorem g106 : Good d106 := gd (by rfl) Tryz.func106 fun E x => eq106 E x.1
noncomputable def d109 := dp 109 (cn cNode <| nl) fun E x => t109 E x.1
theorem g109 : Good d109 := gd (by rfl) Tryz.func109 fun E x => eq109 E x.1
noncomputable def d111 := dp 111 (cn cNode <| nl) fun E x => t111 E x.1
theorem g111 : Good d111 := gd (by rfl) Tryz.func111 fun E x => eq111 E x.1
noncomputable def d113 := dp 113 (cn cNode <| nl) fun E x => t113 E x.1
theorem g113 : Good d113 := gd (by rfl) Tryz.func113 fun E x => eq113 E x.1
noncomputable def d108 := dp 108 (cn (cI .i64) <| cn (cI .i64) <| cn (cI .i64) <| nl) fun E x => t108 E x.1 x.2.1 x.2.2.1
theorem g108 : Good d108 := gd (by rfl) Tryz.func108 fun E x => eq108 E x.1 x.2.1 x.2.2.1
noncomputable def d123 := dp 123 (cn (cI .i64) <| nl) fun E x => t123 E x.1
theorem g123 : Good d123 := gd (by rfl) Tryz.func123 fun E x => eq123 E x.1
noncomputable def d124 := dp 124 (cn (cL 100) <| cn (cL 3) <| cn (cL 3) <| cn cExpr <| nl) fun E x => t124 E x.1 x.2.1 x.2.2.1 x.2.2.2.1
theorem g124 : Good d124 := gd (by rfl) Tryz.func124 fun E x => eq124 E x.1 x.2.1 x.2.2.1 x.2.2.2.1
noncomputable def d125 := dp 125 (cn cS <| nl) fun E x => t125 E x.1
theorem g125 : Good d125 := gd (by rfl) Tryz.func125 fun E x => eq125 E x.1
noncomputable def d126 := dp 126 (cn (cL 77) <| nl) fun E x => t126 E x.1
theorem g126 : Good d126 := gd (by rfl) Tryz.func126 fun E x => eq126 E x.1
noncomputable def d127 := dp 127 (cn (cL 100) <| cn (cL 3) <| cn cExpr <| nl) fun E x => t127 E x.1 x.2.1 x.2.2.1
theorem g127 : Good d127 := gd (by rfl) Tryz.func127 fun E x => eq127 E x.1 x.2.1 x.2.2.1
noncomputable def d128 := dp 128 (cn (cL 100) <| cn (cL 3) <| cn (cL 3) <| cn cExpr <| nl) fun E x => t128 E x.1 x.2.1 x.2.2.1 x.2.2.2.1
theorem g128 : Good d128 := gd (by rfl) Tryz.func128 fun E x => eq128 E x.1 x.2.1 x.2.2.1 x.2.2.2.1
noncomputable def d129 := dp 129 (cn (cL 3) <| cn (cL 3) <| nl) fun E x => t129 E x.1 x.2.1
theorem g129 : Good d129 := gd (by rfl) Tryz.func129 fun E x => eq129 E x.1 x.2.1
noncomputable def d130 := dp 130 (cn (cL 3) <| cn (cL 3) <| nl) fun E x => t130 E x.1 x.2.1
theorem g130 : Good d130 := gd (by rfl) Tryz.func130 fun E x => eq130 E x.1 x.2.1
noncomputable def d100 := dp 100 (cn (cL 100) <| cn cExpr <| nl) fun E x => t100 E x.1 x.2.1
theorem g100 : Good d100 := gd (by rfl) Tryz.func100 fun E x => eq100 E x.1 x.2.1
noncomputable def d101 := dp 101 (cn cExpr <| cn cExpr <| nl) fun E x => t101 E x.1 x.2.1
theorem g101 : Good d101 := gd (by rfl) Tryz.func101 fun E x => eq101 E x.1 x.2.1
noncomputable def d107 := dp 107 (cn cNode <| nl) fun E x => t107 E x.1
theorem g107 : Good d107 := gd (by rfl) Tryz.func107 fun E x => eq107 E x.1
noncomputable def d145 := dp 145 (cn (cL 100) <| cn (cL 3) <| cn (cL 3) <| cn cExpr <| nl) fun E x => t145 E x.1 x.2.1 x.2.2.1 x.2.2.2.1
theorem g145 : Good d145 := gd (by rfl) Tryz.func145 fun E x => eq145 E x.1 x.2.1 x.2.2.1 x.2.2.2.1
noncomputable def d146 := dp 146 (cn cS <| nl) fun E x => t146 E x.1
theorem g146 : Good d146 := gd (by rfl) Tryz.func146 fun E x => eq146 E x.1
noncomputable def d147 := dp 147 (cn (cL 77) <| cn cS <| nl) fun E x => t147 E x.1 x.2.1
theorem g147 : Good d147 := gd (by rfl) Tryz.func147 fun E x => eq147 E x.1 x.2.1
noncomputable def d148 := dp 148 (cn (cI .i64) <| nl) fun E x => t148 E x.1
theorem g148 : Good d148 := gd (by rfl) Tryz.func148 fun E x => eq148 E x.1
noncomputable def d131 := dp 131 (cn cExpr <| cn (cL 152) <| nl) fun E x => t131 E x.1 x.2.1
theorem g131 : Good d131 := gd (by rfl) Tryz.func131 fun E x => eq131 E x.1 x.2.1
noncomputable def d132 := dp 132 (cn cExpr <| nl) fun E x => t132 E x.1
theorem g132 : Good d132 := gd (by rfl) Tryz.func132 fun E x => eq132 E x.1
noncomputable def d10200074 := dp 10200074 (cn (cL 49) <| cn (cL 49) <| cn (cC 101 [] []) <| nl) fun E x => t10200074 E x.1 x.2.1
theorem g10200074 : Good d10200074 := gd (by rfl) Tryz.func74 fun E x => eq10200074 E x.1 x.2.1
noncomputable def d161 := dp 161 (cn (cL 100) <| cn (cI .i64) <| cn (cL 3) <| nl) fun E x => t161 E x.1 x.2.1 x.2.2.1
theorem g161 : Good d161 := gd (by rfl) Tryz.func161 fun E x => eq161 E x.1 x.2.1 x.2.2.1
noncomputable def d162 := dp 162 (cn (cI .i64) <| nl) fun E x => t162 E x.1
theorem g162 : Good d162 := gd (by rfl) Tryz.func162 fun E x => eq162 E x.1
noncomputable def d163 := dp 163 (cn (cL 3) <| cn (cI .i64) <| nl) fun E x => t163 E x.1 x.2.1
theorem g163 : Good d163 := gd (by rfl) Tryz.func163 fun E x => eq163 E x.1 x.2.1
noncomputable def d164 := dp 164 (cn cS <| nl) fun E x => t164 E x.1
theorem g164 : Good d164 := gd (by rfl) Tryz.func164 fun E x => eq164 E x.1
noncomputable def d149 := dp 149 (cn cExpr <| cn (cI .i64) <| cn (cL 49) <| nl) fun E x => t149 E x.1 x.2.1 x.2.2.1
theorem g149 : Good d149 := gd (by rfl) Tryz.func149 fun E x => eq149 E x.1 x.2.1 x.2.2.1
noncomputable def d15250150 := dp 15250150 (cn cExpr <| cn (cC 151 [] [20]) <| cn (tp (cn (cI .i64) <| nl)) <| nl) fun E x => t15250150 E x.1 x.2.2.1.1
theorem g15250150 : Good d15250150 := gd (by rfl) Tryz.func150 fun E x => eq15250150 E x.1 x.2.2.1.1
noncomputable def d165 := dp 165 (cn cExpr <| nl) fun E x => t165 E x.1
theorem g165 : Good d165 := gd (by rfl) Tryz.func165 fun E x => eq165 E x.1
noncomputable def d50151 := dp 50151 (cn cExpr <| cn (cP 5) <| cn (tp (cn (cI .i64) <| nl)) <| nl) fun E x => t50151 E x.1 x.2.2.1.1
theorem g50151 : Good d50151 := gd (by rfl) Tryz.func151 fun E x => eq50151 E x.1 x.2.2.1.1
noncomputable def ds : List Disp := [⟨84, fun _ args => of84 args⟩, d4, d6, d9, d11, d15, d16, d17, d2250020, d2350020, d50021, d50022, d2750025, d27, d41, d42, d43, d50045, d50046, d47, d48, d2750053, d65, d67, d66, d68, d69, d71, d7650074, d7800076, d8050078, d8200080, d73, d2250082, d83, d103, d105, d110, d112, d114, d50026, d94, d95, d96, d97, d98, d50075, d77, d50079, d81, d102, d104, d106, d109, d111, d113, d108, d123, d124, d125, d126, d127, d128, d129, d130, d100, d101, d107, d145, d146, d147, d148, d131, d132, d10200074, d161, d162, d163, d164, d149, d15250150, d165, d50151, dv 6 Tryz.f6, dv 11 Tryz.f11, dv 9 Tryz.f9, dv 17 Tryz.f17, dv 41 Tryz.f41, dv 42 Tryz.f42, dv 65 Tryz.f65]
theorem ds_ok : ∀ p, p ∈ ds → Good p := allG_ok <| .cons (g84) <| .cons (g4) <| .cons (g6) <| .cons (g9) <| .cons (g11) <| .cons (g15) <| .cons (g16) <| .cons (g17) <| .cons (g2250020) <| .cons (g2350020) <| .cons (g50021) <| .cons (g50022) <| .cons (g2750025) <| .cons (g27) <| .cons (g41) <| .cons (g42) <| .cons (g43) <| .cons (g50045) <| .cons (g50046) <| .cons (g47) <| .cons (g48) <| .cons (g2750053) <| .cons (g65) <| .cons (g67) <| .cons (g66) <| .cons (g68) <| .cons (g69) <| .cons (g71) <| .cons (g7650074) <| .cons (g7800076) <| .cons (g8050078) <| .cons (g8200080) <| .cons (g73) <| .cons (g2250082) <| .cons (g83) <| .cons (g103) <| .cons (g105) <| .cons (g110) <| .cons (g112) <| .cons (g114) <| .cons (g50026) <| .cons (g94) <| .cons (g95) <| .cons (g96) <| .cons (g97) <| .cons (g98) <| .cons (g50075) <| .cons (g77) <| .cons (g50079) <| .cons (g81) <| .cons (g102) <| .cons (g104) <| .cons (g106) <| .cons (g109) <| .cons (g111) <| .cons (g113) <| .cons (g108) <| .cons (g123) <| .cons (g124) <| .cons (g125) <| .cons (g126) <| .cons (g127) <| .cons (g128) <| .cons (g129) <| .cons (g130) <| .cons (g100) <| .cons (g101) <| .cons (g107) <| .cons (g145) <| .cons (g146) <| .cons (g147) <| .cons (g148) <| .cons (g131) <| .cons (g132) <| .cons (g10200074) <| .cons (g161) <| .cons (g162) <| .cons (g163) <| .cons (g164) <| .cons (g149) <| .cons (g15250150) <| .cons (g165) <| .cons (g50151) <| .cons (gv (by rfl) Tryz.func6) <| .cons (gv (by rfl) Tryz.func11) <| .cons (gv (by rfl) Tryz.func9) <| .cons (gv (by rfl) Tryz.func17) <| .cons (gv (by rfl) Tryz.func41) <| .cons (gv (by rfl) Tryz.func42) <| .cons (gv (by rfl) Tryz.func65) <| .nil
end Go.Fw.S1
set_option linter.unusedVariables false
set_option maxHeartbeats 0
set_option maxRecDepth 100000
namespace Go.Fw.S1
open Go.Proofs
noncomputable def CB : Nat → Calls' tb
 | 0 => fun _ _ => none
 | n + 1 => fun f args => pickD ⟨CB n, lpM 60⟩ f args ds
theorem CB_ok : ∀ (n f : Nat) (args : List (Val T)) (r : Ret T tb f), CB n f args = some r → W f args = some r := by
 intro n
 induction n with
 | zero => intro f args r h; cases h
 | succ n ih => intro f args r h; exact pickD_ok ih ds_ok f args r h
theorem w4_small : W 4 [] = (some (true, ()) : Option (Bool × Unit)) := CB_ok 40 4 [] _ (by kernel_rfl)
end Go.Fw.S1
