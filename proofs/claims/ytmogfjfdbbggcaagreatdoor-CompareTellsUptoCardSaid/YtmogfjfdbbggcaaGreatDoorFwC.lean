import Derived.Test.YtmogfjfdbbggcaaGreatDoorFwB
import Derived.LoopN
import Derived.Orders
set_option linter.all false
namespace Go.Fw
open Go.RowKit
set_option linter.unusedVariables false
set_option linter.unusedSimpArgs false
variable {T : Nat → Type} {P : Program} {tb : Tab T} {w0 : Base} {w : World} {N0 N : NS} {h : Nat → Value} {ob : List (Obj' T)}
def ResRep (tb : Tab T) (w : World) (N : NS) (B : Nat) : (k : Knd) → k.ty T → Value → Prop
 | .int k, n, v => Fz tb w N (.int k n) v
 | .bool, b, v => Fz tb w N (.bool b) v
 | .ifc, b, v => Fz tb w N (.ifc b) v
 | .str, s, v => Fz tb w N (.str s) v
 | .lst e, xs, v => Fz tb w N (.lst e xs) v
 | .agg t, x, v => Fz tb w N (.agg (tb.cells t x)) v
 | .fresh e, xs, v => (∃ t, tb.elem t = some e) ∧ ∃ cvs, w.ownsRow 0 e (tb.size e) v xs.length cvs ∧ FzL tb w N (flat tb e xs) cvs ∧ ∀ g, blk v = some g → B ≤ g ∧ ∀ o, ¬ N g o
 | .fbox t, x, v => ∃ g e, ∃ cv : Array Value, v = .pointer (some ⟨g, 0, none⟩) ∧ w.heap[g]? = some (.cells cv e (0, 0)) ∧ cv.size = (tb.cells t x).length ∧ (∀ (j : Nat) V, (tb.cells t x)[j]? = some V → Fz tb w N V (cv.getD j undef)) ∧ B ≤ g ∧ ∀ o, ¬ N g o
def RetL (tb : Tab T) (w : World) (N : NS) (B : Nat) : (l : List Knd) → Tup T l → List Value → Prop
 | [], _, vs => vs = []
 | k :: [], x, vs => ∃ v, vs = [v] ∧ ResRep tb w N B k x v
 | k :: l :: r, (x, y), vs => ∃ v us, vs = v :: us ∧ ResRep tb w N B k x v ∧ RetL tb w N B (l :: r) y us
def retV : List Value → Value
 | [v] => v
 | vs => .tuple vs.toArray
def BoxRep (tb : Tab T) (w : World) (hv : Value) (t : Nat) (x : T t) : Prop :=
 ∃ b e, ∃ cv : Array Value, hv = .pointer (some ⟨b, 0, none⟩) ∧ w.heap[b]? = some (.cells cv e (0, 0)) ∧ cv.size = (tb.cells t x).length ∧ ∀ (j : Nat) V, (tb.cells t x)[j]? = some V → ∀ (w : World) (N : NS), Fz tb w N V (cv.getD j undef)
def XRet (tb : Tab T) (w : World) (hv : Nat → Value) : (l : List XK) → XTup T l → Nat → Prop
 | [], _, _ => True
 | .cst :: l, x, j => XRet tb w hv l x (j + 1)
 | .box t :: l, x, j => BoxRep tb w (hv j) t x.1 ∧ XRet tb w hv l x.2 (j + 1)
 | .mp kt vt :: l, x, j => MapRep tb w (hv j) kt vt x.1 ∧ XRet tb w hv l x.2 (j + 1)
def AnsOk (tb : Tab T) (w : World) (N0 : NS) (X : Nat → Prop) (hx : Nat → Value) (n : Nat) (l : List Knd) (lx : List XK) (r : Tup T l × XTup T lx) : Ending → World → Prop
 | .returned v, w' => ∃ vs, ∃ N1 : NS, v = retV vs ∧ BelowX X w.heap.size w w' ∧ (∀ b o, N0 b o → N1 b o) ∧ (∀ b o, N1 b o → N0 b o ∨ w.heap.size ≤ b) ∧ (∀ b o, N1 b o → b < w'.heap.size) ∧ RetL tb w' N1 w.heap.size l r.1 vs ∧ XRet tb w' (fun j => hx (n + j)) lx r.2 0
 | _, _ => False
def Contract (P : Program) (tb : Tab T) (f : Nat) (args : List (Val T)) (r : Ret T tb f) : Prop :=
 ∀ (w : World) (N0 : NS) (X : Nat → Prop) (hx : Nat → Value) (vals es : List (Val T)) (bs : List (Body T)) (vargs : Array Value), args = vals ++ es → es.length = (tb.xk f).length → decL es = some bs →
  Mem tb ⟨w, X, tb.nt f, hx⟩ w N0 N0 hx (obX (tb.nt f) bs) → vals.length = vargs.toList.length →
  (∀ (j : Nat) V v, vals[j]? = some V → vargs.toList[j]? = some v → Rep tb w N0 hx (obX (tb.nt f) bs) V v) →
  Calls P (realF f) vargs w (AnsOk tb w N0 X hx (tb.nt f) (tb.rk f) (tb.xk f) r)
def SoundC (P : Program) (tb : Tab T) (C : (f : Nat) → List (Val T) → Option (Ret T tb f)) : Prop :=
 ∀ f args r, C f args = some r → Contract P tb f args r
theorem Mem.later (m : Mem tb w0 w N0 N h ob) {X : Nat → Prop} {w' : World} {N1 : NS} {ob' : List (Obj' T)} (hb : BelowX X w.heap.size w w') (hXN : ∀ b o, N b o → ¬ X b) (h1 : ∀ b o, N b o → N1 b o) (h2 : ∀ b o, N1 b o → N b o ∨ w.heap.size ≤ b) (h3 : ∀ b o, N1 b o → b < w'.heap.size)
  (hX0 : ∀ b, X b → b < w0.w.heap.size → w0.X b)
  (hob : ∀ k, (getO ob' k = getO ob k ∧ (mutb (getO ob k).body = true → ∀ b, blk (h k) = some b → ¬ X b)) ∨
   ((getO ob' k).ver = (getO ob k).ver ∧ sameKind (getO ob k).body (getO ob' k).body ∧ mutb (getO ob k).body = true ∧ isRow (getO ob k).body = false ∧ isRow (getO ob' k).body = false ∧ lim tb (getO ob k).body = 0 ∧ BodyRep tb w' N1 h ob' (h k) (getO ob' k).body)) :
  Mem tb w0 w' N0 N1 h ob' ∧ Kept w w' N ∧ Turn ob ob' h h := by
 have hw : Kept w w' N := Kept.blocks hb.size fun b o hbN => hb.block b (m.nlt b o hbN) (hXN b o hbN)
 have ht : Turn ob ob' h h := fun k => by
  rcases hob k with ⟨h1, _⟩ | ⟨h1, h2, _⟩
  ·rw [h1]; exact Turn.refl ob h k
  ·exact ⟨Nat.le_of_eq h1.symm, fun _ => .inr ⟨h2, rfl⟩⟩
 have hmb : ∀ k, mutb (getO ob' k).body = true → mutb (getO ob k).body = true := fun k hm => by
  rcases hob k with ⟨h1, _⟩ | ⟨_, _, h3, _⟩
  ·rw [← h1]; exact hm
  ·exact h3
 refine ⟨⟨m.below.trans (hb.mono m.below.size (fun b hbl hx => hX0 b hx hbl)), h3, fun b o hb => h1 b o (m.n0 b o hb), fun b o hb => ?_, fun k => ?_, fun k b hm hk => ?_, fun k k' b hne hm hm' => m.dist k k' b hne (hmb k hm) (hmb k' hm'), fun k hk => ?_, m.glob⟩, hw, ht⟩
 ·rcases h2 b o hb with h | h
  ·exact m.n1 b o h
  ·exact .inr (Nat.le_trans m.below.size h)
 ·rcases hob k with ⟨e1, e2⟩ | ⟨_, _, _, _, _, _, e3⟩
  ·rw [e1]
   exact (m.objs k).mono hw (fun b hm hk => hb.block b (m.live k b hm hk).2.2 (e2 hm b hk)) h1 ht
  ·exact e3
 ·obtain ⟨a, b2, c⟩ := m.live k b (hmb k hm) hk
  refine ⟨?_, fun o ho hN => ?_, Nat.lt_of_lt_of_le c hb.size⟩
  ·exact a
  ·rcases h2 b o hN with h | h
   ·refine b2 o ?_ h
    rcases hob k with ⟨e1, _⟩ | ⟨_, _, _, _, _, e6, _⟩
    ·rw [e1] at ho; exact ho
    ·rw [e6]; exact Nat.zero_le _
   ·omega
 ·obtain ⟨e1, e2, e3⟩ := m.ext k hk
  refine ⟨e1, ?_, ?_⟩
  ·rcases hob k with ⟨q, _⟩ | ⟨q, _⟩
   ·rw [q]; exact e2
   ·rw [q]; exact e2
  ·rcases hob k with ⟨q, _⟩ | ⟨_, _, _, _, q, _⟩
   ·rw [q]; exact e3
   ·exact q
theorem Mem.later0 (m : Mem tb w0 w N0 N h ob) {w' : World} {N1 : NS} (hb : BelowX (fun _ => False) w.heap.size w w') (h1 : ∀ b o, N b o → N1 b o) (h2 : ∀ b o, N1 b o → N b o ∨ w.heap.size ≤ b) (h3 : ∀ b o, N1 b o → b < w'.heap.size) : Mem tb w0 w' N0 N1 h ob :=
 (m.later hb (fun _ _ _ hx => hx) h1 h2 h3 (fun _ hx => hx.elim) (fun k => .inl ⟨rfl, fun _ _ _ hx => hx⟩)).1
theorem RetL.flat_fz {N1 : NS} {B : Nat} : ∀ (l : List Knd) (r : Tup T l) (vs : List Value), allFlat l = true → RetL tb w N1 B l r vs → ∀ (w' : World) (N' : NS), RetL tb w' N' B l r vs := by
 have one : ∀ (k : Knd) (x : k.ty T) (v : Value), k.flat = true → ResRep tb w N1 B k x v → ∀ (w' : World) (N' : NS), ResRep tb w' N' B k x v := by
  intro k x v hk hr w' N'
  cases k with
  | int k => simp only [ResRep] at hr ⊢; cases hr with | int a => exact .int a
  | bool => simp only [ResRep] at hr ⊢; cases hr; exact .bool
  | ifc => simp only [ResRep] at hr ⊢; cases hr with | ifc a b => exact .ifc a b
  | str => simp only [ResRep] at hr ⊢; cases hr with | str a => exact .str a
  | _ => cases hk
 intro l
 induction l with
 | nil => intro r vs _ hr w' N'; exact hr
 | cons k l ih =>
  intro r vs hf hr w' N'
  simp only [allFlat, Bool.and_eq_true] at hf
  cases l with
  | nil =>
   obtain ⟨v, rfl, h1⟩ := hr
   exact ⟨v, rfl, one k r v hf.1 h1 w' N'⟩
  | cons l r' =>
   obtain ⟨x, y⟩ := r
   obtain ⟨v, us, rfl, h1, h2⟩ := hr
   exact ⟨v, us, rfl, one k x v hf.1 h1 w' N', ih y us hf.2 h2 w' N'⟩
theorem opv_rep (ok : True) {s : St T} {a : Act} (hs : ∀ t, Rep tb w N h ob (s.get t) (a.tmps.getD t undef)) (x : Operand) : Rep tb w N h ob (opv s x) (a.eval x) := by
 cases x with
 | tmp t => exact hs t
 | const v =>
  simp only [opv, Act.eval]
  cases v with
  | int k n =>
   simp only [constV]
   split
   ·rename_i hw; exact .fz (.int hw)
   ·exact .junk
  | bool b => exact .fz .bool
  | string s =>
   simp only [constV]
   split
   ·rename_i hw; exact .fz (.str (Nat.le_of_ble_eq_true hw))
   ·exact .junk
  | slice A n c =>
   cases A with
   | none =>
    cases n with
    | zero =>
     cases c with
     | zero => exact .fz .nil
     | succ c => exact .junk
    | succ n => exact .junk
   | some A => exact .junk
  | nilIface => exact .fz (.ifc (fun _ => rfl) (fun h => by cases h))
  | _ => exact .junk
 | global g => exact .junk
 | func f => exact .fz (.clo rfl rfl (fun j V hV => by simp at hV) (fun j V hV => by simp at hV))
theorem unG_none_not (V : Val T) (t : Nat) (w' e : Bool) (v : Val T) : unG none V ≠ .cnd t w' e v := by
 cases V <;> simp [unG]
theorem unG_none_rep {V : Val T} {v : Value} (hr : Rep tb w N h ob V v) : Rep tb w N h ob (unG none V) v := by
 cases V with
 | cnd t w' e V => exact .junk
 | _ => exact hr
theorem get_set (s : St T) (d t : Nat) (V : Val T) (ob : List (Obj' T)) (gs : List Nat) : (⟨s.sl.set d V, ob, gs⟩ : St T).get t = if d = t ∧ d < s.sl.length then V else s.get t := by
 unfold St.get
 simp only [List.getD_eq_getElem?_getD, List.getElem?_set]
 by_cases h : d = t
 ·subst h
  by_cases hl : d < s.sl.length
  ·simp [hl]
  ·simp [hl]
 ·simp [h]
def Rel (tb : Tab T) (w0 : Base) (N0 : NS) (s : St T) (a : Act) (w : World) : Prop := ∃ N h, Inv tb w0 N0 N h s a w
theorem Inv.put {s : St T} {a : Act} (inv : Inv tb w0 N0 N h s a w) {w' : World} {N' : NS} {h' : Nat → Value} {ob' : List (Obj' T)} (m' : Mem tb w0 w' N0 N' h' ob') (hw : Kept w w' N) (hN : ∀ b o, N b o → N' b o) (ht : Turn s.ob ob' h h')
  {dst : Option Nat} {V : Val T} {u : Value} (hV : Rep tb w' N' h' ob' V u) {gs' : List Nat} (hg : ∀ t, t ∈ s.gs → t ∈ gs') (hd : ∀ d, dst = some d → d ∉ s.gs)
  (hc : ∀ t wt e v, V = .cnd t wt e v → t ∈ gs' ∧ condE s t wt = some e ∧ dst ≠ some t) {s' : St T} (hs' : s' = setSl ⟨s.sl, s.ob, gs'⟩ dst V ob') : Inv tb w0 N0 N' h' s' (a.put dst u) w' := by
 have hold : ∀ t, Rep tb w' N' h' ob' (s.get t) (a.tmps.getD t undef) := fun t => (inv.slots t).mono hw hN ht
 cases dst with
 | none =>
  subst hs'
  exact ⟨m', inv.dfr, inv.sz, inv.nn, hold, fun x t wt e V' hx => by
   obtain ⟨h1, h2⟩ := inv.cnds x t wt e V' hx
   exact ⟨hg t h1, h2⟩⟩
 | some d =>
  subst hs'
  have hget := get_set ⟨s.sl, s.ob, gs'⟩ d
  refine ⟨m', inv.dfr, by simp [Act.put, setSl, inv.sz], by simpa [setSl] using inv.nn, fun t => ?_, fun x t wt e V' hx => ?_⟩
  ·simp only [setSl]
   rw [hget t V ob' gs']
   simp only [Act.put]
   by_cases hdt : d = t
   ·subst hdt
    by_cases hl : d < s.sl.length
    ·rw [if_pos ⟨rfl, hl⟩]
     have hl' : d < a.tmps.size := by rw [inv.sz]; exact hl
     simp [Array.getD_eq_getD_getElem?, hl']
     exact hV
    ·rw [if_neg (fun hh => hl hh.2)]
     have : (⟨s.sl, s.ob, gs'⟩ : St T).get d = .junk := by
      unfold St.get
      rw [List.getD_eq_getElem?_getD, List.getElem?_eq_none (by simpa using hl)]
      rfl
     rw [this]
     exact .junk
   ·rw [if_neg (fun hh => hdt hh.1)]
    have : (a.tmps.setIfInBounds d u).getD t undef = a.tmps.getD t undef := by
     simp [Array.getD_eq_getD_getElem?, Array.getElem?_setIfInBounds_ne hdt]
    rw [this]
    exact hold t
  ·simp only [setSl] at hx ⊢
   rw [hget x V ob' gs'] at hx
   have hce : ∀ t, t ≠ d → ∀ wt, condE (⟨s.sl.set d V, ob', gs'⟩ : St T) t wt = condE s t wt := fun t htd wt => by
    unfold condE
    rw [hget t V ob' gs', if_neg (fun hh => htd hh.1.symm)]
    rfl
   by_cases hdx : d = x ∧ d < s.sl.length
   ·rw [if_pos hdx] at hx
    obtain ⟨h1, h2, h3⟩ := hc t wt e V' hx
    exact ⟨h1, by rw [hce t (fun hh => h3 (by rw [hh]))]; exact h2⟩
   ·rw [if_neg hdx] at hx
    obtain ⟨h1, h2⟩ := inv.cnds x t wt e V' hx
    exact ⟨hg t h1, by rw [hce t (fun hh => hd d rfl (hh ▸ h1))]; exact h2⟩
end Go.Fw
namespace Go.Fw
open Go.RowKit
set_option linter.unusedVariables false
set_option linter.unusedSimpArgs false
variable {T : Nat → Type} {P : Program} {tb : Tab T} {w0 : Base} {w : World} {N0 N : NS} {h : Nat → Value} {ob : List (Obj' T)}
theorem quiet_ob {ρ ρ0 : Operand → Val T} {d : Nat} {op : Op} {ty : Nat} {c : Bool} {V : Val T} {ob' : List (Obj' T)} (hq : quietOp op = true) (he : evOp tb ρ ρ0 ob d op ty = .ok c V ob') : ob' = ob := by
  cases op with
  | call cl =>
    obtain ⟨callee, args, argTypes⟩ := cl
    cases callee with
    | builtin b =>
      cases b <;> simp [quietOp] at hq <;> simp only [evOp] at he <;> revert he <;> repeat' split
      all_goals (intro he; cases he; try rfl)
    | _ => simp [quietOp] at hq
  | pick c x y => cases c <;> simp only [evOp] at he <;> revert he <;> repeat' split
                  all_goals (intro he; cases he; try rfl)
  | unOp u t x => cases u <;> simp only [evOp] at he <;> revert he <;> repeat' split
                  all_goals (intro he; cases he; try rfl)
  | makeFunc fn a b => cases fn <;> simp only [evOp] at he <;> revert he <;> repeat' split
                       all_goals (intro he; cases he; try rfl)
  | _ =>
    first
      | (simp [quietOp] at hq; done)
      | (simp only [evOp] at he; revert he; (repeat' split) <;> (intro he; cases he; try rfl))
theorem quietG_ob {ρ ρ0 : Operand → Val T} {d : Nat} {op : Op} {ty : Nat} {c : Bool} {V : Val T} {ob' : List (Obj' T)} (hq : quietG ρ op = true) (he : evOp tb ρ ρ0 ob d op ty = .ok c V ob') : ob' = ob := by
  unfold quietG at hq
  rw [Bool.or_eq_true] at hq
  rcases hq with hq | hq
  · exact quiet_ob hq he
  · cases op with
    | slice t x lo hi mx =>
      unfold slcQ at hq
      cases mx with
      | some _ => cases he
      | none =>
        cases hx : ρ x with
        | lst e xs =>
          simp only [evOp, hx, frz1, Val.pure1, if_true] at he
          revert he
          repeat' split
          all_goals first
            | (intro he; cases he; done)
            | (intro he; simp only [OpR.ok.injEq] at he; obtain ⟨_, _, rfl⟩ := he; rename_i hh _ _ _ _; simp at hh; done)
            | skip
          all_goals (intro he; simp_all)
        | str b =>
          simp only [evOp, hx, frz1, Val.pure1, if_true] at he
          revert he
          repeat' split
          all_goals (intro he; simp_all)
        | _ => simp [hx] at hq
    | _ => cases hq
theorem guard_wanted {s : St T} {a : Act} (hs : ∀ t, Rep tb w N h ob (s.get t) (a.tmps.getD t undef)) {ops : Array Oper} {o : Oper} :
    (guardOf ops s o = .free → Region.wanted o (yielded ops a.tmps) = true) ∧
    (∀ t wt e, guardOf ops s o = .on t wt e → Region.wanted o (yielded ops a.tmps) = e ∧ condE s t wt = some e) := by
  unfold guardOf Region.wanted
  cases hg : o.guard with
  | none => exact ⟨fun _ => rfl, fun t wt e hh => by cases hh⟩
  | some jw =>
    obtain ⟨j, wt⟩ := jw
    simp only
    cases hd : (ops[j]?).bind (·.dst) with
    | none => exact ⟨(fun hh => by cases hh), fun t wt e hh => by cases hh⟩
    | some t =>
      simp only
      have hst := hs t
      have hy : ∀ b, a.tmps.getD t undef = .bool b → yielded ops a.tmps j = some b := fun b hb => by
        unfold yielded
        rw [hd]
        simp only [Option.bind_some]
        rw [Array.getD_eq_getD_getElem?] at hb
        cases hx : a.tmps[t]? with
        | none => rw [hx] at hb; simp [undef] at hb
        | some v => rw [hx] at hb; simp at hb; subst hb; rfl
      have hn : a.tmps.getD t undef = undef → yielded ops a.tmps j = none := fun hb => by
        unfold yielded
        rw [hd]
        simp only [Option.bind_some]
        rw [Array.getD_eq_getD_getElem?] at hb
        cases hx : a.tmps[t]? with
        | none => rfl
        | some v => rw [hx] at hb; simp at hb; subst hb; rfl
      cases hV : s.get t with
      | bool g =>
        simp only
        refine ⟨(fun hh => by cases hh), fun t' wt' e hh => ?_⟩
        simp only [Gd.on.injEq] at hh
        obtain ⟨rfl, rfl, rfl⟩ := hh
        rw [hV] at hst
        rw [hy g hst.bool_inv]
        refine ⟨by cases g <;> cases wt <;> rfl, by (simp only [condE, hV]) <;> (cases wt <;> rfl)⟩
      | cnd t2 w2 e2 V2 =>
        cases V2 with
        | bool g =>
          simp only
          refine ⟨(fun hh => by cases hh), fun t' wt' e hh => ?_⟩
          simp only [Gd.on.injEq] at hh
          obtain ⟨rfl, rfl, rfl⟩ := hh
          rw [hV] at hst
          refine ⟨?_, by (simp only [condE, hV]) <;> (cases wt <;> rfl)⟩
          cases hst with
          | fz hz => cases hz
          | cnd h1 h2 =>
            cases e2 with
            | true => rw [hy g (h1 rfl).bool_inv]; cases g <;> cases wt <;> rfl
            | false => rw [hn (h2 rfl)]; rfl
        | _ => exact ⟨(fun hh => by cases hh), fun t wt e hh => by cases hh⟩
      | _ => exact ⟨(fun hh => by cases hh), fun t wt e hh => by cases hh⟩
theorem unG_rep {s : St T} {a : Act} (inv : Inv tb w0 N0 N h s a w) {t : Nat} {wt : Bool} (hc : condE s t wt = some true) (x : Operand) : Rep tb w N h s.ob (unG (some (t, wt)) (opv s x)) (a.eval x) := by
  have hx := opv_rep trivial inv.slots x
  cases hV : opv s x with
  | cnd t' w' e V =>
    rw [hV] at hx
    simp only [unG]
    split
    · rename_i ht
      subst ht
      split
      · rename_i hw
        subst hw
        cases x with
        | tmp y =>
          have := (inv.cnds y t' w' e V hV).2
          rw [hc] at this
          simp only [Option.some.injEq] at this
          subst this
          cases hx with
          | fz hz => cases hz
          | cnd h1 _ => exact h1 rfl
        | const v => simp only [opv] at hV; unfold constV at hV; revert hV; repeat' split
                     all_goals (intro hV; cases hV)
        | global g => cases hV
        | func f => cases hV
      · exact .junk
    · exact .junk
  | _ => rw [hV] at hx; exact hx
theorem opv_cnd {s : St T} {x : Operand} {t : Nat} {wt e : Bool} {V : Val T} (hV : opv s x = .cnd t wt e V) : ∃ y, x = .tmp y ∧ s.get y = .cnd t wt e V := by
  cases x with
  | tmp y => exact ⟨y, rfl, hV⟩
  | const v => simp only [opv] at hV; unfold constV at hV; revert hV; repeat' split
               all_goals (intro hV; cases hV)
  | global g => cases hV
  | func f => cases hV
theorem pick_cond {s : St T} {a : Act} (inv : Inv tb w0 N0 N h s a w) {g : Option (Nat × Bool)} (hg : ∀ t wt, g = some (t, wt) → condE s t wt = some true) (x : Operand) (t : Nat) (wt e : Bool) (V : Val T) (b : Bool)
    (hx : opv s x = .cnd t wt e V) (hb : unG g (opv s (.tmp t)) = .bool b) (hbw : b = wt) : e = true := by
  obtain ⟨y, rfl, hy⟩ := opv_cnd hx
  have hc := (inv.cnds y t wt e V hy).2
  simp only [opv] at hb
  unfold condE at hc
  cases hV : s.get t with
  | bool g' =>
    rw [hV] at hb hc
    simp only [unG, Val.bool.injEq] at hb
    subst hb; subst hbw
    simp only [Option.some.injEq] at hc
    rw [← hc]
    cases g' <;> rfl
  | cnd t2 w2 e2 V2 =>
    rw [hV] at hb hc
    cases g with
    | none => simp [unG] at hb
    | some p =>
      obtain ⟨t', w'⟩ := p
      simp only [unG] at hb
      split at hb
      · rename_i ht
        subst ht
        split at hb
        · rename_i hw
          subst hw
          have h2 := hg t2 w2 rfl
          have h3 := (inv.cnds t t2 w2 e2 V2 hV).2
          rw [h2] at h3
          simp only [Option.some.injEq] at h3
          subst h3
          subst hb; subst hbw
          simp only [Option.some.injEq] at hc
          rw [← hc]
          cases b <;> rfl
        · cases hb
      · cases hb
  | _ => rw [hV] at hb hc; simp [unG] at hb
end Go.Fw
namespace Go.Fw
open Go.RowKit
set_option linter.unusedVariables false
set_option linter.unusedSimpArgs false
variable {T : Nat → Type} {P : Program} {tb : Tab T} {w0 : Base} {w : World} {N0 N : NS} {h : Nat → Value} {ob : List (Obj' T)}
theorem ResRep.rep {N1 : NS} {B key ver : Nat} {k : Knd} {x : k.ty T} {v : Value} (hf : k.isFresh = false) (hr : ResRep tb w N1 B k x v) : Rep tb w N1 h ob (k.val tb key ver x) v := by
 cases k with
 | fresh e => cases hf
 | fbox t => cases hf
 | _ => exact .fz hr
theorem Tup.row_none : ∀ (l : List Knd) (r : Tup T l), Tup.row tb l r = none → oneFresh l = 0 := by
 have one : ∀ (k : Knd) (x : k.ty T), k.row tb x = none → k.isFresh = false := by
  intro k x hk
  cases k <;> simp [Knd.row] at hk <;> rfl
 intro l
 induction l with
 | nil => intro r _; rfl
 | cons k l ih =>
  intro r hr
  cases l with
  | nil =>
   simp only [Tup.row] at hr
   simp [oneFresh, one k r hr]
  | cons l r' =>
   obtain ⟨x, y⟩ := r
   simp only [Tup.row] at hr
   cases hk : k.row tb x with
   | none =>
    rw [hk] at hr
    have := ih y hr
    simp [oneFresh] at this ⊢
    simp [one k x hk, this]
   | some b => rw [hk] at hr; cases hr
theorem vals_rep {N1 : NS} {B key ver : Nat} : ∀ (l : List Knd) (r : Tup T l) (vs : List Value), RetL tb w N1 B l r vs → oneFresh l = 0 → vs.length = l.length ∧ (Tup.vals tb key ver l r).length = l.length ∧
  ∀ (j : Nat) V v, (Tup.vals tb key ver l r)[j]? = some V → vs[j]? = some v → Rep tb w N1 h ob V v := by
 intro l
 induction l with
 | nil => intro r vs hr _; simp only [RetL] at hr; subst hr; exact ⟨rfl, rfl, fun j V v hV => by simp [Tup.vals] at hV⟩
 | cons k l ih =>
  intro r vs hr hf
  simp only [oneFresh] at hf
  have hkf : k.isFresh = false := by cases hk : k.isFresh with | false => rfl | true => rw [hk] at hf; simp at hf
  cases l with
  | nil =>
   obtain ⟨v, rfl, h1⟩ := hr
   refine ⟨rfl, rfl, fun j V u hV hu => ?_⟩
   cases j with
   | zero => simp [Tup.vals] at hV hu; subst hV; subst hu; exact h1.rep hkf
   | succ j => simp at hu
  | cons l r' =>
   obtain ⟨x, y⟩ := r
   obtain ⟨v, us, rfl, h1, h2⟩ := hr
   obtain ⟨i1, i2, i3⟩ := ih y us h2 (by omega)
   refine ⟨by simp [i1], by simp [Tup.vals, i2], fun j V u hV hu => ?_⟩
   cases j with
   | zero => simp [Tup.vals] at hV hu; subst hV; subst hu; exact h1.rep hkf
   | succ j => exact i3 j V u (by simpa [Tup.vals] using hV) (by simpa using hu)
structure Adopt (tb : Tab T) (w : World) (N1 : NS) (B : Nat) (bd : Body T) (v : Value) : Prop where
 mutb : mutb bd = true
 lim : lim tb bd = 0
 rep : ∀ (h : Nat → Value) (ob : List (Obj' T)), BodyRep tb w N1 h ob v bd
 blk : ∀ g, blk v = some g → B ≤ g ∧ (∀ o, ¬ N1 g o) ∧ g < w.heap.size
theorem ResRep.adopt {N1 : NS} {B : Nat} {bd : Body T} {k : Knd} {x : k.ty T} {v : Value} (hr : ResRep tb w N1 B k x v) (hk : k.row tb x = some bd) :
  Adopt tb w N1 B bd v ∧ k.isFresh = true ∧ ∀ (key ver : Nat) (h : Nat → Value) (ob : List (Obj' T)), getO ob key = ⟨ver, bd⟩ → h key = v → Rep tb w N1 h ob (k.val tb key ver x) v := by
 cases k with
 | fresh e =>
  simp only [Knd.row, Option.some.injEq] at hk
  subst hk
  obtain ⟨ht, cvs, a, b, c⟩ := hr
  refine ⟨⟨rfl, rfl, fun h ob => ⟨ht, ⟨cvs, a, b⟩, fun hh => by cases hh⟩, fun g hg => ⟨(c g hg).1, (c g hg).2, (a.lt g (by rw [← ownsRow_blk a]; exact hg)).2⟩⟩, rfl, fun key ver h ob ho hv => ?_⟩
  exact .own (by rw [ho]; exact Nat.le_refl _) (by rcases a.2 with ⟨rfl, _⟩ | ⟨g, cap, cur, rfl, _⟩ <;> exact ⟨_, _, _, rfl⟩) (fun fz e' xs' _ => hv.symm)
 | fbox t =>
  simp only [Knd.row, Option.some.injEq] at hk
  subst hk
  obtain ⟨g, e, cv, rfl, a, b, c, d, f⟩ := hr
  refine ⟨⟨rfl, rfl, fun h ob => ⟨g, e, cv, rfl, a, b, fun j V hV => .fz (c j V hV)⟩, fun g' hg => ?_⟩, rfl, fun key ver h ob ho hv => ?_⟩
  ·simp only [Fw.blk, Option.some.injEq] at hg
   subst hg
   exact ⟨d, f, (Array.getElem?_eq_some_iff.1 a).1⟩
  ·exact .ptr (by rw [ho]; exact Nat.le_refl _) ⟨_, rfl⟩ (fun fz cs _ => ⟨g, hv, rfl⟩)
 | _ => simp [Knd.row] at hk
theorem vals_row {N1 : NS} {B : Nat} {bd : Body T} : ∀ (l : List Knd) (r : Tup T l) (vs : List Value), RetL tb w N1 B l r vs → oneFresh l ≤ 1 → Tup.row tb l r = some bd → ∃ v, Adopt tb w N1 B bd v ∧
  ∀ (key ver : Nat), vs.length = l.length ∧ (Tup.vals tb key ver l r).length = l.length ∧ ∀ (h : Nat → Value) (ob : List (Obj' T)), getO ob key = ⟨ver, bd⟩ → h key = v → ∀ (j : Nat) V u, (Tup.vals tb key ver l r)[j]? = some V → vs[j]? = some u → Rep tb w N1 h ob V u := by
 intro l
 induction l with
 | nil => intro r vs hr _ hb; cases hb
 | cons k l ih =>
  intro r vs hr hf hb
  simp only [oneFresh] at hf
  cases l with
  | nil =>
   obtain ⟨v, rfl, h1⟩ := hr
   simp only [Tup.row] at hb
   obtain ⟨a, b, c⟩ := h1.adopt hb
   refine ⟨v, a, fun key ver => ⟨rfl, rfl, fun h ob ho hv j V u hV hu => ?_⟩⟩
   cases j with
   | zero => simp [Tup.vals] at hV hu; subst hV; subst hu; exact c key ver h ob ho hv
   | succ j => simp at hu
  | cons l r' =>
   obtain ⟨x, y⟩ := r
   obtain ⟨v, us, rfl, h1, h2⟩ := hr
   simp only [Tup.row] at hb
   cases hk : k.row tb x with
   | some b =>
    rw [hk] at hb
    simp only [Option.some.injEq] at hb
    subst hb
    obtain ⟨a, b', c⟩ := h1.adopt hk
    rw [b'] at hf
    simp only [if_true] at hf
    refine ⟨v, a, fun key ver => ?_⟩
    obtain ⟨i1, i2, _⟩ := vals_rep (h := fun _ => undef) (ob := []) (key := key) (ver := ver) (l :: r') y us h2 (by omega)
    refine ⟨by simp [i1], by simp [Tup.vals, i2], fun h ob ho hv j V u hV hu => ?_⟩
    obtain ⟨_, _, i3⟩ := vals_rep (h := h) (ob := ob) (key := key) (ver := ver) (l :: r') y us h2 (by omega)
    cases j with
    | zero => simp [Tup.vals] at hV hu; subst hV; subst hu; exact c key ver h ob ho hv
    | succ j => exact i3 j V u (by simpa [Tup.vals] using hV) (by simpa using hu)
   | none =>
    rw [hk] at hb
    simp only at hb
    have hkf : k.isFresh = false := by cases k <;> simp [Knd.row] at hk <;> rfl
    rw [hkf] at hf
    obtain ⟨v', a, i⟩ := ih y us h2 (by simpa using hf) hb
    refine ⟨v', a, fun key ver => ?_⟩
    obtain ⟨i1, i2, i3⟩ := i key ver
    refine ⟨by simp [i1], by simp [Tup.vals, i2], fun h ob ho hv j V u hV hu => ?_⟩
    cases j with
    | zero => simp [Tup.vals] at hV hu; subst hV; subst hu; exact h1.rep hkf
    | succ j => exact i3 h ob ho hv j V u (by simpa [Tup.vals] using hV) (by simpa using hu)
theorem retV_rep {Vs : List (Val T)} {vs : List Value} (hl : vs.length = Vs.length) (hr : ∀ (j : Nat) V v, Vs[j]? = some V → vs[j]? = some v → Rep tb w N h ob V v) : Rep tb w N h ob (oneV Vs) (retV vs) := by
 match Vs, vs, hl with
 | [V], [v], _ => exact hr 0 V v rfl rfl
 | [], [], _ => exact .tup rfl (fun j V hV => by simp at hV)
 | V1 :: V2 :: Vs, v1 :: v2 :: vs, hl =>
  refine .tup (by simpa using hl) (fun j V hV => ?_)
  have hlt : j < (v1 :: v2 :: vs).length := by rw [hl]; exact (List.getElem?_eq_some_iff.1 hV).1
  refine hr j V _ hV ?_
  simp [Array.getD_eq_getD_getElem?, List.getElem?_eq_getElem hlt]
end Go.Fw
namespace Go.Fw
open Go.RowKit
set_option linter.unusedVariables false
set_option linter.unusedSimpArgs false
variable {T : Nat → Type} {P : Program} {tb : Tab T} {w0 : Base} {w : World} {N0 N : NS} {h : Nat → Value} {ob : List (Obj' T)}
def Shape (tb : Tab T) (ob : List (Obj' T)) (k : Nat) : XK → Prop
 | .cst => True
 | .box t => ∃ ver cs x0, getO ob k = ⟨ver, .box false cs⟩ ∧ tb.unc t cs = some x0 ∧ tb.flt t = true
 | .mp kt vt => ∃ ver kvs, getO ob k = ⟨ver, .mp kt vt kvs⟩ ∧ tb.flt kt = true ∧ tb.flt vt = true
theorem encB_shape {L0 : List Nat} {nb k : Nat} {x : XK} {v : Val T} (he : encB tb ob L0 nb k x = some v) : Shape tb ob k x := by
 cases hk : getO ob k with
 | mk ver bd =>
  cases x with
  | cst => trivial
  | box t =>
   simp only [encB] at he
   rw [hk] at he
   cases bd with
   | box fz cs =>
    cases fz with
    | true => cases he
    | false =>
     simp only at he
     revert he
     split
     ·rename_i x0 cs' h1 h2 h3
      intro _
      exact ⟨ver, cs, x0, hk, h2, h1⟩
     ·intro he; cases he
   | _ => cases he
  | mp kt vt =>
   simp only [encB] at he
   rw [hk] at he
   cases bd with
   | mp kt' vt' kvs =>
    simp only at he
    revert he
    split
    ·rename_i hh
     obtain ⟨rfl, rfl⟩ := hh
     split
     ·rename_i h1 h2
      intro _
      exact ⟨ver, kvs, hk, h1, h2⟩
     ·intro he; cases he
    ·intro he; cases he
   | _ => cases he
theorem Shape.set {k k' : Nat} {y : XK} {X : Obj' T} (hs : Shape tb ob k' y) (hne : k ≠ k') : Shape tb (ob.set k X) k' y := by
 cases y with
 | cst => trivial
 | box t => simp only [Shape] at hs ⊢; rw [getO_set_ne hne]; exact hs
 | mp kt vt => simp only [Shape] at hs ⊢; rw [getO_set_ne hne]; exact hs
theorem box_typed (ok : TabOk P tb) {hv : Value} {t : Nat} {x : T t} {w' : World} (hr : BoxRep tb w' hv t x) (N1 : NS) (h : Nat → Value) (ob : List (Obj' T)) : BodyRep tb w' N1 h ob hv (.box false (tb.cells t x)) := by
 obtain ⟨b, e, cv, h1, h2, h3, h4⟩ := hr
 exact ⟨b, e, cv, h1, h2, h3, fun j V hV => .fz (h4 j V hV _ _)⟩
theorem box_same (ok : TabOk P tb) {hv : Value} {t : Nat} {x : T t} {cs : List (Val T)} {w' : World} {N1 : NS} (hu : tb.unc t cs = some x) (hf : tb.flt t = true) (hr : BodyRep tb w' N1 h ob hv (.box false cs)) : BoxRep tb w' hv t x := by
 obtain ⟨b, e, cv, h1, h2, h3, h4⟩ := hr
 have hc := (ok.unc t cs x hu).flat (cells_flat ok hf x)
 refine ⟨b, e, cv, h1, h2, by rw [h3, hc], fun j V hV w N => ?_⟩
 rw [← hc] at hV
 exact flat1_any (cells_flat ok hf x V (by rw [← hc]; exact List.mem_of_getElem? hV)) (h4 j V hV) w N
theorem outX_get (ok : TabOk P tb) {e : Bool} {w' : World} {N1 : NS} {hv hv0 : Nat → Value} : ∀ (l : List XK) (x : XTup T l) (L : List Nat) (ob : List (Obj' T)) (j0 : Nat), L.Nodup → (∀ (i : Nat) y k, l[i]? = some y → L[i]? = some k → Shape tb ob k y) → L.length = l.length →
  (e = true → XRet tb w' hv l x j0) → (∀ (i : Nat) k, L[i]? = some k → hv (j0 + i) = h k) → (e = false → ∀ k ∈ L, ∃ h ob', BodyRep tb w' N1 h ob' (hv0 k) (getO ob k).body) → (e = false → ∀ k ∈ L, hv0 k = h k) →
  (outX tb e l x L ob).length = ob.length ∧ ∀ k, (getO (outX tb e l x L ob) k = getO ob k ∧ ¬ mutL l L k) ∨
   (mutL l L k ∧ (getO (outX tb e l x L ob) k).ver = (getO ob k).ver ∧ sameKind (getO ob k).body (getO (outX tb e l x L ob) k).body ∧ isRow (getO (outX tb e l x L ob) k).body = false ∧
    ∀ (h' : Nat → Value) (ob'' : List (Obj' T)), BodyRep tb w' N1 h' ob'' (h k) (getO (outX tb e l x L ob) k).body) := by
 intro l
 induction l with
 | nil =>
  intro x L ob j0 hL hs hl he hh ho ho'
  have : L = [] := List.eq_nil_of_length_eq_zero hl
  subst this
  exact ⟨rfl, fun k => .inl ⟨rfl, fun ⟨i, y, hi, _⟩ => by simp at hi⟩⟩
 | cons y l ih =>
  intro x L ob j0 hL hs hl he hh ho ho'
  cases L with
  | nil => simp at hl
  | cons k L =>
   have hkL : k ∉ L := (List.nodup_cons.1 hL).1
   have hLn := (List.nodup_cons.1 hL).2
   have hk0 : hv j0 = h k := by simpa using hh 0 k rfl
   have hmut : ∀ k', k' ≠ k → (mutL (y :: l) (k :: L) k' ↔ mutL l L k') := by
    intro k' hne
    constructor
    ·rintro ⟨i, z, hi, hz, hzn⟩
     cases i with
     | zero => simp at hi; exact absurd hi.symm hne
     | succ i => exact ⟨i, z, by simpa using hi, by simpa using hz, hzn⟩
    ·rintro ⟨i, z, hi, hz, hzn⟩
     exact ⟨i + 1, z, by simpa using hi, by simpa using hz, hzn⟩
   have hmk : mutL (y :: l) (k :: L) k ↔ y ≠ .cst := by
    constructor
    ·rintro ⟨i, z, hi, hz, hzn⟩
     cases i with
     | zero => simp at hz; subst hz; exact hzn
     | succ i => exact absurd (List.mem_of_getElem? (by simpa using hi)) hkL
    ·intro hy; exact ⟨0, y, rfl, rfl, hy⟩
   have hnk : ¬ mutL l L k := fun ⟨i, z, hi, _⟩ => hkL (List.mem_of_getElem? hi)
   -- one object changes, then the rest
   have step : ∀ (ver : Nat) (bd bd' : Body T) (x' : XTup T l), getO ob k = ⟨ver, bd⟩ → sameKind bd bd' → isRow bd' = false → (∀ (h' : Nat → Value) (ob'' : List (Obj' T)), BodyRep tb w' N1 h' ob'' (h k) bd') → y ≠ .cst → (e = true → XRet tb w' hv l x' (j0 + 1)) →
     (outX tb e l x' L (ob.set k ⟨ver, bd'⟩)).length = ob.length ∧ ∀ k', (getO (outX tb e l x' L (ob.set k ⟨ver, bd'⟩)) k' = getO ob k' ∧ ¬ mutL (y :: l) (k :: L) k') ∨
      (mutL (y :: l) (k :: L) k' ∧ (getO (outX tb e l x' L (ob.set k ⟨ver, bd'⟩)) k').ver = (getO ob k').ver ∧ sameKind (getO ob k').body (getO (outX tb e l x' L (ob.set k ⟨ver, bd'⟩)) k').body ∧ isRow (getO (outX tb e l x' L (ob.set k ⟨ver, bd'⟩)) k').body = false ∧
       ∀ (h' : Nat → Value) (ob'' : List (Obj' T)), BodyRep tb w' N1 h' ob'' (h k') (getO (outX tb e l x' L (ob.set k ⟨ver, bd'⟩)) k').body) := by
    intro ver bd bd' x' hg hsk hir hbr hy hx'
    have hlt : k < ob.length := getO_lt hg (by rintro rfl; exact hsk.elim)
    have hset : ∀ k' ∈ L, getO (ob.set k ⟨ver, bd'⟩) k' = getO ob k' := fun k' hk' => getO_set_ne (fun hh => hkL (hh ▸ hk'))
    obtain ⟨i1, i2⟩ := ih x' L (ob.set k ⟨ver, bd'⟩) (j0 + 1) hLn (fun i z k' hz hk' => (hs (i + 1) z k' (by simpa using hz) (by simpa using hk')).set (fun hh => hkL (by rw [hh]; exact List.mem_of_getElem? hk'))) (by simpa using hl) hx' (fun i k' hi => by
      have := hh (i + 1) k' (by simpa using hi)
      rw [← this]; congr 1; omega) (fun hef k' hk' => by rw [hset k' hk']; exact ho hef k' (List.mem_cons_of_mem _ hk')) (fun hef k' hk' => ho' hef k' (List.mem_cons_of_mem _ hk'))
    refine ⟨by rw [i1]; simp, fun k' => ?_⟩
    by_cases hkk : k' = k
    ·subst hkk
     rcases i2 k' with ⟨e1, _⟩ | ⟨e1, _⟩
     ·rw [e1, getO_set_same hlt, hg]
      exact .inr ⟨hmk.2 hy, rfl, hsk, hir, hbr⟩
     ·exact absurd e1 hnk
    ·rcases i2 k' with ⟨e1, e2⟩ | ⟨e1, e2, e3, e4, e5⟩
     ·left
      rw [e1, getO_set_ne (fun hh => hkk hh.symm)]
      exact ⟨rfl, fun hm => e2 ((hmut k' hkk).1 hm)⟩
     ·right
      rw [getO_set_ne (fun hh => hkk hh.symm)] at e2 e3
      exact ⟨(hmut k' hkk).2 e1, e2, e3, e4, e5⟩
   cases y with
   | cst =>
    simp only [outX]
    obtain ⟨i1, i2⟩ := ih x L ob (j0 + 1) hLn (fun i z k' hz hk' => hs (i + 1) z k' (by simpa using hz) (by simpa using hk')) (by simpa using hl) he (fun i k' hi => by
      have := hh (i + 1) k' (by simpa using hi)
      rw [← this]; congr 1; omega) (fun hef k' hk' => ho hef k' (List.mem_cons_of_mem _ hk')) (fun hef k' hk' => ho' hef k' (List.mem_cons_of_mem _ hk'))
    refine ⟨i1, fun k' => ?_⟩
    by_cases hkk : k' = k
    ·subst hkk
     rcases i2 k' with ⟨e1, _⟩ | ⟨e1, _⟩
     ·exact .inl ⟨e1, fun hm => hmk.1 hm rfl⟩
     ·exact absurd e1 hnk
    ·rcases i2 k' with ⟨e1, e2⟩ | ⟨e1, e2⟩
     ·exact .inl ⟨e1, fun hm => e2 ((hmut k' hkk).1 hm)⟩
     ·exact .inr ⟨(hmut k' hkk).2 e1, e2⟩
   | box t =>
    obtain ⟨ver, cs, x0, hg, hu, hf⟩ := hs 0 (.box t) k rfl rfl
    simp only [outX]
    rw [hg]
    simp only [hu]
    refine step ver _ _ x.2 hg trivial rfl (fun h' ob'' => ?_) (by simp) (fun het => (he het).2)
    cases e with
    | true => exact box_typed ok (by rw [← hk0]; exact (he rfl).1) N1 h' ob''
    | false =>
     obtain ⟨h2, ob2, hb⟩ := ho rfl k (List.mem_cons_self ..)
     rw [hg, ho' rfl k (List.mem_cons_self ..)] at hb
     exact box_typed ok (box_same ok hu hf hb) N1 h' ob''
   | mp kt vt =>
    obtain ⟨ver, kvs, hg, hf⟩ := hs 0 (.mp kt vt) k rfl rfl
    simp only [outX]
    rw [hg]
    simp only [and_self, dif_pos]
    refine step ver _ _ x.2 hg trivial rfl (fun h' ob'' => ?_) (by simp) (fun het => (he het).2)
    cases e with
    | true => exact ⟨hf, by rw [← hk0]; exact (he rfl).1⟩
    | false =>
     obtain ⟨h2, ob2, hb⟩ := ho rfl k (List.mem_cons_self ..)
     rw [hg, ho' rfl k (List.mem_cons_self ..)] at hb
     exact hb
theorem Mem.back (ok : TabOk P tb) (m : Mem tb w0 w N0 N h ob) {L : List Nat} {l : List XK} {nb : Nat} {es : List (Val T)} (hL : L.Nodup) (he : encL tb ob L nb l L = some es) {x : XTup T l} {w' : World} (hb : BelowX (XB h l L) w.heap.size w w') (hx : XRet tb w' (fun j => hX h nb L (nb + j)) l x 0) :
  Mem tb w0 w' N0 N h (outX tb true l x L ob) ∧ Kept w w' N ∧ Turn ob (outX tb true l x L ob) h h ∧ (outX tb true l x L ob).length = ob.length ∧ (∀ k, mutb (getO (outX tb true l x L ob) k).body = true → mutb (getO ob k).body = true) := by
 obtain ⟨e1, e2, e3⟩ := encL_get l L es he
 have hl := Lend.ofEnc hL he
 obtain ⟨o1, o2⟩ := outX_get (hv0 := h) (h := h) (N1 := N) (e := true) ok l x L ob 0 hL (fun i y k hy hk => by obtain ⟨v, _, hv⟩ := e3 i y k hy hk; exact encB_shape hv) e2 (fun _ => hx) (fun i k hi => by simp only [Nat.zero_add]; exact hX_at hi) (fun hh => by cases hh) (fun hh => by cases hh)
 obtain ⟨r1, r2, r3⟩ := m.later (X := XB h l L) (w' := w') (N1 := N) (ob' := outX tb true l x L ob) hb (fun b o hbN => hl.notN m hbN) (fun _ _ x => x) (fun b o hbN => .inl hbN) (fun b o hbN => Nat.lt_of_lt_of_le (m.nlt b o hbN) hb.size) (fun b ⟨k, hk, hkb⟩ hlt => by
   rcases (m.live k b (hl.mtb k hk).1 hkb).1 with h1 | h1
   ·omega
   ·exact h1.1) (fun k => by
   rcases o2 k with ⟨q1, q2⟩ | ⟨q1, q2, q3, q4, q5⟩
   ·exact .inl ⟨q1, fun hm b hkb => hl.notK m hm hkb q2⟩
   ·obtain ⟨p1, p2, p3⟩ := hl.mtb k q1
    exact .inr ⟨q2, q3, p1, p2, q4, p3, q5 _ _⟩)
 refine ⟨r1, r2, r3, o1, fun k hm => ?_⟩
 rcases o2 k with ⟨q1, _⟩ | ⟨q1, _⟩
 ·rw [← q1]; exact hm
 ·exact (hl.mtb k q1).1
theorem Mem.back0 (ok : TabOk P tb) (m : Mem tb w0 w N0 N h ob) {L : List Nat} {l : List XK} {nb : Nat} {es : List (Val T)} (hL : L.Nodup) (he : encL tb ob L nb l L = some es) {x : XTup T l} :
  Mem tb w0 w N0 N h (outX tb false l x L ob) ∧ Turn ob (outX tb false l x L ob) h h ∧ (outX tb false l x L ob).length = ob.length := by
 obtain ⟨e1, e2, e3⟩ := encL_get l L es he
 have hl := Lend.ofEnc hL he
 obtain ⟨o1, o2⟩ := outX_get (hv0 := h) (h := h) (w' := w) (N1 := N) (e := false) (hv := fun j => hX h nb L (nb + j)) ok l x L ob 0 hL (fun i y k hy hk => by obtain ⟨v, _, hv⟩ := e3 i y k hy hk; exact encB_shape hv) e2 (fun hh => by cases hh) (fun i k hi => by simp only [Nat.zero_add]; exact hX_at hi) (fun _ k _ => ⟨h, ob, m.objs k⟩) (fun _ _ _ => rfl)
 obtain ⟨r1, r2, r3⟩ := m.later (X := fun _ => False) (w' := w) (N1 := N) (ob' := outX tb false l x L ob) (BelowX.refl _ _ _) (fun _ _ _ hx => hx) (fun _ _ x => x) (fun b o hbN => .inl hbN) m.nlt (fun _ hx => hx.elim) (fun k => by
   rcases o2 k with ⟨q1, q2⟩ | ⟨q1, q2, q3, q4, q5⟩
   ·exact .inl ⟨q1, fun _ _ _ hx => hx⟩
   ·obtain ⟨p1, p2, p3⟩ := hl.mtb k q1
    exact .inr ⟨q2, q3, p1, p2, q4, p3, q5 _ _⟩)
 exact ⟨r1, r3, o1⟩
end Go.Fw
namespace Go.Fw
open Go.RowKit
set_option linter.unusedVariables false
set_option linter.unusedSimpArgs false
variable {T : Nat → Type} {P : Program} {tb : Tab T} {w0 : Base} {w : World} {N0 N : NS} {h : Nat → Value} {ob : List (Obj' T)}
def StepOk (P : Program) (tb : Tab T) (w0 : Base) (N0 : NS) (ops : Array Oper) (o : Oper) (Q : Exit → Act → World → Prop) (s' : St T) (a : Act) (w : World) (K : Act → World → Prop) : Prop :=
 if Region.wanted o (yielded ops a.tmps) then o.wp P a w K Q else K (a.put o.dst undef) w
theorem run_ok_wp {o : Oper} {a : Act} {K : Act → World → Prop} {Q : Exit → Act → World → Prop} {u : Value} {w' : World} (hr : (execOp a.eval o).run P w = .ok (.value u) w' ∨ ((execOp a.eval o).run P w = .ok .skip w' ∧ u = undef))
  (hk : K (a.put o.dst u) w') : o.wp P a w K Q := by
 unfold Oper.wp
 rcases hr with hr | ⟨hr, rfl⟩
 ·rw [hr]; exact hk
 ·rw [hr]; exact hk
theorem dstIn_lt {s : St T} {dst : Option Nat} (hd : dstIn s dst = true) : ∃ d, dst = some d ∧ d < s.ob.length ∧ d < s.sl.length := by
 cases dst with
 | none => cases hd
 | some d =>
  simp only [dstIn, Bool.and_eq_true, Nat.blt_eq] at hd
  exact ⟨d, rfl, hd.1, hd.2⟩
theorem memN_iff (l : List Nat) (n : Nat) : memN l n = true ↔ n ∈ l := by
 induction l with
 | nil => simp [memN]
 | cons a r ih =>
  simp only [memN, Bool.or_eq_true, beq_iff_eq, ih, List.mem_cons]
  constructor
  ·rintro (h | h)
   ·exact .inl h.symm
   ·exact .inr h
  ·rintro (h | h)
   ·exact .inl h.symm
   ·exact .inr h
theorem setSl_eq (s : St T) (dst : Option Nat) (V : Val T) (ob : List (Obj' T)) : setSl s dst V ob = setSl ⟨s.sl, s.ob, s.gs⟩ dst V ob := rfl
theorem outX_nil (e : Bool) (l : List XK) (x : XTup T l) (ob : List (Obj' T)) : outX tb e l x [] ob = ob := by
 cases l with
 | nil => rfl
 | cons y l => cases y <;> rfl
theorem mem_none (tb : Tab T) (w : World) {N : NS} (hN : ∀ b o, N b o → b < w.heap.size) (hG : tb.gl ≤ w.heap.size ∧ tb.gok w) (n : Nat) : Mem tb ⟨w, fun _ => False, n, fun _ => undef⟩ w N N (fun _ => undef) (obX n []) := by
 have hd : ∀ k, getO (obX n ([] : List (Body T))) k = ⟨0, .dead⟩ := fun k => by
  rcases Nat.lt_or_ge k n with h1 | h1
  ·exact obX_lt [] h1
  ·rw [obX_ge h1]; rfl
 exact ⟨BelowX.refl _ _ _, hN, fun _ _ x => x, fun _ _ x => .inl x, fun k => (by rw [hd]; trivial), fun k b hm => (by rw [hd] at hm; cases hm), fun k k' b _ hm => (by rw [hd] at hm; cases hm), fun k _ => ⟨rfl, (by rw [hd]), (by rw [hd]; rfl)⟩, ⟨hG.1, hG.2, fun b hb => hb.elim⟩⟩
theorem contract_plain {f : Nat} (hx : tb.xk f = []) {args : List (Val T)} {r : Ret T tb f} (hc : Contract P tb f args r) {N : NS} (hN : ∀ b o, N b o → b < w.heap.size) (hG : tb.gl ≤ w.heap.size ∧ tb.gok w) {vargs : Array Value} (hz : FzL tb w N args vargs.toList) :
  Calls P (realF f) vargs w fun e w' => ∃ vs, ∃ N1 : NS, e = .returned (retV vs) ∧ BelowX (fun _ => False) w.heap.size w w' ∧ (∀ b o, N b o → N1 b o) ∧ (∀ b o, N1 b o → N b o ∨ w.heap.size ≤ b) ∧ (∀ b o, N1 b o → b < w'.heap.size) ∧ RetL tb w' N1 w.heap.size (tb.rk f) r.1 vs := by
 refine (hc w N (fun _ => False) (fun _ => undef) args [] [] vargs (by simp) (by rw [hx]; rfl) rfl (mem_none tb w hN hG _) hz.1.symm (fun j V v hV hv => .fz (hz.2 j V v hV hv))).mono fun e w' he => ?_
 cases e with
 | returned v => obtain ⟨vs, N1, rfl, a1, a2, a3, a4, a5, _⟩ := he; exact ⟨vs, N1, rfl, a1, a2, a3, a4, a5⟩
 | panicked _ => exact he.elim
 | outgrown => exact he.elim
theorem call_back (ok : TabOk P tb) {C : (f : Nat) → List (Val T) → Option (Ret T tb f)} (hC : SoundC P tb C) (m : Mem tb w0 w N0 N h ob) {rs : Result Next} {f : Nat} {args : List (Val T)} {L : List Nat} {ob' : List (Obj' T)} (hp : CallPost tb w0 w N0 N h ob rs f args L ob') {r : Ret T tb f} (hcr : C f args = some r) :
  ∃ vargs : Array Value, rs = .ok (.enter (realF f) vargs) w ∧ Calls P (realF f) vargs w fun e w' => ∃ vs, ∃ N1 : NS, e = .returned (retV vs) ∧ Mem tb w0 w' N0 N1 h (outX tb true (tb.xk f) r.2 L ob') ∧ Kept w w' N ∧ (∀ b o, N b o → N1 b o) ∧ Turn ob (outX tb true (tb.xk f) r.2 L ob') h h ∧
   (outX tb true (tb.xk f) r.2 L ob').length = ob.length ∧ RetL tb w' N1 w.heap.size (tb.rk f) r.1 vs ∧ (∀ k g, mutb (getO (outX tb true (tb.xk f) r.2 L ob') k).body = true → blk (h k) = some g → g < w.heap.size) := by
 obtain ⟨vargs, N', hrun, m', t', n', l', hz⟩ := hp
 refine ⟨vargs, hrun, ?_⟩
 have hkept : ∀ {w' : World}, BelowX (fun _ => False) w.heap.size w w' → Kept w w' N := fun hb => Kept.blocks hb.size fun b o hbN => hb.block b (m.nlt b o hbN) (fun hx => hx)
 rcases hz with ⟨hx, rfl, hz | ⟨hfl, hz⟩⟩ | ⟨hx, rfl, hfl, hnd, vals, es, rfl, henc, hlen, hrep⟩
 ·refine (contract_plain hx (hC f args r hcr) m'.nlt m'.gnow hz).mono fun e w' he => ?_
  obtain ⟨vs, N1, rfl, a1, a2, a3, a4, a5⟩ := he
  rw [outX_nil]
  exact ⟨vs, N1, rfl, m'.later0 a1 a2 a3 a4, hkept a1, fun b o hb => a2 b o (n' b o hb), t', l', a5, fun k g hm hg => (m'.live k g hm hg).2.2⟩
 ·refine (contract_plain hx (hC f args r hcr) (N := All w) (fun b _ hb => hb) m.gnow hz).mono fun e w' he => ?_
  obtain ⟨vs, N1, rfl, a1, a2, a3, a4, a5⟩ := he
  rw [outX_nil]
  exact ⟨vs, N', rfl, m'.later0 a1 (fun _ _ x => x) (fun b o hb => .inl hb) (fun b o hb => Nat.lt_of_lt_of_le (m'.nlt b o hb) a1.size), hkept a1, n', t', l', RetL.flat_fz _ _ _ hfl a5 _ _, fun k g hm hg => (m'.live k g hm hg).2.2⟩
 ·obtain ⟨bs, hbs⟩ := encL_dec _ _ _ henc
  have hlm := lent_mem ok m hnd henc hbs
  refine (hC f (vals ++ es) r hcr w _ _ _ vals es bs vargs rfl (encL_get _ _ _ henc).1 hbs hlm hlen (hrep bs)).mono fun e w' he => ?_
  cases e with
  | returned v =>
   obtain ⟨vs, N1, rfl, a1, a2, a3, a4, a5, a6⟩ := he
   obtain ⟨b1, b2, b3, b4, b5⟩ := m.back ok hnd henc a1 a6
   exact ⟨vs, N, rfl, b1, b2, fun _ _ x => x, b3, b4, RetL.flat_fz _ _ _ hfl a5 _ _, fun k g hm hg => (m.live k g (b5 k hm) hg).2.2⟩
  | panicked _ => exact he.elim
  | outgrown => exact he.elim
theorem callV_ext {f' f : Nat} {vals as : List (Val T)} {L : List Nat} {ob' : List (Obj' T)} (hx : isNilX (tb.xk f) = false) (he : (callV tb f' vals ob : OpR T tb.rk) = .call f as L ob') :
  ob' = ob ∧ allFlat (tb.rk f) = true ∧ L.Nodup ∧ ∃ es, encL tb ob L (tb.nt f) (tb.xk f) L = some es := by
 unfold callV at he
 split at he
 ·cases hL : extKeys ob vals with
  | nil =>
   exfalso
   rw [hL] at he
   simp only [callP] at he
   cases hx' : tb.xk (numF f' false vals) with
   | cons => rw [hx'] at he; cases he
   | nil =>
    rw [hx'] at he
    have : f = numF f' false vals := by
     revert he
     simp only
     repeat' split
     all_goals (intro he; first | (simp only [OpR.call.injEq] at he; exact he.1.symm) | cases he)
    subst this
    rw [hx'] at hx; cases hx
  | cons k ks =>
   rw [hL] at he
   simp only [callX] at he
   split at he
   ·rename_i hfl
    cases hp : passL ob (k :: ks) (tb.nt (numF f' true vals)) vals with
    | none => rw [hp] at he; cases he
    | some as' =>
     cases hn : encL tb ob (k :: ks) (tb.nt (numF f' true vals)) (tb.xk (numF f' true vals)) (k :: ks) with
     | none => rw [hp, hn] at he; cases he
     | some es =>
      rw [hp, hn] at he
      simp only [OpR.call.injEq] at he
      obtain ⟨rfl, rfl, rfl, rfl⟩ := he
      exact ⟨rfl, hfl, by rw [← hL]; exact extKeys_nodup _ _, es, hn⟩
   ·cases he
 ·cases he
theorem callV_num {f' f : Nat} {vals as : List (Val T)} {L : List Nat} {ob' : List (Obj' T)} (he : (callV tb f' vals ob : OpR T tb.rk) = .call f as L ob') : tb.fn f' = true ∧ realF f = f' := by
 unfold callV at he
 split at he
 ·rename_i hfn
  simp only [Bool.and_eq_true, Nat.blt_eq] at hfn
  refine ⟨hfn.1, ?_⟩
  cases hL : extKeys ob vals with
  | nil =>
   rw [hL] at he
   simp only [callP] at he
   have : f = numF f' false vals := by
    revert he
    repeat' split
    all_goals (intro he; first | (simp only [OpR.call.injEq] at he; exact he.1.symm) | cases he)
   rw [this]; exact realF_num hfn.2 _ _
  | cons k ks =>
   rw [hL] at he
   simp only [callX] at he
   have : f = numF f' true vals := by
    revert he
    repeat' split
    all_goals (intro he; first | (simp only [OpR.call.injEq] at he; exact he.1.symm) | cases he)
   rw [this]; exact realF_num hfn.2 _ _
 ·cases he
theorem call_args (ok : TabOk P tb) {ρ ρ0 : Operand → Val T} {evl : Operand → Value} (hρ : ∀ x, Rep tb w N h ob (ρ x) (evl x)) {o : Oper} (hcal : callee1 o.op = true) {d f : Nat} {as0 : List (Val T)} {L : List Nat} {ob' : List (Obj' T)}
  (hx0 : tb.xk f = []) (he : evOp tb ρ ρ0 ob d o.op o.type = .call f as0 L ob') : ∃ vargs : Array Value, (execOp evl o).run P w = .ok (.enter (realF f) vargs) w ∧ vargs.toList.length = (callArgs tb ρ o.op).length ∧
   ∀ (j : Nat) V v, (callArgs tb ρ o.op)[j]? = some V → vargs.toList[j]? = some v → Rep tb w N h ob V v := by
 obtain ⟨dst, op, ty, pos, after, guard⟩ := o
 cases op with
 | call c =>
  simp only [evOp] at he
  cases hc : c.callee with
  | value g =>
   rw [hc] at he
   simp only at he
   cases hg : ρ g with
   | clo f' first caps =>
    rw [hg] at he
    simp only at he
    have hcargs : callArgs tb ρ (.call c) = first ++ argsV tb ρ c.args.toList c.argTypes.toList ++ caps := by simp only [callArgs, hc, hg]
    have hfn : tb.fn f' = true ∧ realF f = f' := callV_num he
    obtain ⟨hfn, hrf⟩ := hfn
    obtain ⟨vargs, hrun, hlen, hrep⟩ := call_vals (P := P) (w := w) ok hρ hc hg hfn dst ty pos after guard
    exact ⟨vargs, by rw [hrf]; exact hrun, by rw [hcargs]; exact hlen, by rw [hcargs]; exact hrep⟩
   | _ => rw [hg] at he; cases he
  | invoke r m' => rw [hc] at he; cases he
  | builtin b => obtain ⟨callee, _, _⟩ := c; simp only at hc; subst hc; simp [callee1] at hcal
 | _ => cases hcal
theorem evOp_ext {ρ ρ0 : Operand → Val T} {d f : Nat} {op : Op} {ty : Nat} {as : List (Val T)} {L : List Nat} {ob' : List (Obj' T)} (hcal : callee1 op = true) (hx : isNilX (tb.xk f) = false) (he : evOp tb ρ ρ0 ob d op ty = .call f as L ob') :
  ob' = ob ∧ allFlat (tb.rk f) = true ∧ L.Nodup ∧ ∃ es, encL tb ob L (tb.nt f) (tb.xk f) L = some es := by
 cases op with
 | call c =>
  obtain ⟨callee, args, ats⟩ := c
  cases callee with
  | value g =>
   simp only [evOp] at he
   cases hg : ρ g with
   | clo f' first caps => rw [hg] at he; exact callV_ext hx he
   | _ => rw [hg] at he; cases he
  | _ => cases hcal
 | _ => cases hcal
theorem Mem.adopt (m : Mem tb w0 w N0 N h ob) {d : Nat} (hd : d < ob.length) (hn : d < w0.n) {B : Nat} (hB : w0.w.heap.size ≤ B) {bd : Body T} {v : Value} (ha : Adopt tb w N B bd v)
  (hap : ∀ k g, d ≠ k → mutb (getO ob k).body = true → blk (h k) = some g → blk v ≠ some g) : Mem tb w0 w N0 N (upd h d v) (ob.set d ⟨(getO ob d).ver + 1, bd⟩) := by
 have ht := Turn.bump (h := h) hd bd v
 have hu : upd h d v d = v := by simp [upd]
 have hun : ∀ k, d ≠ k → upd h d v k = h k := fun k hk => by simp [upd, hk]
 refine ⟨m.below, m.nlt, m.n0, m.n1, fun k => ?_, fun k b hm hk => ?_, fun k k' b hne hm hm' hk => ?_, fun k hk => ?_, m.glob⟩
 ·by_cases hk : d = k
  ·subst hk
   rw [getO_set_same hd, hu]
   exact ha.rep _ _
  ·rw [getO_set_ne hk, hun k hk]
   exact (m.objs k).mono (Kept.refl _ _) (fun _ _ _ => rfl) (fun _ _ x => x) ht
 ·by_cases hdk : d = k
  ·subst hdk
   rw [hu] at hk
   obtain ⟨h1, h2, h3⟩ := ha.blk b hk
   exact ⟨.inl (by omega), fun o _ => h2 o, h3⟩
  ·rw [getO_set_ne hdk] at hm ⊢
   rw [hun k hdk] at hk
   exact m.live k b hm hk
 ·by_cases hdk : d = k
  ·subst hdk
   rw [getO_set_ne hne] at hm'
   rw [hu] at hk
   rw [hun k' hne]
   exact fun hk' => hap k' b hne hm' hk' hk
  ·rw [hun k hdk] at hk
   rw [getO_set_ne hdk] at hm
   by_cases hdk' : d = k'
   ·subst hdk'
    rw [hu]
    exact hap k b hdk hm hk
   ·rw [getO_set_ne hdk'] at hm'
    rw [hun k' hdk']
    exact m.dist k k' b hne hm hm' hk
 ·have hdk : d ≠ k := by omega
  rw [getO_set_ne hdk, hun k hdk]
  exact m.ext k hk
theorem row_oneFresh : ∀ (l : List Knd) (r : Tup T l) (bd : Body T), Tup.row tb l r = some bd → 0 < oneFresh l := by
 intro l
 induction l with
 | nil => intro r bd hh; cases hh
 | cons k l ih =>
  intro r bd hh
  have hk1 : ∀ (x : k.ty T), k.row tb x ≠ none → k.isFresh = true := fun x hx => by cases k <;> simp [Knd.row] at hx <;> rfl
  cases l with
  | nil =>
   simp only [Tup.row] at hh
   simp [oneFresh, hk1 r (by rw [hh]; simp)]
  | cons l r' =>
   obtain ⟨x, y⟩ := r
   simp only [Tup.row] at hh
   cases hk : k.row tb x with
   | some b => simp [oneFresh, hk1 x (by rw [hk]; simp)]; omega
   | none =>
    rw [hk] at hh
    have := ih y bd hh
    simp only [oneFresh] at this ⊢
    omega
theorem flat_oneFresh : ∀ l, allFlat l = true → oneFresh l = 0 := by
 intro l
 induction l with
 | nil => intro _; rfl
 | cons k l ih =>
  intro hk
  simp only [allFlat, Bool.and_eq_true] at hk
  have hkf : k.isFresh = false := by cases k <;> simp [Knd.flat] at hk <;> rfl
  simp [oneFresh, hkf, ih hk.2]
theorem frz1_hp {V v : Val T} {ob' : List (Obj' T)} (hp : V.hp = true) (hf : frz1 ob V = some (v, ob')) : ob' = ob := by
 cases V <;> simp [Val.hp] at hp <;> simp only [frz1] at hf <;> revert hf <;> (repeat' split) <;> (intro hf; cases hf; try rfl)
theorem frzL_hp : ∀ {cs ds : List (Val T)} {ob ob' : List (Obj' T)}, hpL cs = true → frzL cs ob = some (ds, ob') → ob' = ob := by
 intro cs
 induction cs with
 | nil => intro ds ob ob' _ h; cases h; rfl
 | cons v r ih =>
  intro ds ob ob' hp h
  simp only [hpL, Bool.and_eq_true] at hp
  unfold frzL at h
  split at h
  ·cases h
  ·rename_i v' ob1 h1
   split at h
   ·cases h
   ·rename_i r' ob2 h2
    cases h
    have := frz1_hp hp.1 h1
    subst this
    exact ih hp.2 h2
theorem frz_hp {V v : Val T} {ob' : List (Obj' T)} (hp : V.hp = true) (hf : frz ob V = some (v, ob')) : ob' = ob := by
 unfold frz at hf
 split at hf
 ·split at hf
  ·cases hf
  ·rename_i h
   cases hf
   exact frzL_hp (by simpa [Val.hp] using hp) h
 ·exact frz1_hp hp hf
theorem frzA_hp : ∀ {cs ds : List (Val T)} {ob ob' : List (Obj' T)}, hpL cs = true → frzA cs ob = some (ds, ob') → ob' = ob := by
 intro cs
 induction cs with
 | nil => intro ds ob ob' _ h; cases h; rfl
 | cons v r ih =>
  intro ds ob ob' hp h
  simp only [hpL, Bool.and_eq_true] at hp
  unfold frzA at h
  split at h
  ·cases h
  ·rename_i v' ob1 h1
   split at h
   ·cases h
   ·rename_i r' ob2 h2
    cases h
    have := frz_hp hp.1 h1
    subst this
    exact ih hp.2 h2
theorem evOp_call_ob {ρ ρ0 : Operand → Val T} {d f : Nat} {op : Op} {ty : Nat} {as : List (Val T)} {L : List Nat} {ob' : List (Obj' T)} (hcal : callee1 op = true) (hp : hpL (callArgs tb ρ op) = true) (he : evOp tb ρ ρ0 ob d op ty = .call f as L ob') : ob' = ob := by
 cases op with
 | call c =>
  obtain ⟨callee, args, ats⟩ := c
  cases callee with
  | value g =>
   simp only [evOp] at he
   simp only [callArgs] at hp
   cases hg : ρ g with
   | clo f' first caps =>
    rw [hg] at he hp
    simp only at he hp
    unfold callV at he
    split at he
    ·split at he
     ·unfold callP at he
      revert he
      repeat' split
      all_goals (intro he; first | (cases he; done) | (simp only [OpR.call.injEq] at he; exact he.2.2.2.symm) | (simp only [OpR.call.injEq] at he; obtain ⟨_, _, _, rfl⟩ := he; exact frzA_hp hp (by assumption)))
     ·unfold callX at he
      revert he
      repeat' split
      all_goals (intro he; first | (cases he; done) | (simp only [OpR.call.injEq] at he; exact he.2.2.2.symm))
    ·cases he
   | _ => rw [hg] at he; cases he
  | _ => cases hcal
 | _ => cases hcal
theorem step_sound (ok : TabOk P tb) {C : (f : Nat) → List (Val T) → Option (Ret T tb f)} (hC : SoundC P tb C) {s s' : St T} {a : Act} (inv : Rel tb w0 N0 s a w) (ops : Array Oper) (o : Oper) (hs : (step tb ops o s).run C = some s')
  (Q : Exit → Act → World → Prop) (K : Act → World → Prop) (hK : ∀ a w, Rel tb w0 N0 s' a w → K a w) : StepOk P tb w0 N0 ops o Q s' a w K := by
 obtain ⟨N, h, inv⟩ := inv
 unfold step at hs
 split at hs
 ·cases hs
 ·rename_i hnd
  have hnd : needsDst o.op = true → ∃ d, o.dst = some d ∧ d < s.ob.length ∧ d < s.sl.length := fun hh => by
   cases hdi : dstIn s o.dst with
   | true => exact dstIn_lt hdi
   | false => exact absurd (by simp [hh, hdi]) hnd
  split at hs
  ·cases hs
  ·rename_i hgs
   have hgs : ∀ d, o.dst = some d → d ∉ s.gs := fun d hd hmem => by
    rw [hd] at hgs
    exact hgs ((memN_iff s.gs d).2 hmem)
   obtain ⟨gw1, gw2⟩ := guard_wanted inv.slots (ops := ops) (o := o)
   have hdn : needsDst o.op = true → dstOf o < s.ob.length ∧ dstOf o < w0.n := fun hh => by
    obtain ⟨d, hd, hlt, hlt2⟩ := hnd hh
    unfold dstOf
    rw [hd]
    exact ⟨hlt, Nat.lt_of_lt_of_le hlt2 inv.nn⟩
   cases hg : guardOf ops s o with
   | bad => rw [hg] at hs; cases hs
   | free =>
    rw [hg] at hs
    simp only at hs
    unfold StepOk
    rw [if_pos (gw1 hg)]
    have hρ : ∀ x, Rep tb w N h s.ob (unG none (opv s x)) (a.eval x) := fun x => unG_none_rep (opv_rep trivial inv.slots x)
    cases he : evOp tb (fun x => unG none (opv s x)) (opv s) s.ob (dstOf o) o.op o.type with
    | bad => rw [he] at hs; cases hs
    | ok c V ob' =>
     rw [he] at hs
     simp only [SR.run] at hs
     cases c with
     | false => cases hs
     | true =>
      simp only [cond_true, Option.some.injEq] at hs
      obtain ⟨u, w', N', h', r1, r2, r3, r4, r5, r6, r7⟩ := evOp_ok ok inv.mem hρ (opv_rep trivial inv.slots) (fun x t wt e v b hx hb hbw => pick_cond inv (g := none) (fun _ _ hh => by cases hh) x t wt e v b hx hb hbw) (fun _ => rfl) o hdn he
      refine run_ok_wp r1 (hK _ _ ⟨N', h', ?_⟩)
      exact inv.put r2 r5 r6 r4 (unG_none_rep r3) (gs' := s.gs) (fun _ x => x) hgs (fun t wt e v hh => absurd hh (unG_none_not _ _ _ _ _)) (by rw [← hs])
    | call f args L ob' =>
     rw [he] at hs
     simp only at hs
     split at hs
     ·rename_i hone
      have hpost := evOp_call ok inv.mem (ρ0 := opv s) hρ o he
      simp only [SR.run, cond_true] at hs
      cases hcr : C f args with
      | none => rw [hcr] at hs; cases hs
      | some r =>
       rw [hcr] at hs
       simp only [Option.bind_some, Option.some.injEq] at hs
       obtain ⟨vargs, hrun, hcall⟩ := call_back ok hC inv.mem hpost hcr
       unfold Oper.wp
       rw [hrun, Oper.upon_enter]
       refine hcall.mono fun e w' hh => ?_
       obtain ⟨vs, N1, rfl, m1, hw, hN, t1, l1, a5, hold⟩ := hh
       refine hK _ _ ?_
       generalize hob1 : outX tb true (tb.xk f) r.2 L ob' = ob1 at hs m1 t1 l1 hold
       cases hrow : Tup.row tb (tb.rk f) r.1 with
       | none =>
        have hf0 := Tup.row_none _ _ hrow
        obtain ⟨v1, v2, v3⟩ := vals_rep (h := h) (ob := ob1) (key := 0) (ver := 0) (tb.rk f) r.1 vs a5 hf0
        have hrep := retV_rep (Vs := Tup.vals tb 0 0 (tb.rk f) r.1) (vs := vs) (by rw [v1, v2]) v3
        refine ⟨N1, h, inv.put m1 hw hN t1 (unG_none_rep hrep) (gs' := s.gs) (fun _ x => x) hgs (fun t wt e v hh => absurd hh (unG_none_not _ _ _ _ _)) ?_⟩
        rw [← hs]
        unfold backS
        rw [hrow]
        cases o.dst <;> rfl
       | some bd =>
        have hone1 : oneFresh (tb.rk f) ≤ 1 := by unfold room1 at hone; split at hone <;> omega
        obtain ⟨v, ha, b5⟩ := vals_row (tb.rk f) r.1 vs a5 hone1 hrow
        have hdi : dstIn s o.dst = true := by
         cases hdi : dstIn s o.dst with
         | true => rfl
         | false =>
          simp only [room1, hdi] at hone
          have := row_oneFresh (tb := tb) _ r.1 _ hrow
          omega
        obtain ⟨d, hd, hdl, hdl2⟩ := dstIn_lt hdi
        have hdl' : d < ob1.length := by rw [l1]; exact hdl
        have tb1 := Turn.bump (h := h) hdl' bd v
        have m2 := m1.adopt hdl' (Nat.lt_of_lt_of_le hdl2 inv.nn) inv.mem.below.size ha (fun k g hkd hm hk hg => by
         have := hold k g hm hk
         have := (ha.blk g hg).1
         omega)
        obtain ⟨c1, c2, c3⟩ := b5 d ((getO ob1 d).ver + 1)
        have hrep := retV_rep (w := w') (N := N1) (h := upd h d v) (ob := ob1.set d ⟨(getO ob1 d).ver + 1, bd⟩) (Vs := Tup.vals tb d ((getO ob1 d).ver + 1) (tb.rk f) r.1) (vs := vs) (by rw [c1, c2]) (fun j V u hV hu => c3 _ _ (getO_set_same hdl') (by simp [upd]) j V u hV hu)
        refine ⟨N1, upd h d v, inv.put m2 hw hN (t1.trans tb1) (unG_none_rep hrep) (gs' := s.gs) (fun _ x => x) hgs (fun t wt e v hh => absurd hh (unG_none_not _ _ _ _ _)) ?_⟩
        rw [← hs]
        unfold backS
        rw [hd, hrow]
        rfl
     ·cases hs
   | on t wt e =>
    rw [hg] at hs
    simp only at hs
    obtain ⟨hwan, hce⟩ := gw2 t wt e hg
    have hadd : ∀ t', t' ∈ s.gs → t' ∈ t :: s.gs := fun t' h' => List.mem_cons_of_mem _ h'
    have skip : ∀ (V : Val T) (ob' : List (Obj' T)), o.dst ≠ some t → s' = setSl (addG s t) o.dst (.cnd t wt e V) ob' → e = false → Mem tb w0 w N0 N h ob' → Turn s.ob ob' h h → Rel tb w0 N0 s' (a.put o.dst undef) w := fun V ob' hdt hs' hef m' t' => by
     refine ⟨N, h, inv.put m' (Kept.refl _ _) (fun _ _ x => x) t' (V := .cnd t wt e V) (.cnd (fun hh => by rw [hef] at hh; cases hh) (fun _ => rfl)) hadd hgs (fun t' wt' e' v hh => ?_) hs'⟩
     simp only [Val.cnd.injEq] at hh
     obtain ⟨rfl, rfl, rfl, _⟩ := hh
     exact ⟨List.mem_cons_self .., hce, hdt⟩
    split at hs
    ·rename_i hq
     cases he : evOp tb (fun x => unG (some (t, wt)) (opv s x)) (opv s) s.ob (dstOf o) o.op o.type with
     | bad => rw [he] at hs; cases hs
     | call f args L ob' => rw [he] at hs; cases hs
     | ok c V ob' =>
      rw [he] at hs
      simp only at hs
      split at hs
      ·cases hs
      ·rename_i hdt
       simp only [SR.run] at hs
       unfold StepOk
       rw [hwan]
       cases e with
       | false =>
        have himp : impB c false = true := by cases c <;> rfl
        rw [himp] at hs
        simp only [cond_true, Option.some.injEq] at hs
        simp only [Bool.false_eq_true, if_false]
        exact hK _ _ (skip V s.ob hdt hs.symm rfl inv.mem (Turn.refl _ _))
       | true =>
        simp only [if_true]
        cases c with
        | false => cases hs
        | true =>
         simp only [impB, cond_true, Option.some.injEq] at hs
         have hoq := quietG_ob hq he
         subst hoq
         obtain ⟨u, w', N', h', r1, r2, r3, r4, r5, r6, r7⟩ := evOp_ok ok inv.mem (unG_rep inv hce) (opv_rep trivial inv.slots) (fun x t' wt' e' v b hx hb hbw => pick_cond inv (g := some (t, wt)) (fun t2 w2 hh => by
          simp only [Option.some.injEq, Prod.mk.injEq] at hh
          obtain ⟨rfl, rfl⟩ := hh
          exact hce) x t' wt' e' v b hx hb hbw) (fun _ => rfl) o hdn he
         refine run_ok_wp r1 (hK _ _ ⟨N', h', ?_⟩)
         refine inv.put r2 r5 r6 r4 (V := .cnd t wt true V) (.cnd (fun _ => r3) (fun hh => by cases hh)) hadd hgs (fun t' wt' e' v hh => ?_) hs.symm
         simp only [Val.cnd.injEq] at hh
         obtain ⟨rfl, rfl, rfl, _⟩ := hh
         exact ⟨List.mem_cons_self .., hce, hdt⟩
    ·split at hs
     ·rename_i hcal
      cases he : evOp tb (fun x => unG (some (t, wt)) (opv s x)) (opv s) s.ob (dstOf o) o.op o.type with
      | bad => rw [he] at hs; cases hs
      | ok c V ob' => rw [he] at hs; cases hs
      | call f args0 L ob0 =>
       rw [he] at hs
       simp only at hs
       cases hnx : isNilX (tb.xk f) with
       | true =>
        have hx0 : tb.xk f = [] := by cases hx : tb.xk f with | nil => rfl | cons _ _ => rw [hx] at hnx; cases hnx
        rw [hnx] at hs
        simp only at hs
        cases hl : lendA tb s.ob (callArgs tb (fun x => unG (some (t, wt)) (opv s x)) o.op) with
        | none => rw [hl] at hs; cases hs
        | some as =>
         rw [hl] at hs
         simp only at hs
         split at hs
         ·rename_i hfl
          split at hs
          ·cases hs
          ·rename_i hdt
           simp only [SR.run] at hs
           unfold StepOk
           rw [hwan]
           cases e with
           | false =>
            simp only [cond_false, Option.bind_some, Option.some.injEq] at hs
            simp only [Bool.false_eq_true, if_false]
            exact hK _ _ (skip _ s.ob hdt hs.symm rfl inv.mem (Turn.refl _ _))
           | true =>
            simp only [cond_true, if_true] at hs ⊢
            cases hcr : C f as with
            | none => rw [hcr] at hs; cases hs
            | some r =>
             rw [hcr] at hs
             simp only [Option.bind_some, Option.some.injEq] at hs
             obtain ⟨vargs, hrun, hlen, hrep⟩ := call_args ok (unG_rep inv hce) hcal hx0 he
             have hz := lendA_sound ok inv.mem _ hlen hrep hl
             unfold Oper.wp
             rw [hrun, Oper.upon_enter]
             refine (contract_plain hx0 (hC f as r hcr) (N := All w) (fun b _ hb => hb) inv.mem.gnow hz).mono fun e w' hh => ?_
             obtain ⟨vs, N1, rfl, a1, a2, a3, a4, a5⟩ := hh
             refine hK _ _ ?_
             have a5' : RetL tb w' N w.heap.size (tb.rk f) r.1 vs := RetL.flat_fz _ _ _ hfl a5 _ _
             have hw : Kept w w' N := Kept.blocks a1.size fun b o hb => a1.block b (inv.mem.nlt b o hb) (fun hx => hx)
             obtain ⟨v1, v2, v3⟩ := vals_rep (h := h) (ob := s.ob) (key := 0) (ver := 0) (tb.rk f) r.1 vs a5' (flat_oneFresh _ hfl)
             have hrp := retV_rep (Vs := Tup.vals tb 0 0 (tb.rk f) r.1) (vs := vs) (by rw [v1, v2]) v3
             have m1 := inv.mem.later0 a1 (fun _ _ x => x) (fun b o hb => .inl hb) (fun b o hb => Nat.lt_of_lt_of_le (inv.mem.nlt b o hb) a1.size)
             refine ⟨N, h, inv.put m1 hw (fun _ _ x => x) (Turn.refl _ _) (V := .cnd t wt true _) (.cnd (fun _ => hrp) (fun hh => by cases hh)) hadd hgs (fun t' wt' e' v hh => ?_) hs.symm⟩
             simp only [Val.cnd.injEq] at hh
             obtain ⟨rfl, rfl, rfl, _⟩ := hh
             exact ⟨List.mem_cons_self .., hce, hdt⟩
         ·split at hs
          ·rename_i hnf
           simp only [Bool.and_eq_true] at hnf
           have hf0 := Nat.eq_of_beq_eq_true hnf.1
           split at hs
           ·cases hs
           ·rename_i hdt
            simp only [SR.run] at hs
            unfold StepOk
            rw [hwan]
            cases e with
            | false =>
             simp only [cond_false, Option.bind_some, Option.some.injEq] at hs
             simp only [Bool.false_eq_true, if_false]
             exact hK _ _ (skip _ s.ob hdt hs.symm rfl inv.mem (Turn.refl _ _))
            | true =>
             simp only [cond_true, if_true] at hs ⊢
             cases hcr : C f args0 with
             | none => rw [hcr] at hs; cases hs
             | some r =>
              rw [hcr] at hs
              simp only [Option.bind_some, Option.some.injEq] at hs
              have hob := evOp_call_ob hcal hnf.2 he
              have hpost := evOp_call ok inv.mem (ρ0 := opv s) (unG_rep inv hce) o he
              obtain ⟨vargs, hrun, hcall⟩ := call_back ok hC inv.mem hpost hcr
              unfold Oper.wp
              rw [hrun, Oper.upon_enter]
              refine hcall.mono fun e w' hh => ?_
              obtain ⟨vs, N1, rfl, m1, hw, hN, t1, l1, a5, _⟩ := hh
              refine hK _ _ ?_
              have hx1 : outX tb true (tb.xk f) r.2 L ob0 = s.ob := by
               rw [hob]
               have : ∀ (l : List XK) (x : XTup T l), l = [] → outX tb true l x L s.ob = s.ob := fun l x hl => by subst hl; rfl
               exact this _ _ hx0
              rw [hx1] at m1 t1
              obtain ⟨v1, v2, v3⟩ := vals_rep (h := h) (ob := s.ob) (key := 0) (ver := 0) (tb.rk f) r.1 vs a5 hf0
              have hrp := retV_rep (Vs := Tup.vals tb 0 0 (tb.rk f) r.1) (vs := vs) (by rw [v1, v2]) v3
              refine ⟨N1, h, inv.put m1 hw hN t1 (V := .cnd t wt true _) (.cnd (fun _ => hrp) (fun hh => by cases hh)) hadd hgs (fun t' wt' e' v hh => ?_) hs.symm⟩
              simp only [Val.cnd.injEq] at hh
              obtain ⟨rfl, rfl, rfl, _⟩ := hh
              exact ⟨List.mem_cons_self .., hce, hdt⟩
          ·cases hs
       | false =>
        rw [hnx] at hs
        simp only at hs
        split at hs
        ·cases hs
        ·rename_i hdt
         simp only [SR.run] at hs
         unfold StepOk
         rw [hwan]
         have hext := evOp_ext hcal hnx he
         obtain ⟨rfl, hfl, hnd', es, henc⟩ := hext
         cases e with
         | false =>
          simp only [cond_false, Option.bind_some, Option.some.injEq] at hs
          simp only [Bool.false_eq_true, if_false]
          obtain ⟨q1, q2, _⟩ := inv.mem.back0 ok hnd' henc (x := (Ret.dflt tb f).2)
          exact hK _ _ (skip _ _ hdt hs.symm rfl q1 q2)
         | true =>
          simp only [cond_true, if_true] at hs ⊢
          cases hcr : C f args0 with
          | none => rw [hcr] at hs; cases hs
          | some r =>
           rw [hcr] at hs
           simp only [Option.bind_some, Option.some.injEq] at hs
           have hpost := evOp_call ok inv.mem (ρ0 := opv s) (unG_rep inv hce) o he
           obtain ⟨vargs, hrun, hcall⟩ := call_back ok hC inv.mem hpost hcr
           unfold Oper.wp
           rw [hrun, Oper.upon_enter]
           refine hcall.mono fun e w' hh => ?_
           obtain ⟨vs, N1, rfl, m1, hw, hN, t1, l1, a5, _⟩ := hh
           refine hK _ _ ?_
           obtain ⟨v1, v2, v3⟩ := vals_rep (h := h) (ob := outX tb true (tb.xk f) r.2 L s.ob) (key := 0) (ver := 0) (tb.rk f) r.1 vs a5 (flat_oneFresh _ hfl)
           have hrp := retV_rep (Vs := Tup.vals tb 0 0 (tb.rk f) r.1) (vs := vs) (by rw [v1, v2]) v3
           refine ⟨N1, h, inv.put m1 hw hN t1 (V := .cnd t wt true _) (.cnd (fun _ => hrp) (fun hh => by cases hh)) hadd hgs (fun t' wt' e' v hh => ?_) hs.symm⟩
           simp only [Val.cnd.injEq] at hh
           obtain ⟨rfl, rfl, rfl, _⟩ := hh
           exact ⟨List.mem_cons_self .., hce, hdt⟩
     ·cases hs
end Go.Fw
namespace Go.Fw
open Go.RowKit
set_option linter.unusedVariables false
set_option linter.unusedSimpArgs false
variable {T : Nat → Type} {P : Program} {tb : Tab T} {w0 : Base} {w : World} {N0 N : NS} {h : Nat → Value} {ob : List (Obj' T)}
def Same0 (ob ob' : List (Obj' T)) : Prop :=
 ∀ key, (getO ob' key).ver = 0 ∧ (∀ fz cs, (getO ob' key).body = .box fz cs → ∃ cs', (getO ob key).body = .box fz cs') ∧
  (∀ fz e xs, (getO ob' key).body = .row fz e xs → (getO ob key).body = .row fz e xs) ∧ (∀ kt vt kvs, (getO ob' key).body = .mp kt vt kvs → (getO ob key).body = .mp kt vt kvs) ∧
  (∀ e xs k0 v0, (getO ob' key).body = .rowx e xs k0 v0 → v0 = 0 ∧ ∃ v1, (getO ob key).body = .rowx e xs k0 v1 ∧ verOk ob k0 v1 = true)
theorem Sim.pure {c d : Val T} (hs : Sim c d) (hp : c.pure1 = true) : d.pure1 = true := by
 cases hs with
 | rfl => exact hp
 | nil => rfl
theorem get_int {k k' : IntKind} {n : Int} {x : Int} (hg : (Knd.int k).get tb (.int k' n : Val T) = some x) : k = k' ∧ n = x := by
 by_cases hk : k = k'
 ·subst hk
  have hg2 : (some n : Option Int) = some x := (if_pos rfl).symm.trans hg
  exact ⟨rfl, Option.some.inj hg2⟩
 ·have hg2 : (none : Option Int) = some x := (if_neg hk).symm.trans hg
  cases hg2
theorem get_lst {e e' : Nat} {xs : List (T e')} {x : List (T e)} (hg : (Knd.lst e).get tb (.lst e' xs : Val T) = some x) : ∃ h : e' = e, h ▸ xs = x := by
 by_cases he : e' = e
 ·subst he
  have hg2 : (some xs : Option (List (T e'))) = some x := (dif_pos rfl).symm.trans hg
  exact ⟨rfl, Option.some.inj hg2⟩
 ·have hg2 : (none : Option (List (T e))) = some x := (dif_neg he).symm.trans hg
  cases hg2
theorem get_fz (ok : TabOk P tb) {k : Knd} {V : Val T} {x : k.ty T} {v : Value} (hg : k.get tb V = some x) (hr : Rep tb w N h ob V v) (key ver : Nat) : k.isFresh = false ∧ Fz tb w N (k.val tb key ver x) v := by
 cases k with
 | int k =>
  cases V with
  | int k' n =>
   obtain ⟨rfl, rfl⟩ := get_int (tb := tb) hg
   rw [hr.int_inv.1]
   exact ⟨rfl, .int hr.int_inv.2⟩
  | _ => cases hg
 | bool =>
  cases V with
  | bool b =>
   have : b = x := Option.some.inj hg
   subst this
   rw [hr.bool_inv]
   exact ⟨rfl, .bool⟩
  | _ => cases hg
 | ifc =>
  cases V with
  | ifc b =>
   have : b = x := Option.some.inj hg
   subst this
   have hz : Fz tb w N (.ifc b) v := by cases hr with | fz hz => exact hz
   exact ⟨rfl, hz⟩
  | _ => cases hg
 | str =>
  cases V with
  | str b =>
   have : b = x := Option.some.inj hg
   subst this
   rw [hr.str_inv.1]
   exact ⟨rfl, .str hr.str_inv.2⟩
  | _ => cases hg
 | lst e =>
  cases V with
  | lst e' xs =>
   obtain ⟨rfl, rfl⟩ := get_lst (tb := tb) hg
   exact ⟨rfl, hr.lst_inv⟩
  | nil =>
   have : ([] : List (T e)) = x := Option.some.inj hg
   subst this
   exact ⟨rfl, Fz.sim .nil (by rw [hr.nil_inv]; exact .nil)⟩
  | _ => cases hg
 | fresh e => cases V <;> cases hg
 | fbox t => cases V <;> cases hg
 | agg t =>
  cases V with
  | agg cs =>
   have hs := ok.unc t cs x hg
   have hp := ok.uncp t cs x hg
   obtain ⟨vs, rfl, hsz, hc⟩ := hr.agg_inv
   refine ⟨rfl, .agg (by rw [hsz, hs.1]) (fun j W hW => ?_)⟩
   have hj : j < cs.length := by rw [← hs.1]; exact (List.getElem?_eq_some_iff.1 hW).1
   have hd := List.getElem?_eq_getElem hj
   have hsm := hs.2 j W _ hW hd
   exact ((hc j _ hd).pure1 (hsm.pure (hp W (List.mem_of_getElem? hW)))).sim hsm
  | _ => cases hg
theorem ptr_put {ob' : List (Obj' T)} (hs : Same0 ob ob') {key off : Nat} {V : Val T} {v : Value} (ho : ptrOk ob key off V = true) (hr : Rep tb w N h ob V v) : Rep tb w N h ob' (.ptr key 0 off) v := by
 cases V with
 | ptr key' ver off' =>
  simp only [ptrOk] at ho
  split at ho
  ·rename_i hk; subst hk
   split at ho
   ·rename_i hoo; subst hoo
    have hver : (getO ob key).ver = ver := by simpa [verOk] using ho
    refine .ptr (Nat.zero_le _) hr.ptr_some (fun fz cs hk => ?_)
    obtain ⟨cs', hb⟩ := (hs key).2.1 fz cs (by rw [hk])
    refine hr.ptr_eq (fz := fz) (cs := cs') ?_
    cases ho : getO ob key with
    | mk a b => rw [ho] at hver hb; simp only at hver hb; subst hver; subst hb; rfl
   ·cases ho
  ·cases ho
 | _ => cases ho
theorem mref_put {ob' : List (Obj' T)} (hs : Same0 ob ob') {key : Nat} {V : Val T} {v : Value} (ho : mrefOk ob key V = true) (hr : Rep tb w N h ob V v) : Rep tb w N h ob' (.mref key 0) v := by
 cases V with
 | mref key' ver =>
  simp only [mrefOk] at ho
  split at ho
  ·rename_i hk; subst hk
   have hver : (getO ob key).ver = ver := by simpa [verOk] using ho
   refine .mref (Nat.zero_le _) (by cases hr with | fz hz => cases hz | mref _ h0 _ => exact h0) (fun kt vt kvs hk => ?_)
   have hb := (hs key).2.2.2.1 kt vt kvs (by rw [hk])
   refine hr.mref_eq (kt := kt) (vt := vt) (kvs := kvs) ?_
   cases ho : getO ob key with
   | mk a b => rw [ho] at hver hb; simp only at hver hb; subst hver; subst hb; rfl
  ·cases ho
 | _ => cases ho
theorem getC_rep (ok : TabOk P tb) (m : Mem tb w0 w N0 N h ob) {ob' : List (Obj' T)} (hs : Same0 ob ob') : ∀ (l : List C1) (Vs : List (Val T)) (x : TC T l) (r : Nat → Value), getC tb ob l Vs = some x →
  (∀ (t : Nat) V, Vs[t]? = some V → Rep tb w N h ob V (r t)) → (putC tb l x).length = Vs.length ∧ ∀ (t : Nat) V', (putC tb l x)[t]? = some V' → Rep tb w N h ob' V' (r t) := by
 intro l
 induction l with
 | nil =>
  intro Vs x r hg _
  cases Vs with
  | nil => exact ⟨rfl, fun t V' hV => by simp [putC] at hV⟩
  | cons => cases hg
 | cons s l ih =>
  intro Vs x r hg hr
  cases Vs with
  | nil => cases s <;> cases hg
  | cons V Vs =>
   have h0 := hr 0 V rfl
   have hrt : ∀ (t : Nat) W, Vs[t]? = some W → Rep tb w N h ob W (r (t + 1)) := fun t W hW => hr (t + 1) W (by simpa using hW)
   have fin : ∀ {y : TC T l} {V0 : Val T}, getC tb ob l Vs = some y → Rep tb w N h ob' V0 (r 0) → (V0 :: putC tb l y).length = Vs.length + 1 ∧ ∀ (t : Nat) V', (V0 :: putC tb l y)[t]? = some V' → Rep tb w N h ob' V' (r t) := by
    intro y V0 hy hV0
    obtain ⟨i1, i2⟩ := ih Vs y (fun t => r (t + 1)) hy hrt
    refine ⟨by simp [i1], fun t V' hV => ?_⟩
    cases t with
    | zero => simp at hV; subst hV; exact hV0
    | succ t => exact i2 t V' (by simpa using hV)
   cases s with
   | var k =>
    simp only [getC] at hg
    cases hk : k.get tb (res ob V) with
    | none => rw [hk] at hg; simp at hg
    | some x0 =>
     cases hy : getC tb ob l Vs with
     | none => rw [hk, hy] at hg; simp at hg
     | some y =>
      rw [hk, hy] at hg
      have hg : (x0, y) = x := Option.some.inj hg
      subst hg
      exact fin hy (.fz (get_fz ok hk (res_rep ok m h0) 0 0).2)
   | ptr key off =>
    simp only [getC] at hg
    cases hp : ptrOk ob key off V with
    | false => rw [hp] at hg; cases hg
    | true => rw [hp] at hg; exact fin hg (ptr_put hs hp h0)
   | mref key =>
    simp only [getC] at hg
    cases hp : mrefOk ob key V with
    | false => rw [hp] at hg; cases hg
    | true => rw [hp] at hg; exact fin hg (mref_put hs hp h0)
theorem getTS_rep (ok : TabOk P tb) (m : Mem tb w0 w N0 N h ob) {ob' : List (Obj' T)} (hs : Same0 ob ob') : ∀ (l : List SlT) (Vs : List (Val T)) (x : TS T l) (r : Nat → Value), getTS tb ob l Vs = some x →
  (∀ t, Rep tb w N h ob (Vs.getD t .junk) (r t)) → (putTS tb l x).length = l.length ∧ ∀ (t : Nat) V', (putTS tb l x)[t]? = some V' → Rep tb w N h ob' V' (r t) ∧ ∀ t' w' e v, V' ≠ .cnd t' w' e v := by
 intro l
 induction l with
 | nil => intro Vs x r _ _; exact ⟨rfl, fun t V' hV => by simp [putTS] at hV⟩
 | cons s l ih =>
  intro Vs x r hg hr
  have hhd : Vs.headD .junk = Vs.getD 0 .junk := by cases Vs <;> rfl
  have htl : ∀ t, Vs.tail.getD t .junk = Vs.getD (t + 1) .junk := fun t => by cases Vs <;> simp
  have h0 := hr 0
  rw [← hhd] at h0
  have hrt : ∀ t, Rep tb w N h ob (Vs.tail.getD t .junk) (r (t + 1)) := fun t => by rw [htl]; exact hr (t + 1)
  have fin : ∀ {y : TS T l} {V0 : Val T}, getTS tb ob l Vs.tail = some y → Rep tb w N h ob' V0 (r 0) → (∀ t' w' e v, V0 ≠ .cnd t' w' e v) →
    (V0 :: putTS tb l y).length = l.length + 1 ∧ ∀ (t : Nat) V', (V0 :: putTS tb l y)[t]? = some V' → Rep tb w N h ob' V' (r t) ∧ ∀ t' w' e v, V' ≠ .cnd t' w' e v := by
   intro y V0 hy hV0 hV1
   obtain ⟨i1, i2⟩ := ih Vs.tail y (fun t => r (t + 1)) hy hrt
   refine ⟨by simp [i1], fun t V' hV => ?_⟩
   cases t with
   | zero => simp at hV; subst hV; exact ⟨hV0, hV1⟩
   | succ t => exact i2 t V' (by simpa using hV)
  cases s with
  | junk =>
   simp only [getTS] at hg
   exact fin hg .junk (fun _ _ _ _ hh => by cases hh)
  | var k =>
   simp only [getTS] at hg
   cases hk : k.get tb (res ob (Vs.headD .junk)) with
   | none => rw [hk] at hg; simp at hg
   | some x0 =>
    cases hy : getTS tb ob l Vs.tail with
    | none => rw [hk, hy] at hg; simp at hg
    | some y =>
     rw [hk, hy] at hg
     have hg : (x0, y) = x := Option.some.inj hg
     subst hg
     obtain ⟨hnf, hz⟩ := get_fz ok hk (res_rep ok m h0) 0 0
     refine fin hy (.fz hz) (fun t' w' e v hh => ?_)
     cases k <;> simp [Knd.val] at hh
  | ptr key off =>
   simp only [getTS] at hg
   cases hp : ptrOk ob key off (Vs.headD .junk) with
   | false => rw [hp] at hg; cases hg
   | true => rw [hp] at hg; exact fin (y := x) hg (ptr_put hs hp h0) (fun _ _ _ _ hh => by cases hh)
  | mref key =>
   simp only [getTS] at hg
   cases hp : mrefOk ob key (Vs.headD .junk) with
   | false => rw [hp] at hg; cases hg
   | true => rw [hp] at hg; exact fin (y := x) hg (mref_put hs hp h0) (fun _ _ _ _ hh => by cases hh)
  | own key =>
   simp only [getTS] at hg
   cases hV : Vs.headD .junk with
   | own key' ver =>
    rw [hV] at hg h0
    simp only at hg
    by_cases hk : key = key'
    ·subst hk
     have hg := (if_pos rfl).symm.trans hg
     by_cases hv : verOk ob key ver = true
     ·have hg : getTS tb ob l Vs.tail = some (x : TS T l) := (if_pos hv).symm.trans hg
      have hver : (getO ob key).ver = ver := by simpa [verOk] using hv
      refine fin hg (.own (Nat.zero_le _) (by cases h0 with | fz hz => cases hz | own _ h0 _ => exact h0) (fun fz e xs hk => ?_)) (fun _ _ _ _ hh => by cases hh)
      have hb := (hs key).2.2.1 fz e xs (by rw [hk])
      refine h0.own_eq (fz := fz) (e := e) (xs := xs) ?_
      cases ho : getO ob key with
      | mk a b => rw [ho] at hver hb; simp only at hver hb; subst hver; subst hb; rfl
     ·cases (if_neg hv).symm.trans hg
    ·cases (if_neg hk).symm.trans hg
   | _ => rw [hV] at hg; cases hg
  | ownx key k0 =>
   simp only [getTS] at hg
   cases hV : Vs.headD .junk with
   | ownx key' ver k0' v0 =>
    rw [hV] at hg h0
    simp only at hg
    by_cases hk : key = key' ∧ k0 = k0'
    ·obtain ⟨rfl, rfl⟩ := hk
     have hg := (if_pos ⟨rfl, rfl⟩).symm.trans hg
     by_cases hv : verOk ob key ver = true
     ·have hg := (if_pos hv).symm.trans hg
      by_cases hv0 : verOk ob k0 v0 = true
      ·have hg : getTS tb ob l Vs.tail = some (x : TS T l) := (if_pos hv0).symm.trans hg
       have hver : (getO ob key).ver = ver := by simpa [verOk] using hv
       have hver0 : (getO ob k0).ver = v0 := by simpa [verOk] using hv0
       refine fin hg (.ownx (Nat.zero_le _) (by cases h0 with | fz hz => cases hz | ownx _ h0 _ => exact h0) (fun e xs hk => ?_)) (fun _ _ _ _ hh => by cases hh)
       obtain ⟨_, v1, hb, hv1⟩ := (hs key).2.2.2.2 e xs k0 0 (by rw [hk])
       have hv1 : (getO ob k0).ver = v1 := by simpa [verOk] using hv1
       have : v1 = v0 := hv1.symm.trans hver0
       subst this
       refine h0.ownx_eq (e := e) (xs := xs) ?_
       cases ho : getO ob key with
       | mk a b => rw [ho] at hver hb; simp only at hver hb; subst hver; subst hb; rfl
      ·cases (if_neg hv0).symm.trans hg
     ·cases (if_neg hv).symm.trans hg
    ·cases (if_neg hk).symm.trans hg
   | _ => rw [hV] at hg; cases hg
  | clo f a b =>
   simp only [getTS] at hg
   cases hV : Vs.headD .junk with
   | clo f' as bs =>
    rw [hV] at hg h0
    simp only at hg
    by_cases hf : f = f'
    ·subst hf
     have hg := (if_pos rfl).symm.trans hg
     cases h1 : getC tb ob a as with
     | none => rw [h1] at hg; cases hg
     | some x1 =>
      cases h2 : getC tb ob b bs with
      | none => rw [h1, h2] at hg; cases hg
      | some x2 =>
       cases h3 : getTS tb ob l Vs.tail with
       | none => rw [h1, h2, h3] at hg; cases hg
       | some x3 =>
        rw [h1, h2, h3] at hg
        have hg : (x1, x2, x3) = x := Option.some.inj hg
        subst hg
        obtain ⟨fv, cv, hv, q1, q2, q3, q4⟩ := h0.clo_inv
        obtain ⟨i1, i2⟩ := getC_rep ok m hs a as x1 _ h1 q3
        obtain ⟨j1, j2⟩ := getC_rep ok m hs b bs x2 _ h2 q4
        refine fin h3 ?_ (fun _ _ _ _ hh => by cases hh)
        rw [hv]
        exact .clo (by rw [q1, i1]) (by rw [q2, j1]) i2 j2
    ·cases (if_neg hf).symm.trans hg
   | _ => rw [hV] at hg; cases hg
end Go.Fw
namespace Go.Fw
open Go.RowKit
set_option linter.unusedVariables false
set_option linter.unusedSimpArgs false
variable {T : Nat → Type} {P : Program} {tb : Tab T} {w0 : Base} {w : World} {N0 N : NS} {h : Nat → Value} {ob : List (Obj' T)}
inductive OBR (tb : Tab T) (ob : List (Obj' T)) : Body T → Body T → Prop
 | dead {b} : OBR tb ob b .dead
 | box {fz vs cs y} : cs.length = vs.length → getTS tb ob cs vs = some y → OBR tb ob (.box fz vs) (.box fz (putTS tb cs y))
 | srt {fz vs t y} : tb.unc t (resL ob vs) = some y → OBR tb ob (.box fz vs) (.box fz (tb.cells t y))
 | row {fz e xs} : OBR tb ob (.row fz e xs) (.row fz e xs)
 | rowx {e xs k0 v0} : verOk ob k0 v0 = true → OBR tb ob (.rowx e xs k0 v0) (.rowx e xs k0 0)
 | mp {kt vt kvs} : OBR tb ob (.mp kt vt kvs) (.mp kt vt kvs)
theorem getOb_rel {o : ObT} {b : Body T} {x : o.ty T} (hg : getOb tb ob o b = some x) : OBR tb ob b (putOb tb o x) := by
 cases o with
 | dead => exact .dead
 | box fz cs =>
  cases b with
  | box fz' vs =>
   by_cases hc : fz = fz' ∧ cs.length = vs.length
   ·have hg2 : getTS tb ob cs vs = some (x : TS T cs) := (if_pos hc).symm.trans hg
    obtain ⟨rfl, h1⟩ := hc
    exact .box h1 hg2
   ·cases (if_neg hc).symm.trans hg
  | _ => cases hg
 | srt fz t =>
  cases b with
  | box fz' vs =>
   by_cases hc : fz = fz'
   ·subst hc
    have hg2 : tb.unc t (resL ob vs) = some (x : T t) := (if_pos rfl).symm.trans hg
    exact .srt hg2
   ·cases (if_neg hc).symm.trans hg
  | _ => cases hg
 | row fz e =>
  cases b with
  | row fz' e' xs =>
   by_cases hc : fz = fz'
   ·subst hc
    have hg := (if_pos rfl).symm.trans hg
    by_cases he : e' = e
    ·subst he
     have hg : xs = (x : List (T e')) := Option.some.inj ((dif_pos rfl).symm.trans hg)
     subst hg
     exact .row
    ·cases (dif_neg he).symm.trans hg
   ·cases (if_neg hc).symm.trans hg
  | _ => cases hg
 | rowx e k0 =>
  cases b with
  | rowx e' xs k0' v0 =>
   by_cases hc : k0 = k0' ∧ verOk ob k0 v0 = true
   ·obtain ⟨rfl, hv⟩ := hc
    have hg := (if_pos ⟨rfl, hv⟩).symm.trans hg
    by_cases he : e' = e
    ·subst he
     have hg : xs = (x : List (T e')) := Option.some.inj ((dif_pos rfl).symm.trans hg)
     subst hg
     exact .rowx hv
    ·cases (dif_neg he).symm.trans hg
   ·cases (if_neg hc).symm.trans hg
  | _ => cases hg
 | mp kt vt =>
  cases b with
  | mp kt' vt' kvs =>
   by_cases hc : kt' = kt ∧ vt' = vt
   ·obtain ⟨rfl, rfl⟩ := hc
    have hg : kvs = (x : List (T kt' × T vt')) := Option.some.inj ((dif_pos ⟨rfl, rfl⟩).symm.trans hg)
    subst hg
    exact .mp
   ·cases (dif_neg hc).symm.trans hg
  | _ => cases hg
theorem getTO_rel : ∀ (l : List ObT) (os : List (Obj' T)) (x : TO T l), getTO tb ob l os = some x → (putTO tb l x).length = l.length ∧
  ∀ key, key < l.length → ((putTO tb l x).getD key ⟨0, .dead⟩).ver = 0 ∧ OBR tb ob (os.getD key ⟨0, .dead⟩).body ((putTO tb l x).getD key ⟨0, .dead⟩).body := by
 intro l
 induction l with
 | nil => intro os x _; exact ⟨rfl, fun key hk => by simp at hk⟩
 | cons o l ih =>
  intro os x hg
  have hhd : os.headD ⟨0, .dead⟩ = os.getD 0 ⟨0, .dead⟩ := by cases os <;> rfl
  have htl : ∀ t, os.tail.getD t ⟨0, .dead⟩ = os.getD (t + 1) ⟨0, .dead⟩ := fun t => by cases os <;> simp
  have fin : ∀ {y : TO T l} {b : Body T}, getTO tb ob l os.tail = some y → OBR tb ob (os.headD ⟨0, .dead⟩).body b → ((⟨0, b⟩ : Obj' T) :: putTO tb l y).length = l.length + 1 ∧
    ∀ key, key < l.length + 1 → (((⟨0, b⟩ : Obj' T) :: putTO tb l y).getD key ⟨0, .dead⟩).ver = 0 ∧ OBR tb ob (os.getD key ⟨0, .dead⟩).body (((⟨0, b⟩ : Obj' T) :: putTO tb l y).getD key ⟨0, .dead⟩).body := by
   intro y b hy hb
   obtain ⟨i1, i2⟩ := ih os.tail y hy
   refine ⟨by simp [i1], fun key hk => ?_⟩
   cases key with
   | zero => exact ⟨rfl, by rw [← hhd]; exact hb⟩
   | succ key =>
    have := i2 key (by omega)
    rw [htl] at this
    simpa using this
  cases o with
  | dead => exact fin (y := x) hg .dead
  | _ =>
   unfold getTO at hg
   split at hg
   ·rename_i xa xb ha hb
    have hx := Option.some.inj hg
    subst hx
    exact fin hb (getOb_rel ha)
   ·cases hg
theorem resL_get (ob : List (Obj' T)) (vs : List (Val T)) : (resL ob vs).length = vs.length ∧ ∀ (j : Nat), (resL ob vs)[j]? = (vs[j]?).map (res ob) := by
 induction vs with
 | nil => exact ⟨rfl, fun j => by simp [resL]⟩
 | cons v vs ih =>
  refine ⟨by simp [resL, ih.1], fun j => ?_⟩
  cases j with
  | zero => simp [resL]
  | succ j => simpa [resL] using ih.2 j
theorem put_inv (ok : TabOk P tb) {s : St T} {a : Act} (inv : Inv tb w0 N0 N h s a w) {p : Tpl} {x : p.ty T} (hg : p.get tb s = some x) : Inv tb w0 N0 N h (p.put tb x) a w := by
 unfold Tpl.get at hg
 split at hg
 ·rename_i hl1
  split at hg
  ·rename_i hl2
   cases h1 : getTS tb s.ob p.sl s.sl with
   | none => rw [h1] at hg; cases hg
   | some x1 =>
    cases h2 : getTO tb s.ob p.ob s.ob with
    | none => rw [h1, h2] at hg; cases hg
    | some x2 =>
     rw [h1, h2] at hg
     have hx : (x1, x2) = x := Option.some.inj hg
     subst hx
     obtain ⟨o1, o2⟩ := getTO_rel p.ob s.ob x2 h2
     have hob : ∀ key, getO (p.put tb (x1, x2)).ob key = ⟨0, (getO (p.put tb (x1, x2)).ob key).body⟩ ∧ OBR tb s.ob (getO s.ob key).body (getO (p.put tb (x1, x2)).ob key).body := by
      intro key
      unfold getO Tpl.put
      by_cases hk : key < p.ob.length
      ·obtain ⟨h1, h2⟩ := o2 key hk
       refine ⟨?_, h2⟩
       cases hh : (putTO tb p.ob x2).getD key ⟨0, .dead⟩ with
       | mk a b => rw [hh] at h1; simp only at h1; rw [h1]
      ·have : (putTO tb p.ob x2).getD key ⟨0, .dead⟩ = ⟨0, .dead⟩ := by
        rw [List.getD_eq_getElem?_getD, List.getElem?_eq_none (by omega)]; rfl
       simp only
       rw [this]
       exact ⟨rfl, .dead⟩
     have hsame : Same0 s.ob (p.put tb (x1, x2)).ob := by
      intro key
      obtain ⟨e1, e2⟩ := hob key
      refine ⟨by rw [e1], fun fz cs hb => ?_, fun fz e xs hb => ?_, fun kt vt kvs hb => ?_, fun e xs k0 v0 hb => ?_⟩
      ·rw [hb] at e2
       cases hbb : (getO s.ob key).body with
       | box fz' vs => rw [hbb] at e2; cases e2 <;> exact ⟨_, rfl⟩
       | _ => rw [hbb] at e2; cases e2
      ·rw [hb] at e2
       cases hbb : (getO s.ob key).body with
       | row fz' e' xs' => rw [hbb] at e2; cases e2; rfl
       | _ => rw [hbb] at e2; cases e2
      ·rw [hb] at e2
       cases hbb : (getO s.ob key).body with
       | mp kt' vt' kvs' => rw [hbb] at e2; cases e2; rfl
       | _ => rw [hbb] at e2; cases e2
      ·rw [hb] at e2
       cases hbb : (getO s.ob key).body with
       | rowx e' xs' k1 v1 => rw [hbb] at e2; cases e2 with | rowx hv => exact ⟨rfl, _, rfl, hv⟩
       | _ => rw [hbb] at e2; cases e2
     have hslots := getTS_rep ok inv.mem hsame p.sl s.sl x1 (fun t => a.tmps.getD t undef) h1 inv.slots
     have hmut : ∀ key, mutb (getO (p.put tb (x1, x2)).ob key).body = true → mutb (getO s.ob key).body = true ∧ lim tb (getO (p.put tb (x1, x2)).ob key).body = lim tb (getO s.ob key).body ∧ isRow (getO (p.put tb (x1, x2)).ob key).body = isRow (getO s.ob key).body := by
      intro key hm
      obtain ⟨_, e2⟩ := hob key
      revert hm
      generalize (getO s.ob key).body = b0 at e2
      generalize (getO (p.put tb (x1, x2)).ob key).body = b1 at e2
      cases e2 with
      | dead => intro hm; cases hm
      | @box fz _ _ _ a b => intro hm; cases fz <;> first | exact ⟨rfl, rfl, rfl⟩ | cases hm
      | @srt fz _ _ _ a => intro hm; cases fz <;> first | exact ⟨rfl, rfl, rfl⟩ | cases hm
      | row => intro hm; exact ⟨hm, rfl, rfl⟩
      | rowx => intro hm; exact ⟨hm, rfl, rfl⟩
      | mp => intro hm; exact ⟨hm, rfl, rfl⟩
     refine ⟨⟨inv.mem.below, inv.mem.nlt, inv.mem.n0, inv.mem.n1, fun key => ?_, fun key b hm hb => ?_, fun k k' b hne hm hm' hb => inv.mem.dist k k' b hne (hmut k hm).1 (hmut k' hm').1 hb, fun key hk => ?_, inv.mem.glob⟩, inv.dfr, ?_, ?_, fun t => ?_, fun y t' w' e v hy => ?_⟩
     ·obtain ⟨_, e2⟩ := hob key
      have hbd := inv.mem.objs key
      generalize (getO s.ob key).body = b0 at e2 hbd
      generalize (getO (p.put tb (x1, x2)).ob key).body = b1 at e2
      cases e2 with
      | dead => trivial
      | @box fz vs cs y hlen hgs =>
       have key1 : ∀ (us : Nat → Value), (∀ (j : Nat) V, vs[j]? = some V → Rep tb w N h s.ob V (us j)) → (putTS tb cs y).length = cs.length ∧ ∀ (j : Nat) V, (putTS tb cs y)[j]? = some V → Rep tb w N h (p.put tb (x1, x2)).ob V (us j) := by
        intro us hus
        obtain ⟨g1, g2⟩ := getTS_rep ok inv.mem hsame cs vs y us hgs (fun t => by
         by_cases ht : t < vs.length
         ·have hv := List.getElem?_eq_getElem ht
          rw [List.getD_eq_getElem?_getD, hv]
          exact hus t _ hv
         ·rw [List.getD_eq_getElem?_getD, List.getElem?_eq_none (by omega)]
          exact .junk)
        exact ⟨g1, fun j V hV => (g2 j V hV).1⟩
       cases fz with
       | false =>
        obtain ⟨b, e, cv, hh, hb, hsz, hc⟩ := hbd
        obtain ⟨g1, g2⟩ := key1 (fun t => cv.getD t undef) hc
        exact ⟨b, e, cv, hh, hb, by rw [hsz, g1, hlen], g2⟩
       | true =>
        obtain ⟨b, us, hh, n1, n2, n3⟩ := hbd
        obtain ⟨g1, g2⟩ := key1 us n3
        exact ⟨b, us, hh, fun j hj => n1 j (by omega), fun j hj => n2 j (by omega), g2⟩
      | @srt fz vs t y hu =>
       have hsim := ok.unc _ _ _ hu
       have hpu := ok.uncp _ _ _ hu
       obtain ⟨r1, r2⟩ := resL_get s.ob vs
       have key2 : ∀ (us : Nat → Value), (∀ (j : Nat) V, vs[j]? = some V → Rep tb w N h s.ob V (us j)) → ∀ (j : Nat) V, (tb.cells t y)[j]? = some V → Fz tb w N V (us j) := by
        intro us hus j V hV
        have hj : j < (resL s.ob vs).length := by rw [← hsim.1]; exact (List.getElem?_eq_some_iff.1 hV).1
        have hd := List.getElem?_eq_getElem hj
        have hsm := hsim.2 j V _ hV hd
        have hjv : j < vs.length := by omega
        have hr2 := r2 j
        rw [hd, List.getElem?_eq_getElem hjv] at hr2
        simp only [Option.map_some, Option.some.injEq] at hr2
        rw [hr2] at hsm
        exact ((res_rep ok inv.mem (hus j _ (List.getElem?_eq_getElem hjv))).pure1 (hsm.pure (hpu V (List.mem_of_getElem? hV)))).sim hsm
       have hl : (tb.cells t y).length = vs.length := by rw [hsim.1, r1]
       cases fz with
       | false =>
        obtain ⟨b, e, cv, hh, hb, hsz, hc⟩ := hbd
        exact ⟨b, e, cv, hh, hb, by rw [hsz, hl], fun j V hV => .fz (key2 (fun j => cv.getD j undef) hc j V hV)⟩
       | true =>
        obtain ⟨b, us, hh, n1, n2, n3⟩ := hbd
        exact ⟨b, us, hh, fun j hj => n1 j (by omega), fun j hj => n2 j (by omega), fun j V hV => .fz (key2 us n3 j V hV)⟩
      | @row fz e xs => exact hbd
      | @rowx e xs k0 v0 hv =>
       obtain ⟨q1, q2, cvs, hv0, q3, q4, q5⟩ := hbd
       refine ⟨q1, q2, cvs, hv0, q3, q4, .own (Nat.zero_le _) (by cases q5 with | fz hz => cases hz | own _ h0 _ => exact h0) (fun fz e' xs' hk => ?_)⟩
       have hb := (hsame k0).2.2.1 fz e' xs' (by rw [hk])
       have hver : (getO s.ob k0).ver = v0 := by simpa [verOk] using hv
       refine q5.own_eq (fz := fz) (e := e') (xs := xs') ?_
       cases ho : getO s.ob k0 with
       | mk a b => rw [ho] at hver hb; simp only at hver hb; subst hver; subst hb; rfl
      | mp => exact hbd
     ·obtain ⟨q1, q2, q3⟩ := hmut key hm
      rw [q2]
      exact inv.mem.live key b q1 hb
     ·obtain ⟨q1, q2, q3⟩ := inv.mem.ext key hk
      obtain ⟨e1, e2⟩ := hob key
      refine ⟨q1, by rw [e1], ?_⟩
      revert q3
      generalize (getO s.ob key).body = b0 at e2
      generalize (getO (p.put tb (x1, x2)).ob key).body = b1 at e2
      cases e2 <;> intro q3 <;> first | rfl | exact q3
     ·rw [inv.sz]
      exact (hl1.symm.trans hslots.1.symm)
     ·have : (p.put tb (x1, x2)).sl.length = s.sl.length := hslots.1.trans hl1
      rw [this]; exact inv.nn
     ·unfold St.get Tpl.put
      simp only
      by_cases ht : t < (putTS tb p.sl x1).length
      ·have hv := List.getElem?_eq_getElem ht
       rw [List.getD_eq_getElem?_getD, hv]
       exact (hslots.2 t _ hv).1
      ·rw [List.getD_eq_getElem?_getD, List.getElem?_eq_none (by omega)]
       exact .junk
     ·exfalso
      unfold St.get Tpl.put at hy
      simp only at hy
      by_cases ht : y < (putTS tb p.sl x1).length
      ·have hv := List.getElem?_eq_getElem ht
       rw [List.getD_eq_getElem?_getD, hv] at hy
       exact (hslots.2 y _ hv).2 _ _ _ _ hy
      ·rw [List.getD_eq_getElem?_getD, List.getElem?_eq_none (by omega)] at hy
       cases hy
  ·cases hg
 ·cases hg
end Go.Fw
namespace Go.Fw
open Go.RowKit
set_option linter.unusedVariables false
set_option linter.unusedSimpArgs false
variable {T : Nat → Type} {tb : Tab T}
theorem inB_iff {n : Nat} {l : List Nat} : inB n l = true ↔ n ∈ l := by
 induction l with
 | nil => simp [inB]
 | cons a r ih =>
  simp only [inB, Bool.or_eq_true, ih, List.mem_cons]
  constructor
  ·rintro (h | h)
   ·exact .inl (Nat.eq_of_beq_eq_true h).symm
   ·exact .inr h
  ·rintro (h | h)
   ·exact .inl (by subst h; exact Nat.beq_refl _)
   ·exact .inr h
theorem refsL_mem {v : Val T} {cs : List (Val T)} (h : v ∈ cs) : v.refs ⊆ refsL cs := by
 induction cs with
 | nil => cases h
 | cons c cs ih =>
  intro k hk
  simp only [refsL, List.mem_append]
  rcases List.mem_cons.1 h with rfl | h
  ·exact .inl hk
  ·exact .inr (ih h hk)
theorem refsL_sub {cs ds : List (Val T)} (h : ∀ v ∈ cs, v ∈ ds) : refsL cs ⊆ refsL ds := by
 induction cs with
 | nil => intro k hk; simp [refsL] at hk
 | cons c cs ih =>
  intro k hk
  simp only [refsL, List.mem_append] at hk
  rcases hk with hk | hk
  ·exact refsL_mem (h c (by simp)) hk
  ·exact ih (fun v hv => h v (by simp [hv])) hk
theorem refsL_append (cs ds : List (Val T)) : refsL (cs ++ ds) = refsL cs ++ refsL ds := by
 induction cs with
 | nil => rfl
 | cons c cs ih => simp [refsL, ih]
def AgF (F : List Nat) (ob1 ob2 : List (Obj' T)) : Prop := ob1.length = ob2.length ∧ ∀ k, k ∈ F → getO ob1 k = getO ob2 k
def Loc (F : List Nat) (ob1 ob2 a1 a2 : List (Obj' T)) : Prop :=
 AgF F a1 a2 ∧ (∀ k, k ∉ F → getO a1 k = getO ob1 k) ∧ (∀ k, k ∉ F → getO a2 k = getO ob2 k) ∧ a1.length = ob1.length ∧ a2.length = ob2.length
variable {F : List Nat} {ob1 ob2 a1 a2 b1 b2 : List (Obj' T)}
theorem Loc.refl (h : AgF F ob1 ob2) : Loc F ob1 ob2 ob1 ob2 := ⟨h, fun _ _ => rfl, fun _ _ => rfl, rfl, rfl⟩
theorem Loc.set (h : AgF F ob1 ob2) {k : Nat} (hk : k ∈ F) (X : Obj' T) : Loc F ob1 ob2 (ob1.set k X) (ob2.set k X) := by
 refine ⟨⟨by simp [h.1], fun k' hk' => ?_⟩, fun k' hk' => getO_set_ne (fun hh => hk' (hh ▸ hk)), fun k' hk' => getO_set_ne (fun hh => hk' (hh ▸ hk)), by simp, by simp⟩
 rw [getO_set, getO_set, h.1, h.2 k' hk']
theorem Loc.trans (h : Loc F ob1 ob2 a1 a2) (h' : Loc F a1 a2 b1 b2) : Loc F ob1 ob2 b1 b2 :=
 ⟨h'.1, fun k hk => (h'.2.1 k hk).trans (h.2.1 k hk), fun k hk => (h'.2.2.1 k hk).trans (h.2.2.1 k hk), h'.2.2.2.1.trans h.2.2.2.1, h'.2.2.2.2.trans h.2.2.2.2⟩
def LocO {α : Type} (F : List Nat) (ob1 ob2 : List (Obj' T)) : Option (α × List (Obj' T)) → Option (α × List (Obj' T)) → Prop
 | none, none => True
 | some (a, o1), some (b, o2) => a = b ∧ Loc F ob1 ob2 o1 o2
 | _, _ => False
theorem res_loc (h : AgF F ob1 ob2) {V : Val T} (hV : V.refs ⊆ F) : res ob1 V = res ob2 V := by
 cases V with
 | own k ver => simp only [res]; rw [h.2 k (hV (by simp [Val.refs]))]
 | _ => rfl
theorem readAt_loc (h : AgF F ob1 ob2) {V : Val T} (hV : V.refs ⊆ F) (ag : Bool) (size : Nat) : readAt tb ob1 ag size V = readAt tb ob2 ag size V := by
 cases V with
 | ptr k ver off => simp only [readAt]; rw [h.2 k (hV (by simp [Val.refs]))]
 | rad k ver i off => simp only [readAt]; rw [h.2 k (hV (by simp [Val.refs]))]
 | radx k ver => simp only [readAt]; rw [h.2 k (hV (by simp [Val.refs]))]
 | _ => rfl
theorem lenV_loc (h : AgF F ob1 ob2) {V : Val T} (hV : V.refs ⊆ F) : lenV ob1 V = lenV ob2 V := by
 cases V with
 | own k ver => simp only [lenV]; rw [h.2 k (hV (by simp [Val.refs]))]
 | _ => rfl
theorem lstV_loc (h : AgF F ob1 ob2) {V : Val T} (hV : V.refs ⊆ F) (e k0 : Nat) : lstV ob1 e k0 V = lstV ob2 e k0 V := by
 cases V with
 | own k ver => simp only [lstV]; rw [h.2 k (hV (by simp [Val.refs]))]
 | _ => rfl
theorem lend1_loc (h : AgF F ob1 ob2) {V : Val T} (hV : V.refs ⊆ F) : lend1 tb ob1 V = lend1 tb ob2 V := by
 cases V with
 | own k ver => simp only [lend1]; rw [h.2 k (hV (by simp [Val.refs]))]
 | ownx k ver k0 v0 => simp only [lend1]; rw [h.2 k (hV (by simp [Val.refs])), h.2 k0 (hV (by simp [Val.refs]))]
 | _ => rfl
theorem lendL_loc (h : AgF F ob1 ob2) : ∀ {cs : List (Val T)}, refsL cs ⊆ F → lendL tb ob1 cs = lendL tb ob2 cs := by
 intro cs
 induction cs with
 | nil => intro _; rfl
 | cons c cs ih =>
  intro hc
  simp only [refsL, List.append_subset] at hc
  simp only [lendL]
  rw [lend1_loc h hc.1, ih hc.2]
theorem lend_loc (h : AgF F ob1 ob2) {V : Val T} (hV : V.refs ⊆ F) : lend tb ob1 V = lend tb ob2 V := by
 cases V with
 | agg cs => simp only [lend]; rw [lendL_loc h (by simpa [Val.refs] using hV)]
 | _ => exact lend1_loc (tb := tb) h hV
theorem lendA_loc (h : AgF F ob1 ob2) : ∀ {cs : List (Val T)}, refsL cs ⊆ F → lendA tb ob1 cs = lendA tb ob2 cs := by
 intro cs
 induction cs with
 | nil => intro _; rfl
 | cons c cs ih =>
  intro hc
  simp only [refsL, List.append_subset] at hc
  simp only [lendA]
  rw [lend_loc h hc.1, ih hc.2]
theorem frz1_loc (h : AgF F ob1 ob2) {V : Val T} (hV : V.refs ⊆ F) : LocO F ob1 ob2 (frz1 ob1 V) (frz1 ob2 V) := by
 have other : ∀ V' : Val T, LocO F ob1 ob2 (if V'.pure1 then some (V', ob1) else none) (if V'.pure1 then some (V', ob2) else none) := fun V' => by
  by_cases hp : V'.pure1 = true
  ·rw [if_pos hp, if_pos hp]; exact ⟨rfl, Loc.refl h⟩
  ·rw [if_neg hp, if_neg hp]; trivial
 have hV' := other V
 clear other
 cases V with
 | own k ver =>
  have hk : k ∈ F := hV (by simp [Val.refs])
  simp only [frz1]
  rw [h.2 k hk]
  split
  ·split
   ·exact ⟨rfl, Loc.set h hk _⟩
   ·trivial
  ·trivial
 | ptr k ver off =>
  have hk : k ∈ F := hV (by simp [Val.refs])
  simp only [frz1]
  rw [h.2 k hk]
  split
  ·split
   ·split
    ·exact ⟨rfl, Loc.refl h⟩
    ·trivial
   ·trivial
  ·trivial
 | _ => exact hV'
theorem LocO.cases {α : Type} {x y : Option (α × List (Obj' T))} (h : LocO F ob1 ob2 x y) : (x = none ∧ y = none) ∨ ∃ a o1 o2, x = some (a, o1) ∧ y = some (a, o2) ∧ Loc F ob1 ob2 o1 o2 := by
 match x, y, h with
 | none, none, _ => exact .inl ⟨rfl, rfl⟩
 | some (a, o1), some (b, o2), h => obtain ⟨rfl, h⟩ := h; exact .inr ⟨a, o1, o2, rfl, rfl, h⟩
theorem LocO.trans {α : Type} {x y : Option (α × List (Obj' T))} (h : Loc F ob1 ob2 a1 a2) (h' : LocO F a1 a2 x y) : LocO F ob1 ob2 x y := by
 rcases h'.cases with ⟨rfl, rfl⟩ | ⟨a, o1, o2, rfl, rfl, h2⟩
 ·trivial
 ·exact ⟨rfl, h.trans h2⟩
theorem frzL_loc : ∀ {cs : List (Val T)} {ob1 ob2 : List (Obj' T)}, AgF F ob1 ob2 → refsL cs ⊆ F → LocO F ob1 ob2 (frzL cs ob1) (frzL cs ob2) := by
 intro cs
 induction cs with
 | nil => intro ob1 ob2 h _; exact ⟨rfl, Loc.refl h⟩
 | cons c cs ih =>
  intro ob1 ob2 h hc
  simp only [refsL, List.append_subset] at hc
  simp only [frzL]
  rcases (frz1_loc h hc.1).cases with ⟨e1, e2⟩ | ⟨a, o1, o2, e1, e2, l1⟩
  ·rw [e1, e2]; trivial
  ·rw [e1, e2]
   simp only
   rcases (ih l1.1 hc.2).cases with ⟨e3, e4⟩ | ⟨b, o3, o4, e3, e4, l2⟩
   ·rw [e3, e4]; trivial
   ·rw [e3, e4]; exact ⟨rfl, l1.trans l2⟩
theorem frz_loc (h : AgF F ob1 ob2) {V : Val T} (hV : V.refs ⊆ F) : LocO F ob1 ob2 (frz ob1 V) (frz ob2 V) := by
 cases V with
 | agg cs =>
  simp only [frz]
  rcases (frzL_loc h (cs := cs) (by simpa [Val.refs] using hV)).cases with ⟨e3, e4⟩ | ⟨b, o3, o4, e3, e4, l2⟩
  ·rw [e3, e4]; trivial
  ·rw [e3, e4]; exact ⟨rfl, l2⟩
 | _ => exact frz1_loc h hV
theorem frzA_loc : ∀ {cs : List (Val T)} {ob1 ob2 : List (Obj' T)}, AgF F ob1 ob2 → refsL cs ⊆ F → LocO F ob1 ob2 (frzA cs ob1) (frzA cs ob2) := by
 intro cs
 induction cs with
 | nil => intro ob1 ob2 h _; exact ⟨rfl, Loc.refl h⟩
 | cons c cs ih =>
  intro ob1 ob2 h hc
  simp only [refsL, List.append_subset] at hc
  simp only [frzA]
  rcases (frz_loc h hc.1).cases with ⟨e1, e2⟩ | ⟨a, o1, o2, e1, e2, l1⟩
  ·rw [e1, e2]; trivial
  ·rw [e1, e2]
   simp only
   rcases (ih l1.1 hc.2).cases with ⟨e3, e4⟩ | ⟨b, o3, o4, e3, e4, l2⟩
   ·rw [e3, e4]; trivial
   ·rw [e3, e4]; exact ⟨rfl, l1.trans l2⟩
theorem cellsV_refs {V : Val T} {cs : List (Val T)} (h : cellsV V = some cs) : refsL cs ⊆ V.refs := by
 cases V with
 | agg ds => simp only [cellsV, Option.some.injEq] at h; subst h; simp [Val.refs]
 | junk => cases h
 | tup _ => cases h
 | cnd _ _ _ _ => cases h
 | mpv _ _ _ => cases h
 | _ => simp only [cellsV, Option.some.injEq] at h; subst h; simp [refsL]
theorem elemsV_loc {ρ : Operand → Val T} {e : Nat} : ∀ {l : List (Nat × Operand)} {n : Nat} {ob1 ob2 : List (Obj' T)}, AgF F ob1 ob2 → (∀ p ∈ l, (ρ p.2).refs ⊆ F) → LocO F ob1 ob2 (elemsV tb e ρ l n ob1) (elemsV tb e ρ l n ob2) := by
 intro l
 induction l with
 | nil => intro n ob1 ob2 h _; exact ⟨rfl, Loc.refl h⟩
 | cons p l ih =>
  intro n ob1 ob2 h hl
  obtain ⟨i, x⟩ := p
  simp only [elemsV]
  split
  ·cases hcs : cellsV (ρ x) with
   | none => trivial
   | some cs =>
    simp only
    split
    ·rcases (frzL_loc h (cs := cs) ((cellsV_refs hcs).trans (hl (i, x) (by simp)))).cases with ⟨e1, e2⟩ | ⟨a, o1, o2, e1, e2, l1⟩
     ·rw [e1, e2]; trivial
     ·rw [e1, e2]
      simp only
      cases tb.unc e a with
      | none => trivial
      | some y =>
       simp only
       rcases (ih (n := n + 1) l1.1 (fun p hp => hl p (by simp [hp]))).cases with ⟨e3, e4⟩ | ⟨b, o3, o4, e3, e4, l2⟩
       ·rw [e3, e4]; trivial
       ·rw [e3, e4]; exact ⟨rfl, l1.trans l2⟩
    ·trivial
  ·trivial
def LocR {rk : Nat → List Knd} (F : List Nat) (ob1 ob2 : List (Obj' T)) : OpR T rk → OpR T rk → Prop
 | .bad, .bad => True
 | .ok c v o1, .ok c' v' o2 => c = c' ∧ v = v' ∧ Loc F ob1 ob2 o1 o2
 | .call f as L o1, .call f' as' L' o2 => f = f' ∧ as = as' ∧ L = L' ∧ Loc F ob1 ob2 o1 o2
 | _, _ => False
theorem LocR.same (h : AgF F ob1 ob2) {rk : Nat → List Knd} (c : Bool) (v : Val T) : LocR F ob1 ob2 (.ok c v ob1 : OpR T rk) (.ok c v ob2) := ⟨rfl, rfl, Loc.refl h⟩
theorem newRow_loc (h : AgF F ob1 ob2) {d : Nat} (hd : d ∈ F) (e : Nat) (xs : List (T e)) {rk : Nat → List Knd} (c : Bool) : LocR F ob1 ob2 (.ok c (newRow ob1 d e xs).1 (newRow ob1 d e xs).2 : OpR T rk) (.ok c (newRow ob2 d e xs).1 (newRow ob2 d e xs).2) := by
 simp only [newRow]
 rw [h.2 d hd]
 exact ⟨rfl, rfl, Loc.set h hd _⟩
theorem newBox_loc (h : AgF F ob1 ob2) {d : Nat} (hd : d ∈ F) (cs : List (Val T)) {rk : Nat → List Knd} (c : Bool) : LocR F ob1 ob2 (.ok c (newBox ob1 d cs).1 (newBox ob1 d cs).2 : OpR T rk) (.ok c (newBox ob2 d cs).1 (newBox ob2 d cs).2) := by
 simp only [newBox]
 rw [h.2 d hd]
 exact ⟨rfl, rfl, Loc.set h hd _⟩
theorem LocR.later {rk : Nat → List Knd} {x y : OpR T rk} (h : Loc F ob1 ob2 a1 a2) (h' : LocR F a1 a2 x y) : LocR F ob1 ob2 x y := by
 match x, y, h' with
 | .bad, .bad, _ => trivial
 | .ok c v o1, .ok c' v' o2, ⟨e1, e2, l⟩ => exact ⟨e1, e2, h.trans l⟩
 | .call f as L o1, .call f' as' L' o2, ⟨e1, e2, e3, l⟩ => exact ⟨e1, e2, e3, h.trans l⟩
theorem newRowx_loc (h : AgF F ob1 ob2) {d : Nat} (hd : d ∈ F) (e k0 v0 : Nat) {rk : Nat → List Knd} (c : Bool) : LocR F ob1 ob2 (.ok c (newRowx ob1 d e k0 v0).1 (newRowx ob1 d e k0 v0).2 : OpR T rk) (.ok c (newRowx ob2 d e k0 v0).1 (newRowx ob2 d e k0 v0).2) := by
 simp only [newRowx]
 rw [h.2 d hd]
 exact ⟨rfl, rfl, Loc.set h hd _⟩
theorem nestV_loc (h : AgF F ob1 ob2) {t d : Nat} {vs : List (Val T)} (hv : refsL vs ⊆ F) : nestV tb t ob1 d vs = nestV tb t ob2 d vs := by
 unfold nestV
 split
 ·rename_i k0 v0
  rw [h.2 k0 (hv (by simp [refsL, Val.refs]))]
 ·rfl
theorem appX_loc (h : AgF F ob1 ob2) {rk : Nat → List Knd} {e k ver kb vb k0 v0 : Nat} (hk : k ∈ F) (hkb : kb ∈ F) : LocR F ob1 ob2 (appX tb (rk := rk) ob1 e k ver kb vb k0 v0) (appX tb ob2 e k ver kb vb k0 v0) := by
 unfold appX
 rw [h.2 k hk, h.2 kb hkb]
 split
 ·split
  ·exact ⟨rfl, rfl, Loc.set h hk _⟩
  ·trivial
 ·trivial
theorem appV_loc (h : AgF F ob1 ob2) {rk : Nat → List Knd} {d e : Nat} {a b : Val T} (hd : d ∈ F) (ha : a.refs ⊆ F) (hb : b.refs ⊆ F) : LocR F ob1 ob2 (appV tb (rk := rk) ob1 d e a b) (appV tb ob2 d e a b) := by
 cases a with
 | nil =>
  simp only [appV]
  rw [lstV_loc h hb]
  split
  ·exact newRow_loc h hd _ _ _
  ·trivial
 | own k ver =>
  have hk : k ∈ F := ha (by simp [Val.refs])
  simp only [appV]
  split
  ·rename_i kb vb k0 v0
   exact appX_loc h hk (hb (by simp [Val.refs]))
  ·rw [h.2 k hk, lstV_loc h hb]
   split
   ·split
    ·split
     ·split
      ·exact ⟨rfl, rfl, Loc.set h hk _⟩
      ·trivial
     ·trivial
    ·trivial
   ·trivial
 | _ => trivial
theorem newMap_loc (h : AgF F ob1 ob2) {d : Nat} (hd : d ∈ F) (kt vt : Nat) {rk : Nat → List Knd} (c : Bool) : LocR F ob1 ob2 (.ok c (newMap ob1 d kt vt).1 (newMap ob1 d kt vt).2 : OpR T rk) (.ok c (newMap ob2 d kt vt).1 (newMap ob2 d kt vt).2) := by
 simp only [newMap]
 rw [h.2 d hd]
 exact ⟨rfl, rfl, Loc.set h hd _⟩
theorem cap1_loc (h : AgF F ob1 ob2) {V : Val T} (hV : V.refs ⊆ F) : cap1 ob1 V = cap1 ob2 V := by
 cases V <;> first | rfl | (simp only [cap1]; rw [res_loc h hV])
theorem capV_loc (h : AgF F ob1 ob2) {V : Val T} (hV : V.refs ⊆ F) : capV ob1 V = capV ob2 V := by
 cases V <;> first | rfl | exact cap1_loc h hV
theorem capA_loc (h : AgF F ob1 ob2) : ∀ {cs : List (Val T)}, refsL cs ⊆ F → capA ob1 cs = capA ob2 cs := by
 intro cs
 induction cs with
 | nil => intro _; rfl
 | cons c cs ih =>
  intro hc
  simp only [refsL, List.append_subset] at hc
  simp only [capA]
  rw [capV_loc h hc.1, ih hc.2]
theorem keysOf_loc (h : AgF F ob1 ob2) : ∀ {ks L : List Nat}, ks ⊆ F → keysOf ob1 L ks = keysOf ob2 L ks := by
 intro ks
 induction ks with
 | nil => intro L _; rfl
 | cons k ks ih =>
  intro L hk
  have h1 : k ∈ F := hk (by simp)
  have h2 : ks ⊆ F := fun x hx => hk (by simp [hx])
  unfold keysOf
  rw [h.2 k h1]
  split
  ·exact ih h2
  ·exact ih h2
  ·exact ih h2
theorem keysOf_sub (ob : List (Obj' T)) : ∀ {ks L G : List Nat}, ks ⊆ G → L ⊆ G → keysOf ob L ks ⊆ G := by
 intro ks
 induction ks with
 | nil => intro L G _ hL; exact hL
 | cons k ks ih =>
  intro L G hk hL
  have h1 : k ∈ G := hk (by simp)
  have h2 : ks ⊆ G := fun x hx => hk (by simp [hx])
  have hstep : (bif inB k L then L else L ++ [k]) ⊆ G := by
   cases inB k L with
   | true => exact hL
   | false => exact List.append_subset.2 ⟨hL, by simpa using h1⟩
  unfold keysOf
  split
  ·exact ih h2 hstep
  ·exact ih h2 hstep
  ·exact ih h2 hL
theorem keysOf_sup (ob : List (Obj' T)) : ∀ {ks L : List Nat}, L ⊆ keysOf ob L ks := by
 intro ks
 induction ks with
 | nil => intro L x hx; exact hx
 | cons k ks ih =>
  intro L
  have hstep : L ⊆ (bif inB k L then L else L ++ [k]) := by
   cases inB k L with
   | true => exact fun x hx => hx
   | false => exact fun x hx => List.mem_append_left _ hx
  unfold keysOf
  split
  ·exact fun x hx => ih (hstep hx)
  ·exact fun x hx => ih (hstep hx)
  ·exact ih
theorem bodiesRefs_loc (h : AgF F ob1 ob2) : ∀ {ks : List Nat}, ks ⊆ F → bodiesRefs ob1 ks = bodiesRefs ob2 ks := by
 intro ks
 induction ks with
 | nil => intro _; rfl
 | cons k ks ih =>
  intro hk
  simp only [bodiesRefs]
  rw [h.2 k (hk (by simp)), ih fun x hx => hk (by simp [hx])]
theorem bodiesRefs_mem {ob : List (Obj' T)} {k : Nat} : ∀ {ks : List Nat}, k ∈ ks → bodyRefs (getO ob k).body ⊆ bodiesRefs ob ks := by
 intro ks
 induction ks with
 | nil => intro h; cases h
 | cons a ks ih =>
  intro h x hx
  simp only [bodiesRefs, List.mem_append]
  rcases List.mem_cons.1 h with rfl | h
  ·exact .inl hx
  ·exact .inr (ih h hx)
theorem bodiesRefs_sub {ob : List (Obj' T)} : ∀ {ks ls : List Nat}, ks ⊆ ls → bodiesRefs ob ks ⊆ bodiesRefs ob ls := by
 intro ks
 induction ks with
 | nil => intro ls _ x hx; cases hx
 | cons a ks ih =>
  intro ls h x hx
  simp only [bodiesRefs, List.mem_append] at hx
  rcases hx with hx | hx
  ·exact bodiesRefs_mem (h (by simp)) hx
  ·exact ih (fun y hy => h (by simp [hy])) hx
theorem extK_sup (ob : List (Obj' T)) : ∀ (n : Nat) (L : List Nat), L ⊆ extK ob n L := by
 intro n
 induction n with
 | zero => intro L x hx; exact hx
 | succ n ih => intro L x hx; exact ih _ (keysOf_sup ob hx)
theorem extK_loc (h : AgF F ob1 ob2) : ∀ (n : Nat) (L : List Nat), L ⊆ F → bodiesRefs ob1 (extK ob1 n L) ⊆ F → extK ob1 n L = extK ob2 n L ∧ extK ob1 n L ⊆ F := by
 intro n
 induction n with
 | zero => intro L hL _; exact ⟨rfl, hL⟩
 | succ n ih =>
  intro L hL hx
  have h3 : bodiesRefs ob1 L ⊆ F := fun x hx' => hx (bodiesRefs_sub (fun y hy => extK_sup ob1 n _ (keysOf_sup ob1 hy)) hx')
  have he : keysOf ob1 L (bodiesRefs ob1 L) = keysOf ob2 L (bodiesRefs ob2 L) := by
   rw [← bodiesRefs_loc h hL]; exact keysOf_loc h h3
  unfold extK at hx ⊢
  rw [← he]
  exact ih _ (keysOf_sub ob1 h3 hL) hx
theorem extKeys_loc (h : AgF F ob1 ob2) {args : List (Val T)} (ha : refsL args ⊆ F) (hx : bodiesRefs ob1 (extKeys ob1 args) ⊆ F) : extKeys ob1 args = extKeys ob2 args ∧ extKeys ob1 args ⊆ F := by
 have h1 := keysOf_loc h (L := []) ha
 have h2 : keysOf ob1 [] (refsL args) ⊆ F := keysOf_sub ob1 ha (by simp)
 unfold extKeys at hx ⊢
 rw [← h1]
 revert h2 hx
 cases keysOf ob1 [] (refsL args) with
 | nil => intro hx h2; exact ⟨rfl, h2⟩
 | cons k ks => intro hx h2; exact extK_loc h 3 _ h2 hx
mutual
theorem pass_loc (h : AgF F ob1 ob2) {L : List Nat} {nb : Nat} {V : Val T} (hV : V.refs ⊆ F) : pass ob1 L nb V = pass ob2 L nb V := by
 cases V with
 | own k ver => simp only [pass]; rw [h.2 k (hV (by simp [Val.refs]))]
 | ptr k ver off => simp only [pass]; rw [h.2 k (hV (by simp [Val.refs]))]
 | mref k ver => simp only [pass]; rw [h.2 k (hV (by simp [Val.refs]))]
 | agg cs => simp only [pass]; rw [passL_loc h (by simpa [Val.refs] using hV)]
 | clo f a b =>
  simp only [Val.refs, List.append_subset] at hV
  simp only [pass]
  rw [passL_loc h hV.1, passL_loc h hV.2]
 | _ => simp only [pass]
theorem passL_loc (h : AgF F ob1 ob2) {L : List Nat} {nb : Nat} {cs : List (Val T)} (hV : refsL cs ⊆ F) : passL ob1 L nb cs = passL ob2 L nb cs := by
 cases cs with
 | nil => rfl
 | cons c cs =>
  simp only [refsL, List.append_subset] at hV
  simp only [passL]
  rw [pass_loc h hV.1, passL_loc h hV.2]
end
theorem encB_loc (h : AgF F ob1 ob2) {L : List Nat} {nb k : Nat} (hk : k ∈ F) (hb : bodyRefs (getO ob1 k).body ⊆ F) (x : XK) : encB tb ob1 L nb k x = encB tb ob2 L nb k x := by
 cases x with
 | cst =>
  simp only [encB]
  rw [← h.2 k hk]
  cases hbd : (getO ob1 k).body with
  | box fz cs => rw [hbd] at hb; simp only; rw [passL_loc h hb]
  | _ => rfl
 | box t =>
  simp only [encB]
  rw [← h.2 k hk]
  cases hbd : (getO ob1 k).body with
  | box fz cs => rw [hbd] at hb; cases fz <;> simp only; rw [passL_loc h hb]
  | _ => rfl
 | mp kt vt => simp only [encB]; rw [← h.2 k hk]
theorem encL_loc (h : AgF F ob1 ob2) {L0 : List Nat} {nb : Nat} : ∀ {l : List XK} {L : List Nat}, L ⊆ F → bodiesRefs ob1 L ⊆ F → encL tb ob1 L0 nb l L = encL tb ob2 L0 nb l L := by
 intro l
 induction l with
 | nil => intro L _ _; cases L <;> rfl
 | cons x l ih =>
  intro L hL hb
  cases L with
  | nil => rfl
  | cons k L =>
   simp only [bodiesRefs, List.append_subset] at hb
   simp only [encL]
   rw [encB_loc h (hL (by simp)) hb.1, ih (fun y hy => hL (by simp [hy])) hb.2]
theorem callP_loc (h : AgF F ob1 ob2) {f : Nat} {args : List (Val T)} (ha : refsL args ⊆ F) : LocR F ob1 ob2 (callP tb f args ob1) (callP tb f args ob2) := by
 have hf : LocR F ob1 ob2 (match frzA args ob1 with | some (as, ob') => (.call f as [] ob' : OpR T tb.rk) | none => .bad) (match frzA args ob2 with | some (as, ob') => .call f as [] ob' | none => .bad) := by
  rcases (frzA_loc h ha).cases with ⟨e1, e2⟩ | ⟨a, o1, o2, e1, e2, l1⟩
  ·rw [e1, e2]; trivial
  ·rw [e1, e2]; exact ⟨rfl, rfl, rfl, l1⟩
 unfold callP
 split
 ·split
  ·rw [lendA_loc h ha]
   split
   ·exact ⟨rfl, rfl, rfl, Loc.refl h⟩
   ·exact hf
  ·exact hf
 ·trivial
theorem callV_loc (h : AgF F ob1 ob2) {f : Nat} {args : List (Val T)} (ha : refsL args ⊆ F) (hx : bodiesRefs ob1 (extKeys ob1 args) ⊆ F) : LocR F ob1 ob2 (callV tb f args ob1) (callV tb f args ob2) := by
 obtain ⟨he1, he2⟩ := extKeys_loc h ha hx
 unfold callV
 split
 ·rw [← he1]
  cases hL : extKeys ob1 args with
  | nil => exact callP_loc h ha
  | cons k ks =>
   rw [hL] at he2 hx
   simp only [callX]
   split
   ·rw [passL_loc h ha, encL_loc h he2 hx]
    split
    ·exact ⟨rfl, rfl, rfl, Loc.refl h⟩
    ·trivial
   ·trivial
 ·trivial
theorem outX_loc (tb : Tab T) (e : Bool) : ∀ (l : List XK) (x : XTup T l) (L : List Nat) {ob1 ob2 : List (Obj' T)}, AgF F ob1 ob2 → L ⊆ F → Loc F ob1 ob2 (outX tb e l x L ob1) (outX tb e l x L ob2) := by
 intro l
 induction l with
 | nil => intro x L ob1 ob2 h _; exact Loc.refl h
 | cons y l ih =>
  intro x L ob1 ob2 h hL
  cases L with
  | nil => cases y <;> exact Loc.refl h
  | cons k L =>
   have hk : k ∈ F := hL (by simp)
   have hL' : L ⊆ F := fun z hz => hL (by simp [hz])
   cases y with
   | cst => exact ih x L h hL'
   | box t =>
    simp only [outX]
    rw [← h.2 k hk]
    split
    ·split
     ·exact (Loc.set h hk _).trans (ih x.2 L (Loc.set h hk _).1 hL')
     ·exact Loc.refl h
    ·exact Loc.refl h
   | mp kt vt =>
    simp only [outX]
    rw [← h.2 k hk]
    split
    ·split
     ·exact (Loc.set h hk _).trans (ih x.2 L (Loc.set h hk _).1 hL')
     ·exact Loc.refl h
    ·exact Loc.refl h
end Go.Fw
namespace Go.Fw
open Go.RowKit
set_option linter.unusedVariables false
set_option linter.unusedSimpArgs false
variable {T : Nat → Type} {tb : Tab T}
variable {F : List Nat} {ob1 ob2 a1 a2 b1 b2 : List (Obj' T)}
theorem fillV_congr {ρ ρ' : Operand → Val T} {t : Nat} : ∀ {l : List (Nat × Operand)} {cs : List (Val T)}, (∀ p ∈ l, ρ p.2 = ρ' p.2) → fillV tb t ρ l cs = fillV tb t ρ' l cs := by
 intro l
 induction l with
 | nil => intro cs _; rfl
 | cons p l ih =>
  intro cs h
  obtain ⟨i, x⟩ := p
  simp only [fillV]
  rw [h (i, x) (by simp)]
  have := fun cs => ih (cs := cs) fun p hp => h p (by simp [hp])
  simp only [this]
theorem elemsV_congr {ρ ρ' : Operand → Val T} {e : Nat} : ∀ {l : List (Nat × Operand)} {n : Nat} {ob : List (Obj' T)}, (∀ p ∈ l, ρ p.2 = ρ' p.2) → elemsV tb e ρ l n ob = elemsV tb e ρ' l n ob := by
 intro l
 induction l with
 | nil => intro n ob _; rfl
 | cons p l ih =>
  intro n ob h
  obtain ⟨i, x⟩ := p
  simp only [elemsV]
  rw [h (i, x) (by simp)]
  have := fun n ob => ih (n := n) (ob := ob) fun p hp => h p (by simp [hp])
  simp only [this]
theorem argsV_congr {ρ ρ' : Operand → Val T} : ∀ {l : List Operand} {ts : List Nat}, (∀ x ∈ l, ρ x = ρ' x) → argsV tb ρ l ts = argsV tb ρ' l ts := by
 intro l
 induction l with
 | nil => intro ts _; rfl
 | cons x l ih =>
  intro ts h
  cases ts with
  | nil => simp only [argsV]; rw [h x (by simp), ih fun x hx => h x (by simp [hx])]
  | cons t ts => simp only [argsV]; rw [h x (by simp), ih fun x hx => h x (by simp [hx])]
theorem boundV_congr {ρ ρ' : Operand → Val T} {d : Int} {x : Option Operand} (h : ∀ y, x = some y → ρ y = ρ' y) : boundV ρ d x = boundV ρ' d x := by
 cases x with
 | none => rfl
 | some y => simp only [boundV]; rw [h y rfl]
theorem evOp_congr {ρ ρ' ρ0 ρ0' : Operand → Val T} {ob : List (Obj' T)} {d : Nat} {op : Op} {ty : Nat} (h : ∀ x ∈ opsOf op, ρ x = ρ' x) (h0 : ∀ x ∈ opsOf op, ρ0 x = ρ0' x) : evOp tb ρ ρ0 ob d op ty = evOp tb ρ' ρ0' ob d op ty := by
 cases op with
 | move x => simp only [evOp]; rw [h x (by simp [opsOf])]
 | assign x => simp only [evOp]; rw [h x (by simp [opsOf])]
 | box t x => simp only [evOp]; rw [h x (by simp [opsOf])]
 | load t x => simp only [evOp]; rw [h x (by simp [opsOf])]
 | nilCheck x => simp only [evOp]; rw [h x (by simp [opsOf])]
 | unOp u t x =>
  cases u <;> simp only [evOp] <;> (try rw [h x (by simp [opsOf])])
 | convert s t x => simp only [evOp]; rw [h x (by simp [opsOf])]
 | fieldAddr s x f => simp only [evOp]; rw [h x (by simp [opsOf])]
 | field s x f => simp only [evOp]; rw [h x (by simp [opsOf])]
 | extract x i => simp only [evOp]; rw [h x (by simp [opsOf])]
 | pick c a b =>
  cases c with
  | tmp t => simp only [evOp]; rw [h (.tmp t) (by simp [opsOf]), h0 a (by simp [opsOf]), h0 b (by simp [opsOf])]
  | _ => rfl
 | build t ps =>
  simp only [evOp]
  have := fun zs => fillV_congr (tb := tb) (t := t) (cs := zs) (l := ps.toList) fun p hp => h p.2 (by simp only [opsOf]; exact List.mem_map_of_mem hp)
  simp only [this]
 | buildSlice t n ps =>
  simp only [evOp]
  have := fun e => elemsV_congr (tb := tb) (e := e) (n := 0) (ob := ob) (l := ps.toList) fun p hp => h p.2 (by simp only [opsOf]; exact List.mem_map_of_mem hp)
  have h2 : ps.toList.map (fun p => ρ p.2) = ps.toList.map (fun p => ρ' p.2) := List.map_congr_left fun p hp => h p.2 (by simp only [opsOf]; exact List.mem_map_of_mem hp)
  simp only [this, h2]
 | store t a v => simp only [evOp]; rw [h a (by simp [opsOf]), h v (by simp [opsOf])]
 | binOp o t a v t' => simp only [evOp]; rw [h a (by simp [opsOf]), h v (by simp [opsOf])]
 | indexAddr t a v => simp only [evOp]; rw [h a (by simp [opsOf]), h v (by simp [opsOf])]
 | index t a v => simp only [evOp]; rw [h a (by simp [opsOf]), h v (by simp [opsOf])]
 | makeSlice t a b => cases a <;> cases b <;> first | rfl | (simp only [evOp]; rw [h _ (by simp [opsOf])])
 | makeMap t r => cases r <;> rfl
 | lookup t a v k => simp only [evOp]; rw [h a (by simp [opsOf]), h v (by simp [opsOf])]
 | mapUpdate t a v u => simp only [evOp]; rw [h a (by simp [opsOf]), h v (by simp [opsOf]), h u (by simp [opsOf])]
 | makeFunc c first caps =>
  cases c with
  | func f =>
   simp only [evOp]
   rw [List.map_congr_left (f := ρ) (g := ρ') (l := first.toList) fun x hx => h x (by simp only [opsOf, List.mem_append]; exact .inl hx), List.map_congr_left (f := ρ) (g := ρ') (l := caps.toList) fun x hx => h x (by simp only [opsOf, List.mem_append]; exact .inr hx)]
  | _ => rfl
 | slice t x lo hi m =>
  cases m with
  | some m => rfl
  | none =>
   simp only [evOp]
   have hlo := fun d => boundV_congr (ρ := ρ) (ρ' := ρ') (d := d) (x := lo) fun y hy => h y (by subst hy; simp [opsOf])
   have hhi := fun d => boundV_congr (ρ := ρ) (ρ' := ρ') (d := d) (x := hi) fun y hy => h y (by subst hy; simp [opsOf])
   rw [h x (by simp [opsOf])]
   simp only [hlo, hhi]
 | call c =>
  obtain ⟨callee, args, ats⟩ := c
  have hargs : ∀ x ∈ args.toList, ρ x = ρ' x := fun x hx => h x (by simp only [opsOf, List.mem_append]; exact .inr hx)
  cases callee with
  | value g =>
   simp only [evOp]
   rw [h g (by simp [opsOf]), argsV_congr hargs]
  | invoke r m => rfl
  | builtin b =>
   cases b with
   | len =>
    simp only [evOp]
    split
    ·rename_i x t e1 e2
     rw [h x (by simp [opsOf, e1])]
    ·rfl
   | append =>
    simp only [evOp]
    split
    ·rename_i x y t t' e1 e2
     rw [h x (by simp [opsOf, e1]), h y (by simp [opsOf, e1])]
    ·rfl
   | min => simp only [evOp]; rw [List.map_congr_left hargs]
   | max => simp only [evOp]; rw [List.map_congr_left hargs]
   | _ => rfl
 | _ => rfl
theorem refsO_mem {ρ : Operand → Val T} {l : List Operand} {x : Operand} (h : x ∈ l) : (ρ x).refs ⊆ refsO ρ l := by
 induction l with
 | nil => cases h
 | cons c cs ih =>
  intro k hk
  simp only [refsO, List.mem_append]
  rcases List.mem_cons.1 h with rfl | h
  ·exact .inl hk
  ·exact .inr (ih h hk)
theorem slc_mem {cs l : List (Val T)} {off n : Nat} (hs : slc cs off n = some l) : ∀ v ∈ l, v ∈ cs := by
 unfold slc at hs
 split at hs
 ·cases hs
  intro v hv
  exact List.mem_of_mem_drop (List.mem_of_mem_take hv)
 ·cases hs
theorem mkAt_refs {ag : Bool} {n off : Nat} {cs : List (Val T)} {V : Val T} (h : mkAt ag n cs off = some V) : V.refs ⊆ refsL cs := by
 unfold mkAt at h
 split at h
 ·rename_i l hl
  have hm := slc_mem hl
  cases ag with
  | true =>
   simp only [mkVal, Option.some.injEq] at h
   subst h
   simp only [Val.refs]
   exact refsL_sub hm
  | false =>
   cases l with
   | nil => cases h
   | cons c r =>
    cases r with
    | nil => simp only [mkVal, Option.some.injEq] at h; subst h; exact refsL_mem (hm c (by simp))
    | cons => cases h
 ·cases h
theorem argsV_refs {ρ : Operand → Val T} : ∀ {l : List Operand} {ts : List Nat}, refsL (argsV tb ρ l ts) ⊆ refsO ρ l := by
 have hargV : ∀ t (V : Val T), (argV tb t V).refs ⊆ V.refs := by
  intro t V
  cases V with
  | nil => simp only [argV]; split <;> simp [Val.refs]
  | _ => exact fun _ h => h
 intro l
 induction l with
 | nil => intro ts; simp [argsV, refsL]
 | cons x l ih =>
  intro ts
  cases ts with
  | nil => simp only [argsV, refsL, refsO]; exact List.append_subset.2 ⟨List.subset_append_left .., fun k hk => List.mem_append_right _ (ih hk)⟩
  | cons t ts => simp only [argsV, refsL, refsO]; exact List.append_subset.2 ⟨fun k hk => List.mem_append_left _ (hargV _ _ hk), fun k hk => List.mem_append_right _ (ih hk)⟩
theorem map_refs {ρ : Operand → Val T} : ∀ {l : List Operand}, refsL (l.map ρ) = refsO ρ l := by
 intro l
 induction l with
 | nil => rfl
 | cons x l ih => simp [refsL, refsO, ih]
theorem refsO_sub {ρ : Operand → Val T} : ∀ {l m : List Operand}, (∀ x ∈ l, x ∈ m) → refsO ρ l ⊆ refsO ρ m := by
 intro l
 induction l with
 | nil => intro m _ k hk; simp [refsO] at hk
 | cons x l ih =>
  intro m h
  simp only [refsO]
  exact List.append_subset.2 ⟨refsO_mem (h x (by simp)), ih fun y hy => h y (by simp [hy])⟩
theorem evOp_loc {ρ ρ0 : Operand → Val T} {d : Nat} {op : Op} {ty : Nat} (h : AgF F ob1 ob2) (hr : refsO ρ (opsOf op) ⊆ F) (hb : extra tb ρ ob1 op ⊆ F) (hd : needsDst op = true → d ∈ F) :
  LocR F ob1 ob2 (evOp tb ρ ρ0 ob1 d op ty) (evOp tb ρ ρ0 ob2 d op ty) := by
 have hx : ∀ x ∈ opsOf op, (ρ x).refs ⊆ F := fun x hx => (refsO_mem hx).trans hr
 cases op with
 | move x => simp only [evOp]; exact LocR.same h _ _
 | assign x =>
  have hV := hx x (by simp [opsOf])
  simp only [evOp]
  generalize ρ x = V at hV ⊢
  cases V with
  | nil =>
   simp only
   split
   ·exact newRow_loc h (hd rfl) _ _ _
   ·exact LocR.same h _ _
  | _ => exact LocR.same h _ _
 | box t x =>
  simp only [evOp]
  split
  ·exact newBox_loc h (hd rfl) _ _
  ·trivial
 | alloc e =>
  simp only [evOp]
  split
  ·exact newBox_loc h (hd rfl) _ _
  ·trivial
 | load t x =>
  have hV := hx x (by simp [opsOf])
  simp only [evOp]
  rw [← readAt_loc h hV]
  split
  ·split
   ·exact LocR.same h _ _
   ·trivial
  ·trivial
 | nilCheck x =>
  simp only [evOp]
  split
  ·exact LocR.same h _ _
  ·exact LocR.same h _ _
  ·trivial
 | unOp u t x =>
  cases u <;> simp only [evOp]
  all_goals first | trivial | (split <;> first | exact LocR.same h _ _ | trivial)
 | convert s t x =>
  simp only [evOp]
  rw [← lend1_loc h (hx x (by simp [opsOf]))]
  repeat' split
  all_goals first | trivial | exact LocR.same h _ _
 | fieldAddr s x f =>
  simp only [evOp]
  split <;> first | exact LocR.same h _ _ | trivial
 | field s x f =>
  have hV := hx x (by simp [opsOf])
  simp only [evOp]
  split
  ·rename_i o ft cs e1 e2
   split
   ·exact LocR.same h _ _
   ·trivial
  ·trivial
 | extract x i =>
  have hV := hx x (by simp [opsOf])
  simp only [evOp]
  split
  ·rename_i vs e1
   split
   ·exact LocR.same h _ _
   ·trivial
  ·trivial
 | pick c a b =>
  cases c with
  | tmp t =>
   simp only [evOp]
   split
   ·exact LocR.same h _ _
   ·trivial
  | _ => trivial
 | build t ps =>
  simp only [evOp]
  split
  ·trivial
  ·split
   ·split
    ·exact LocR.same h _ _
    ·trivial
   ·trivial
 | buildSlice t n ps =>
  simp only [evOp]
  have hrf : refsL (ps.toList.map fun p => ρ p.2) ⊆ F := by
   have : ∀ l : List (Nat × Operand), (∀ p ∈ l, (ρ p.2).refs ⊆ F) → refsL (l.map fun p => ρ p.2) ⊆ F := by
    intro l
    induction l with
    | nil => intro _; simp [refsL]
    | cons p l ih => intro hl; simp only [List.map_cons, refsL]; exact List.append_subset.2 ⟨hl p (by simp), ih fun q hq => hl q (by simp [hq])⟩
   exact this _ fun p hp => hx p.2 (by simp only [opsOf]; exact List.mem_map_of_mem hp)
  rw [← nestV_loc h hrf]
  split
  ·rename_i e _
   split
   ·split
    ·exact newRowx_loc h (hd rfl) _ _ _ _
    ·trivial
   split
   ·rcases (elemsV_loc (tb := tb) (ρ := ρ) (e := e) (l := ps.toList) (n := 0) h fun p hp => hx p.2 (by simp only [opsOf]; exact List.mem_map_of_mem hp)).cases with ⟨e1, e2⟩ | ⟨a, o1, o2, e1, e2, l1⟩
    ·rw [e1, e2]; trivial
    ·rw [e1, e2]
     exact LocR.later l1 (newRow_loc l1.1 (hd rfl) _ _ _)
   ·trivial
  ·trivial
 | store t a v =>
  have hA := hx a (by simp [opsOf])
  have hV := hx v (by simp [opsOf])
  simp only [evOp]
  split
  ·trivial
  ·split
   ·rename_i k ver off vs e1 e2
    rw [e1] at hA
    have hk : k ∈ F := hA (by simp [Val.refs])
    rw [h.2 k hk]
    split
    ·split
     ·split
      ·exact ⟨rfl, rfl, Loc.set h hk _⟩
      ·trivial
     ·trivial
    ·trivial
   ·rename_i k ver i off vs e1 e2
    rw [e1] at hA
    have hk : k ∈ F := hA (by simp [Val.refs])
    have hvs : refsL vs ⊆ F := by
     unfold storeC at e2
     split at e2
     ·rename_i us hu
      split at e2
      ·split at e2
       ·cases e2; exact (cellsV_refs hu).trans hV
       ·cases e2
      ·cases e2
     ·cases e2
    rcases (frzL_loc h hvs).cases with ⟨e1, e2⟩ | ⟨a, o1, o2, e1, e2, l1⟩
    ·rw [e1, e2]; trivial
    ·rw [e1, e2]
     simp only
     rw [l1.1.2 k hk]
     split
     ·split
      ·split
       ·split
        ·exact ⟨rfl, rfl, l1.trans (Loc.set l1.1 hk _)⟩
        ·trivial
       ·trivial
      ·trivial
     ·trivial
   ·trivial
 | binOp o t a v t' => simp only [evOp]; split <;> exact LocR.same h _ _
 | makeSlice t a b =>
  cases a <;> cases b <;> try trivial
  simp only [evOp]
  repeat' split
  all_goals first | trivial | exact newRow_loc h (hd rfl) _ _ _
 | indexAddr t a v =>
  have hV := hx a (by simp [opsOf])
  simp only [evOp]
  split
  ·split <;> first | exact LocR.same h _ _ | trivial
  ·rw [← res_loc h hV]
   split
   ·split
    ·exact LocR.same h _ _
    ·trivial
   ·rename_i k ver k0 v0 kd n e e1 e2 e3
    have hk : k ∈ F := by
     generalize ρ a = V at hV e1
     cases V with
     | ownx k' ver' k0' v0' =>
      have hk' : k' ∈ F := hV (by simp [Val.refs])
      simp only [res, Val.ownx.injEq] at e1
      rw [← e1.1]; exact hk'
     | own k' ver' =>
      simp only [res] at e1
      split at e1
      ·split at e1 <;> cases e1
      ·cases e1
     | _ => cases e1
    rw [h.2 k hk]
    split
    ·split
     ·split
      ·exact LocR.same h _ _
      ·trivial
     ·trivial
    ·trivial
   ·rename_i k ver kd n e e1 e2 e3
    have hk : k ∈ F := by
     generalize ρ a = V at hV e1
     cases V with
     | own k' ver' =>
      have hk' : k' ∈ F := hV (by simp [Val.refs])
      simp only [res] at e1
      split at e1
      ·split at e1 <;> cases e1
      ·simp only [Val.own.injEq] at e1; rw [← e1.1]; exact hk'
     | _ => cases e1
    rw [h.2 k hk]
    split
    ·split
     ·split
      ·exact LocR.same h _ _
      ·trivial
     ·trivial
    ·trivial
   ·trivial
 | index t a v =>
  simp only [evOp]
  split
  ·split
   ·split
    ·split
     ·exact LocR.same h _ _
     ·trivial
    ·trivial
   ·trivial
  ·split
   ·exact LocR.same h _ _
   ·trivial
 | makeMap t r =>
  cases r with
  | some r => trivial
  | none =>
   simp only [evOp]
   split
   ·exact newMap_loc h (hd rfl) _ _ _
   ·trivial
 | lookup t m x kk =>
  have hV := hx m (by simp [opsOf])
  simp only [evOp]
  split
  ·rename_i k ver e1 e2
   rw [e2] at hV
   rw [h.2 k (hV (by simp [Val.refs]))]
   split
   ·split
    ·split
     ·exact LocR.same h _ _
     ·trivial
    ·trivial
   ·trivial
  ·trivial
 | mapUpdate t m x y =>
  have hV := hx m (by simp [opsOf])
  simp only [evOp]
  split
  ·rename_i k ver e1 e2
   rw [e2] at hV
   have hk : k ∈ F := hV (by simp [Val.refs])
   rw [h.2 k hk]
   split
   ·split
    ·split
     ·exact ⟨rfl, rfl, Loc.set h hk _⟩
     ·trivial
    ·trivial
   ·trivial
  ·trivial
 | makeFunc c first caps =>
  cases c with
  | func f =>
   simp only [evOp]
   rw [capA_loc h (cs := first.toList.map ρ) (by rw [map_refs]; exact (refsO_sub fun x hx => by simp only [opsOf, List.mem_append]; exact .inl hx).trans hr),
    capA_loc h (cs := caps.toList.map ρ) (by rw [map_refs]; exact (refsO_sub fun x hx => by simp only [opsOf, List.mem_append]; exact .inr hx).trans hr)]
   split
   ·exact LocR.same h _ _
   ·trivial
  | _ => trivial
 | slice t x lo hi m =>
  cases m with
  | some m => trivial
  | none =>
   have hV := hx x (by simp [opsOf])
   simp only [evOp]
   split
   ·trivial
   ·split
    ·split
     ·split
      ·exact LocR.same h _ _
      ·trivial
     ·trivial
    ·rcases (frz1_loc h hV).cases with ⟨e1, e2⟩ | ⟨a, o1, o2, e1, e2, l1⟩
     ·rw [e1, e2]; trivial
     ·rw [e1, e2]
      cases a with
      | lst e xs =>
       cases tb.elem t with
       | none => trivial
       | some e' =>
        simp only
        split
        ·split
         ·exact ⟨rfl, rfl, l1⟩
         ·trivial
        ·trivial
      | _ => trivial
 | call c =>
  obtain ⟨callee, args, ats⟩ := c
  have hargs : ∀ x ∈ args.toList, x ∈ opsOf (.call ⟨callee, args, ats⟩) := fun x hx => by simp only [opsOf, List.mem_append]; exact .inr hx
  cases callee with
  | value g =>
   have hg := hx g (by simp [opsOf])
   simp only [evOp]
   cases hgv : ρ g with
   | clo f first caps =>
    simp only
    refine callV_loc h ?_ (by
     have : extra tb ρ ob1 (.call ⟨.value g, args, ats⟩) = bodiesRefs ob1 (extKeys ob1 (first ++ argsV tb ρ args.toList ats.toList ++ caps)) := by
      simp only [extra, callee1, callArgs, hgv]
     rw [← this]; exact hb)
    rw [refsL_append, refsL_append]
    rw [hgv] at hg
    simp only [Val.refs, List.append_subset] at hg
    exact List.append_subset.2 ⟨List.append_subset.2 ⟨hg.1, argsV_refs.trans ((refsO_sub hargs).trans hr)⟩, hg.2⟩
   | _ => trivial
  | invoke r m => trivial
  | builtin b =>
   cases b with
   | len =>
    simp only [evOp]
    split
    ·rename_i x t e1 e2
     rw [← lenV_loc h (hx x (hargs x (by rw [show args.toList = _ from e1]; simp)))]
     split
     ·split
      ·exact LocR.same h _ _
      ·trivial
     ·trivial
    ·trivial
   | append =>
    simp only [evOp]
    split
    ·rename_i x y t t' e1 e2
     have hX := hx x (hargs x (by rw [show args.toList = _ from e1]; simp))
     have hY := hx y (hargs y (by rw [show args.toList = _ from e1]; simp))
     split
     ·split
      ·exact appV_loc h (hd rfl) hX hY
      ·trivial
     ·trivial
    ·trivial
   | min =>
    simp only [evOp]
    split
    ·split
     ·exact LocR.same h _ _
     ·trivial
    ·trivial
   | max =>
    simp only [evOp]
    split
    ·split
     ·exact LocR.same h _ _
     ·trivial
    ·trivial
   | _ => trivial
 | _ => trivial
end Go.Fw
namespace Go.Fw
open Go.RowKit
set_option linter.unusedVariables false
set_option linter.unusedSimpArgs false
variable {T : Nat → Type} {tb : Tab T}
variable {F : List Nat} {ob1 ob2 a1 a2 b1 b2 : List (Obj' T)}
def setd (sl : List (Val T)) (dst : Option Nat) (V : Val T) : List (Val T) :=
 match dst with
 | some d => sl.set d V
 | none => sl
def backV (tb : Tab T) (dst : Option Nat) (ob : List (Obj' T)) (f : Nat) (r : Tup T (tb.rk f)) : Val T × List (Obj' T) :=
 match dst with
 | none => (.junk, ob)
 | some d => match Tup.row tb (tb.rk f) r with
  | none => (unG none (oneV (Tup.vals tb 0 0 (tb.rk f) r)), ob)
  | some b => (unG none (oneV (Tup.vals tb d ((getO ob d).ver + 1) (tb.rk f) r)), ob.set d ⟨(getO ob d).ver + 1, b⟩)
def core (tb : Tab T) (C : (f : Nat) → List (Val T) → Option (Ret T tb f)) (o : Oper) (gd : Gd) (ρ ρ0 : Operand → Val T) (room : Nat) (ob : List (Obj' T)) : Option ((Val T × List Nat) × List (Obj' T)) :=
 match gd with
 | .bad => none
 | .free => match evOp tb ρ ρ0 ob (dstOf o) o.op o.type with
  | .bad => none
  | .ok c v ob' => bif c then some ((unG none v, []), ob') else none
  | .call f args L ob' => if oneFresh (tb.rk f) ≤ room then (C f args).bind fun r => some (((backV tb o.dst (outX tb true (tb.xk f) r.2 L ob') f r.1).1, []), (backV tb o.dst (outX tb true (tb.xk f) r.2 L ob') f r.1).2) else none
 | .on t w e =>
  if quietG ρ o.op then
   match evOp tb ρ ρ0 ob (dstOf o) o.op o.type with
   | .ok c v _ => if o.dst = some t then none else (bif (impB c e) then some ((.cnd t w e v, [t]), ob) else none)
   | _ => none
  else if callee1 o.op then
   match evOp tb ρ ρ0 ob (dstOf o) o.op o.type with
   | .call f as0 L _ => match isNilX (tb.xk f) with
    | true => (match lendA tb ob (callArgs tb ρ o.op) with
     | some as => if allFlat (tb.rk f) then (if o.dst = some t then none else ((bif e then C f as else some (Ret.dflt tb f)).bind fun r => some ((.cnd t w e (oneV (Tup.vals tb 0 0 (tb.rk f) r.1)), [t]), ob)))
      else if (Nat.beq (oneFresh (tb.rk f)) 0 && hpL (callArgs tb ρ o.op)) = true then (if o.dst = some t then none else ((bif e then C f as0 else some (Ret.dflt tb f)).bind fun r => some ((.cnd t w e (oneV (Tup.vals tb 0 0 (tb.rk f) r.1)), [t]), ob))) else none
     | none => none)
    | false => if o.dst = some t then none else ((bif e then C f as0 else some (Ret.dflt tb f)).bind fun r => some ((.cnd t w e (oneV (Tup.vals tb 0 0 (tb.rk f) r.1)), [t]), outX tb e (tb.xk f) r.2 L ob))
   | _ => none
  else none
theorem step_core (C : (f : Nat) → List (Val T) → Option (Ret T tb f)) (ops : Array Oper) (o : Oper) (s : St T) : (step tb ops o s).run C =
  if (needsDst o.op && !(dstIn s o.dst)) || clash s o.dst then none else
   (core tb C o (guardOf ops s o) (fun x => unG (gOf (guardOf ops s o)) (opv s x)) (opv s) (room1 s o.dst) s.ob).map fun q => ⟨setd s.sl o.dst q.1.1, q.2, q.1.2 ++ s.gs⟩ := by
 unfold step core
 cases h1 : needsDst o.op && !(dstIn s o.dst) with
 | true => rfl
 | false =>
  cases h2 : clash s o.dst with
  | true => simp [SR.run]
  | false =>
   simp only [Bool.false_eq_true, if_false, Bool.or_self]
   cases guardOf ops s o with
   | bad => rfl
   | free =>
    simp only [gOf]
    cases evOp tb (fun x => unG none (opv s x)) (opv s) s.ob (dstOf o) o.op o.type with
    | bad => rfl
    | ok c v ob' => cases c <;> cases hd : o.dst <;> simp [SR.run, setSl, setd]
    | call f args L ob' =>
     simp only
     by_cases hr : oneFresh (tb.rk f) ≤ room1 s o.dst
     ·rw [if_pos hr, if_pos hr]
      simp only [SR.run, cond_true]
      cases C f args with
      | none => rfl
      | some r =>
       simp only [Option.bind_some, Option.map_some, List.nil_append]
       unfold backS backV
       cases o.dst with
       | none => rfl
       | some d =>
        simp only
        cases Tup.row tb (tb.rk f) r.1 <;> rfl
     ·rw [if_neg hr, if_neg hr]; rfl
   | on t w e =>
    simp only [gOf]
    by_cases hq : quietG (fun x => unG (some (t, w)) (opv s x)) o.op = true
    ·rw [if_pos hq]; erw [if_pos hq]
     cases evOp tb (fun x => unG (some (t, w)) (opv s x)) (opv s) s.ob (dstOf o) o.op o.type with
     | bad => rfl
     | call f args L ob' => rfl
     | ok c v ob' =>
      simp only
      by_cases hdt : o.dst = some t
      ·rw [if_pos hdt, if_pos hdt]; rfl
      ·rw [if_neg hdt, if_neg hdt]
       cases e <;> cases c <;> cases hd : o.dst <;> simp [SR.run, setSl, setd, addG, impB]
    ·rw [if_neg hq]; erw [if_neg hq]
     by_cases hcal : callee1 o.op = true
     ·rw [if_pos hcal, if_pos hcal]
      cases evOp tb (fun x => unG (some (t, w)) (opv s x)) (opv s) s.ob (dstOf o) o.op o.type with
      | bad => rfl
      | ok c v ob' => rfl
      | call f args L ob' =>
       simp only
       cases isNilX (tb.xk f) with
       | true =>
        simp only
        cases lendA tb s.ob (callArgs tb (fun x => unG (some (t, w)) (opv s x)) o.op) with
        | none => rfl
        | some as =>
         simp only
         by_cases hfl : allFlat (tb.rk f) = true
         ·rw [if_pos hfl, if_pos hfl]
          by_cases hdt : o.dst = some t
          ·rw [if_pos hdt, if_pos hdt]; rfl
          ·rw [if_neg hdt, if_neg hdt]
           simp only [SR.run]
           cases (bif e then C f as else some (Ret.dflt tb f)) with
           | none => rfl
           | some r => cases hd : o.dst <;> simp [setSl, setd, addG]
         ·rw [if_neg hfl, if_neg hfl]
          by_cases hnf : (Nat.beq (oneFresh (tb.rk f)) 0 && hpL (callArgs tb (fun x => unG (some (t, w)) (opv s x)) o.op)) = true
          ·rw [if_pos hnf]; erw [if_pos hnf]
           by_cases hdt : o.dst = some t
           ·rw [if_pos hdt, if_pos hdt]; rfl
           ·rw [if_neg hdt, if_neg hdt]
            simp only [SR.run]
            cases (bif e then C f args else some (Ret.dflt tb f)) with
            | none => rfl
            | some r => cases hd : o.dst <;> simp [setSl, setd, addG]
          ·rw [if_neg hnf]; erw [if_neg hnf]; rfl
       | false =>
        simp only
        by_cases hdt : o.dst = some t
        ·rw [if_pos hdt, if_pos hdt]; rfl
        ·rw [if_neg hdt, if_neg hdt]
         simp only [SR.run]
         cases (bif e then C f args else some (Ret.dflt tb f)) with
         | none => rfl
         | some r => cases hd : o.dst <;> simp [setSl, setd, addG]
     ·rw [if_neg hcal, if_neg hcal]; rfl
theorem callArgs_congr {ρ ρ' : Operand → Val T} {op : Op} (h : ∀ x ∈ opsOf op, ρ x = ρ' x) : callArgs tb ρ op = callArgs tb ρ' op := by
 cases op with
 | call c =>
  obtain ⟨callee, args, ats⟩ := c
  cases callee with
  | value g =>
   simp only [callArgs]
   rw [h g (by simp [opsOf]), argsV_congr fun x hx => h x (by simp only [opsOf, List.mem_append]; exact .inr hx)]
  | _ => rfl
 | _ => rfl
theorem callArgs_refs {ρ : Operand → Val T} {op : Op} : refsL (callArgs tb ρ op) ⊆ refsO ρ (opsOf op) := by
 cases op with
 | call c =>
  obtain ⟨callee, args, ats⟩ := c
  cases callee with
  | value g =>
   have hargs : refsO ρ args.toList ⊆ refsO ρ (opsOf (.call ⟨.value g, args, ats⟩)) := refsO_sub fun x hx => by simp only [opsOf, List.mem_append]; exact .inr hx
   have hg : (ρ g).refs ⊆ refsO ρ (opsOf (.call ⟨.value g, args, ats⟩)) := refsO_mem (by simp [opsOf])
   generalize refsO ρ (opsOf (.call ⟨.value g, args, ats⟩)) = F at hargs hg
   simp only [callArgs]
   generalize ρ g = V at hg
   cases V with
   | clo f first caps =>
    simp only
    rw [refsL_append, refsL_append]
    simp only [Val.refs, List.append_subset] at hg
    exact List.append_subset.2 ⟨List.append_subset.2 ⟨hg.1, argsV_refs.trans hargs⟩, hg.2⟩
   | _ => exact fun k hk => by simp [refsL] at hk
  | _ => exact fun k hk => by simp [callArgs, refsL] at hk
 | _ => exact fun k hk => by simp [callArgs, refsL] at hk
theorem quietG_congr {ρ ρ' : Operand → Val T} {op : Op} (h : ∀ x ∈ opsOf op, ρ x = ρ' x) : quietG ρ op = quietG ρ' op := by
 unfold quietG
 congr 1
 cases op with
 | slice t x lo hi mx => simp only [slcQ]; rw [h x (by simp [opsOf])]
 | _ => rfl
theorem core_congr {C : (f : Nat) → List (Val T) → Option (Ret T tb f)} {o : Oper} {gd : Gd} {ρ ρ' ρ0 ρ0' : Operand → Val T} {room : Nat} {ob : List (Obj' T)} (h : ∀ x ∈ opsOf o.op, ρ x = ρ' x) (h0 : ∀ x ∈ opsOf o.op, ρ0 x = ρ0' x) :
  core tb C o gd ρ ρ0 room ob = core tb C o gd ρ' ρ0' room ob := by
 unfold core
 rw [evOp_congr h h0, callArgs_congr h, quietG_congr h]
theorem LocR.cases {rk : Nat → List Knd} {x y : OpR T rk} (h : LocR F ob1 ob2 x y) : (x = .bad ∧ y = .bad) ∨ (∃ c v o1 o2, x = .ok c v o1 ∧ y = .ok c v o2 ∧ Loc F ob1 ob2 o1 o2) ∨ ∃ f as L o1 o2, x = .call f as L o1 ∧ y = .call f as L o2 ∧ Loc F ob1 ob2 o1 o2 := by
 cases x with
 | bad => cases y with
  | bad => exact .inl ⟨rfl, rfl⟩
  | _ => exact h.elim
 | ok c v o1 => cases y with
  | ok c' v' o2 => obtain ⟨e1, e2, l⟩ := h; subst e1; subst e2; exact .inr (.inl ⟨_, _, _, _, rfl, rfl, l⟩)
  | _ => exact h.elim
 | call f as L o1 => cases y with
  | call f' as' L' o2 => obtain ⟨e1, e2, e3, l⟩ := h; subst e1; subst e2; subst e3; exact .inr (.inr ⟨_, _, _, _, _, rfl, rfl, l⟩)
  | _ => exact h.elim
theorem evOp_keys {ρ ρ0 : Operand → Val T} {d f : Nat} {op : Op} {ty : Nat} {as : List (Val T)} {L : List Nat} {ob ob' : List (Obj' T)} (h : AgF F ob ob) (hr : refsO ρ (opsOf op) ⊆ F) (hb : extra tb ρ ob op ⊆ F) (he : evOp tb ρ ρ0 ob d op ty = .call f as L ob') : L ⊆ F := by
 have hno : ∀ (e : Nat) (x y : Val T), (appV tb ob d e x y : OpR T tb.rk) ≠ .call f as L ob' := fun e x y => appV_ne _ _ _ _ _ _ _ _
 cases op with
 | call c =>
  obtain ⟨callee, args, ats⟩ := c
  cases callee with
  | value g =>
   simp only [evOp] at he
   have hca : refsL (callArgs tb ρ (.call ⟨.value g, args, ats⟩)) ⊆ F := callArgs_refs.trans hr
   have hex : extra tb ρ ob (.call ⟨.value g, args, ats⟩) = bodiesRefs ob (extKeys ob (callArgs tb ρ (.call ⟨.value g, args, ats⟩))) := rfl
   rw [hex] at hb
   cases hg : ρ g with
   | clo f' first caps =>
    rw [hg] at he
    simp only at he
    have hargs : callArgs tb ρ (.call ⟨.value g, args, ats⟩) = first ++ argsV tb ρ args.toList ats.toList ++ caps := by simp only [callArgs, hg]
    rw [hargs] at hb hca
    have hk := (extKeys_loc h hca hb).2
    unfold callV at he
    split at he
    ·cases hL : extKeys ob (first ++ argsV tb ρ args.toList ats.toList ++ caps) with
     | nil =>
      rw [hL] at he
      simp only [callP] at he
      have : L = [] := by
       revert he
       repeat' split
       all_goals (intro he; first | (simp only [OpR.call.injEq] at he; exact he.2.2.1.symm) | cases he)
      subst this
      simp
     | cons k ks =>
      rw [hL] at he hk
      simp only [callX] at he
      have : L = k :: ks := by
       revert he
       repeat' split
       all_goals (intro he; first | (simp only [OpR.call.injEq] at he; exact he.2.2.1.symm) | cases he)
      subst this
      exact hk
    ·cases he
   | _ => rw [hg] at he; cases he
  | invoke r m => simp only [evOp] at he; cases he
  | builtin b =>
   cases b <;> simp only [evOp] at he <;> revert he <;> (repeat' split) <;> first | (intro he; cases he; done) | exact fun he => absurd he (hno _ _ _)
 | pick c x y => cases c <;> simp only [evOp] at he <;> revert he <;> (repeat' split) <;> (intro he; cases he)
 | unOp u t x => cases u <;> simp only [evOp] at he <;> revert he <;> (repeat' split) <;> (intro he; cases he)
 | makeFunc fn a b => cases fn <;> simp only [evOp] at he <;> revert he <;> (repeat' split) <;> (intro he; cases he)
 | slice t x lo hi mx => cases mx <;> simp only [evOp] at he <;> revert he <;> (repeat' split) <;> (intro he; cases he)
 | makeSlice t a b => cases a <;> cases b <;> simp only [evOp] at he <;> revert he <;> (repeat' split) <;> (intro he; cases he)
 | makeMap t r => cases r <;> simp only [evOp, okp] at he <;> revert he <;> (repeat' split) <;> (intro he; cases he)
 | _ => simp only [evOp, okp] at he <;> revert he <;> (repeat' split) <;> (intro he; cases he)
theorem core_loc {C : (f : Nat) → List (Val T) → Option (Ret T tb f)} {o : Oper} {gd : Gd} {ρ ρ0 : Operand → Val T} {room : Nat} (h : AgF F ob1 ob2) (hr : refsO ρ (opsOf o.op) ⊆ F) (hb : extra tb ρ ob1 o.op ⊆ F) (hd : dstL o ⊆ F) (hn : needsDst o.op = true → o.dst ≠ none) :
  LocO F ob1 ob2 (core tb C o gd ρ ρ0 room ob1) (core tb C o gd ρ ρ0 room ob2) := by
 have hdst : needsDst o.op = true → dstOf o ∈ F := fun hh => by
  have := hn hh
  cases hd' : o.dst with
  | none => exact absurd hd' this
  | some d => exact hd (by simp [dstL, hd', dstOf])
 have hev := evOp_loc (tb := tb) (ρ0 := ρ0) (ty := o.type) h hr hb hdst
 have hca := lendA_loc (tb := tb) h (callArgs_refs.trans hr : refsL (callArgs tb ρ o.op) ⊆ F)
 have hkeys : ∀ {f as L ob'}, evOp tb ρ ρ0 ob1 (dstOf o) o.op o.type = .call f as L ob' → L ⊆ F := fun he => evOp_keys ⟨rfl, fun _ _ => rfl⟩ hr hb he
 unfold core
 cases gd with
 | bad => trivial
 | free =>
  simp only
  revert hev hkeys
  generalize evOp tb ρ ρ0 ob1 (dstOf o) o.op o.type = r1
  generalize evOp tb ρ ρ0 ob2 (dstOf o) o.op o.type = r2
  intro hev hkeys
  rcases hev.cases with ⟨rfl, rfl⟩ | ⟨c, v, o1, o2, rfl, rfl, l⟩ | ⟨f, as, L, o1, o2, rfl, rfl, l⟩
  ·trivial
  ·cases c <;> first | trivial | exact ⟨rfl, l⟩
  ·simp only
   split
   ·cases C f as with
    | none => trivial
    | some r =>
     simp only [Option.bind_some]
     have lx := outX_loc tb true (tb.xk f) r.2 L l.1 (hkeys rfl)
     unfold backV
     cases hdd : o.dst with
     | none => exact ⟨rfl, l.trans lx⟩
     | some d =>
      have hdF : d ∈ F := hd (by simp [dstL, hdd])
      simp only
      cases Tup.row tb (tb.rk f) r.1 with
      | none => exact ⟨rfl, l.trans lx⟩
      | some b =>
       simp only
       rw [lx.1.2 d hdF]
       exact ⟨rfl, (l.trans lx).trans (Loc.set lx.1 hdF _)⟩
   ·trivial
 | on t w e =>
  simp only
  revert hev hkeys
  generalize evOp tb ρ ρ0 ob1 (dstOf o) o.op o.type = r1
  generalize evOp tb ρ ρ0 ob2 (dstOf o) o.op o.type = r2
  intro hev hkeys
  split
  ·rcases hev.cases with ⟨rfl, rfl⟩ | ⟨c, v, o1, o2, rfl, rfl, l⟩ | ⟨f, as, L, o1, o2, rfl, rfl, l⟩
   ·trivial
   ·simp only
    split
    ·trivial
    ·cases (impB c e) <;> first | trivial | exact ⟨rfl, Loc.refl h⟩
   ·trivial
  ·split
   ·rcases hev.cases with ⟨rfl, rfl⟩ | ⟨c, v, o1, o2, rfl, rfl, l⟩ | ⟨f, as, L, o1, o2, rfl, rfl, l⟩
    ·trivial
    ·trivial
    ·simp only
     split
     ·rw [hca]
      split
      ·split
       ·split
        ·trivial
        ·cases (bif e then C f _ else some (Ret.dflt tb f)) with
         | none => trivial
         | some r => exact ⟨rfl, Loc.refl h⟩
       ·split
        ·split
         ·trivial
         ·cases (bif e then C f _ else some (Ret.dflt tb f)) with
          | none => trivial
          | some r => exact ⟨rfl, Loc.refl h⟩
        ·trivial
      ·trivial
     ·split
      ·trivial
      ·cases (bif e then C f _ else some (Ret.dflt tb f)) with
       | none => trivial
       | some r => exact ⟨rfl, outX_loc tb e (tb.xk f) r.2 L h (hkeys rfl)⟩
   ·trivial
theorem callV_nil {f : Nat} {as vals : List (Val T)} {L : List Nat} {ob ob' : List (Obj' T)} {v : Nat} (hx : extKeys ob vals = []) (he : callV tb v vals ob = .call f as L ob') : L = [] := by
 unfold callV at he
 split at he
 ·rw [hx] at he
  simp only [callP] at he
  revert he
  repeat' split
  all_goals (intro he; first | (simp only [OpR.call.injEq] at he; exact he.2.2.1.symm) | cases he)
 ·cases he
theorem core_plain {C : (f : Nat) → List (Val T) → Option (Ret T tb f)} {o : Oper} {gd : Gd} {ρ ρ0 : Operand → Val T} {room : Nat} {ob : List (Obj' T)} (hp : plainC ob (callArgs tb ρ o.op) o.op (gOf gd) = true) {q : (Val T × List Nat) × List (Obj' T)} (h : core tb C o gd ρ ρ0 room ob = some q) : q.2 = ob := by
 cases gd with
 | bad => simp [gOf, plainC] at hp
 | free => simp [gOf, plainC] at hp
 | on t w e =>
  simp only [gOf, plainC, Bool.and_eq_true] at hp
  obtain ⟨hc, hx⟩ := hp
  have hx : extKeys ob (callArgs tb ρ o.op) = [] := by
   revert hx
   split
   ·intro _; assumption
   ·intro hx; cases hx
  have hL : ∀ {f as L ob'}, evOp tb ρ ρ0 ob (dstOf o) o.op o.type = .call f as L ob' → L = [] := by
   revert hx
   generalize o.op = op at *
   intro hx f as L ob' he
   cases op with
   | call c =>
    obtain ⟨callee, args, ats⟩ := c
    cases callee with
    | value g =>
     simp only [evOp] at he
     simp only [callArgs] at hx
     cases hg : ρ g with
     | clo f' first caps =>
      rw [hg] at he hx
      simp only at he hx
      exact callV_nil hx he
     | _ => rw [hg] at he; cases he
    | invoke r m => cases hc
    | builtin b => cases hc
   | _ => cases hc
  unfold core at h
  revert h
  simp only
  split
  ·split
   ·split
    ·intro h; cases h
    ·intro h
     rename_i c v _ _ _
     cases hh : (impB c e) with
     | false => rw [hh] at h; cases h
     | true => rw [hh] at h; cases h; rfl
   ·intro h; cases h
  ·split
   ·rename_i he
    have := hL he
    subst this
    split
    ·split
     ·split
      ·split
       ·intro h; cases h
       ·intro h
        obtain ⟨r, _, e1⟩ := Option.bind_eq_some_iff.1 h
        cases e1; rfl
      ·split
       ·split
        ·intro h; cases h
        ·intro h
         obtain ⟨r, _, e1⟩ := Option.bind_eq_some_iff.1 h
         cases e1; rfl
       ·intro h; cases h
     ·intro h; cases h
    ·split
     ·intro h; cases h
     ·intro h
      obtain ⟨r, _, e1⟩ := Option.bind_eq_some_iff.1 h
      cases e1
      exact outX_nil _ _ _ _
   ·intro h; cases h
theorem core_wr {C : (f : Nat) → List (Val T) → Option (Ret T tb f)} {o : Oper} {gd : Gd} {ρ ρ0 : Operand → Val T} {room : Nat} {ob : List (Obj' T)} (hn : needsDst o.op = true → o.dst ≠ none) {q : (Val T × List Nat) × List (Obj' T)} (h : core tb C o gd ρ ρ0 room ob = some q) :
  q.2.length = ob.length ∧ ∀ k, k ∉ wrOf o (plainC ob (callArgs tb ρ o.op) o.op (gOf gd)) (refsO ρ (opsOf o.op) ++ extra tb ρ ob o.op ++ dstL o) → getO q.2 k = getO ob k := by
 have hl := core_loc (C := C) (o := o) (gd := gd) (ρ := ρ) (ρ0 := ρ0) (room := room) (F := refsO ρ (opsOf o.op) ++ extra tb ρ ob o.op ++ dstL o) (ob1 := ob) (ob2 := ob) ⟨rfl, fun _ _ => rfl⟩
  (fun k hk => List.mem_append_left _ (List.mem_append_left _ hk)) (fun k hk => List.mem_append_left _ (List.mem_append_right _ hk)) (fun k hk => List.mem_append_right _ hk) hn
 rw [h] at hl
 obtain ⟨_, l⟩ := hl
 refine ⟨l.2.2.2.1, fun k hk => ?_⟩
 unfold wrOf at hk
 split at hk
 ·rename_i hq
  suffices q.2 = ob by rw [this]
  unfold core at h
  cases gd with
  | bad => cases h
  | free =>
   simp only at h
   cases he : evOp tb ρ ρ0 ob (dstOf o) o.op o.type with
   | bad => rw [he] at h; cases h
   | ok c v ob' =>
    rw [he] at h
    have := quiet_ob hq he
    cases c with
    | false => cases h
    | true => cases h; exact this
   | call f as L ob' =>
    exfalso
    revert he hq
    clear h l
    generalize o.op = op
    generalize o.type = ty
    intro hq he
    cases op with
    | call c =>
     obtain ⟨callee, args, ats⟩ := c
     cases callee with
     | builtin b =>
      cases b <;> simp [quietOp] at hq <;> simp only [evOp] at he <;> revert he <;> (repeat' split) <;> (intro he; cases he)
     | _ => simp [quietOp] at hq
    | pick c x y => cases c <;> simp only [evOp] at he <;> revert he <;> (repeat' split) <;> (intro he; cases he)
    | unOp u t x => cases u <;> simp only [evOp] at he <;> revert he <;> (repeat' split) <;> (intro he; cases he)
    | makeFunc fn a b => cases fn <;> simp only [evOp] at he <;> revert he <;> (repeat' split) <;> (intro he; cases he)
    | _ =>
     first
      | (simp [quietOp] at hq; done)
      | (simp only [evOp] at he; revert he; (repeat' split) <;> (intro he; cases he))
  | on t w e =>
   simp only at h
   rw [if_pos (by unfold quietG; rw [hq]; rfl)] at h
   cases he : evOp tb ρ ρ0 ob (dstOf o) o.op o.type with
   | bad => rw [he] at h; cases h
   | ok c v ob' =>
    rw [he] at h
    simp only at h
    split at h
    ·cases h
    ·cases hh : (impB c e) with
     | false => rw [hh] at h; cases h
     | true => rw [hh] at h; cases h; rfl
   | call f as L ob' => rw [he] at h; cases h
 ·rename_i hq
  split at hk
  ·rename_i ha
   cases hop : o.op with
   | assign x =>
    unfold core at h
    rw [hop] at h
    cases gd with
    | bad => cases h
    | free =>
     simp only [evOp] at h
     split at h
     ·cases h
     ·rename_i c v ob' he
      cases c with
      | false => cases h
      | true =>
       cases h
       simp only
       have hd : o.dst ≠ none := hn (by rw [hop]; rfl)
       revert he
       split
       ·split
        ·intro he
         cases he
         refine getO_set_ne fun hh => hk ?_
         cases hdd : o.dst with
         | none => exact absurd hdd hd
         | some d => simp [dstL, hdd]; simp [dstOf, hdd] at hh; exact hh.symm
        ·intro he; cases he; rfl
       ·intro he; cases he; rfl
     ·rename_i f as L ob' he
      exfalso
      revert he
      repeat' split
      all_goals (intro he; cases he)
    | on t w e =>
     simp [quietG, slcQ, quietOp, callee1] at h
   | _ => rw [hop] at ha; cases ha
  ·cases hp : plainC ob (callArgs tb ρ o.op) o.op (gOf gd) with
   | false => rw [hp] at hk; exact l.2.1 k hk
   | true => rw [core_plain hp h]
end Go.Fw
namespace Go.Fw
open Go.RowKit
set_option linter.unusedVariables false
set_option linter.unusedSimpArgs false
variable {T : Nat → Type} {P : Program} {tb : Tab T} {w0 : Base} {w : World} {N0 N : NS} {h : Nat → Value}
theorem extra_loc {F : List Nat} {ob1 ob2 : List (Obj' T)} {ρ : Operand → Val T} {op : Op} (h : AgF F ob1 ob2) (hr : refsO ρ (opsOf op) ⊆ F) (hb : extra tb ρ ob1 op ⊆ F) : extra tb ρ ob1 op = extra tb ρ ob2 op := by
 unfold extra at hb ⊢
 cases hc : callee1 op with
 | false => rfl
 | true =>
  rw [hc] at hb
  simp only at hb ⊢
  obtain ⟨h1, h2⟩ := extKeys_loc h (callArgs_refs.trans hr) hb
  rw [← h1]
  exact bodiesRefs_loc h h2
def stp (C : (f : Nat) → List (Val T) → Option (Ret T tb f)) (ops : Array Oper) (o : Oper) (s : St T) : Option (St T) := (step tb ops o s).run C
def Alike (s t : St T) : Prop := s.sl = t.sl ∧ s.ob = t.ob ∧ ∀ x, x ∈ s.gs ↔ x ∈ t.gs
theorem Alike.refl (s : St T) : Alike s s := ⟨rfl, rfl, fun _ => Iff.rfl⟩
theorem Alike.trans {s t u : St T} (a : Alike s t) (b : Alike t u) : Alike s u := ⟨a.1.trans b.1, a.2.1.trans b.2.1, fun x => (a.2.2 x).trans (b.2.2 x)⟩
theorem Alike.symm {s t : St T} (a : Alike s t) : Alike t s := ⟨a.1.symm, a.2.1.symm, fun x => (a.2.2 x).symm⟩
theorem setd_get (sl : List (Val T)) (dst : Option Nat) (V : Val T) (t : Nat) (ht : dst ≠ some t) : (setd sl dst V).getD t .junk = sl.getD t .junk := by
 cases dst with
 | none => rfl
 | some d =>
  simp only [setd, List.getD_eq_getElem?_getD]
  rw [List.getElem?_set_ne (fun hh => ht (by rw [hh]))]
theorem tmpsOf_mem {l : List Operand} {t : Nat} (h : Operand.tmp t ∈ l) : t ∈ tmpsOf l := by
 induction l with
 | nil => cases h
 | cons x l ih =>
  rcases List.mem_cons.1 h with rfl | h'
  ·simp [tmpsOf]
  ·cases x <;> simp [tmpsOf, ih h']
theorem clash_iff {s : St T} {dst : Option Nat} : clash s dst = false ↔ ∀ d, dst = some d → d ∉ s.gs := by
 cases dst with
 | none => simp [clash]
 | some d =>
  simp only [clash, Option.some.injEq, forall_eq']
  rw [← memN_iff]
  cases memN s.gs d <;> simp
theorem step_local {C : (f : Nat) → List (Val T) → Option (Ret T tb f)} {ops : Array Oper} {o : Oper} {s t s' : St T} (hl : ∀ x ∈ looksB ops o, s.get x = t.get x) (ha : AgF (rdOf tb ops o s) s.ob t.ob) (hsl : s.sl.length = t.sl.length) (hc : clash t o.dst = false) (hs : stp C ops o s = some s') :
  ftOf tb ops o t = ftOf tb ops o s ∧ ∃ t' V g, stp C ops o t = some t' ∧ s'.sl = setd s.sl o.dst V ∧ t'.sl = setd t.sl o.dst V ∧ s'.gs = g ++ s.gs ∧ t'.gs = g ++ t.gs ∧ (∀ x ∈ g, x ∈ looksB ops o) ∧
   Loc (rdOf tb ops o s) s.ob t.ob s'.ob t'.ob ∧ (∀ k, k ∉ (ftOf tb ops o s).2 → getO s'.ob k = getO s.ob k) ∧ (∀ k, k ∉ (ftOf tb ops o s).2 → getO t'.ob k = getO t.ob k) := by
 have hops : ∀ x ∈ opsOf o.op, opv s x = opv t x := fun x hx => by
  cases x with
  | tmp y => exact hl y (by unfold looksB; exact List.mem_append_left _ (tmpsOf_mem hx))
  | _ => rfl
 have hgd : guardOf ops t o = guardOf ops s o := by
  unfold guardOf
  cases hg : o.guard with
  | none => rfl
  | some jw =>
   obtain ⟨j, wt⟩ := jw
   simp only
   cases hd : (ops[j]?).bind (·.dst) with
   | none => rfl
   | some y =>
    simp only
    rw [hl y (by unfold looksB grdL; rw [hg]; simp only; rw [hd]; simp)]
 have hops' : ∀ x ∈ opsOf o.op, (fun x => unG (gOf (guardOf ops s o)) (opv t x)) x = (fun x => unG (gOf (guardOf ops s o)) (opv s x)) x := fun x hx => by simp only; rw [hops x hx]
 have hrefs : refsO (fun x => unG (gOf (guardOf ops s o)) (opv t x)) (opsOf o.op) = refsO (fun x => unG (gOf (guardOf ops s o)) (opv s x)) (opsOf o.op) := by
  have : ∀ l : List Operand, (∀ x ∈ l, opv s x = opv t x) → refsO (fun x => unG (gOf (guardOf ops s o)) (opv t x)) l = refsO (fun x => unG (gOf (guardOf ops s o)) (opv s x)) l := by
   intro l
   induction l with
   | nil => intro _; rfl
   | cons x l ih => intro hh; simp only [refsO]; rw [hh x (by simp), ih fun y hy => hh y (by simp [hy])]
  exact this _ hops
 have hextra : extra tb (fun x => unG (gOf (guardOf ops s o)) (opv t x)) t.ob o.op = extra tb (fun x => unG (gOf (guardOf ops s o)) (opv s x)) s.ob o.op := by
  have h1 : extra tb (fun x => unG (gOf (guardOf ops s o)) (opv t x)) t.ob o.op = extra tb (fun x => unG (gOf (guardOf ops s o)) (opv s x)) t.ob o.op := by
   unfold extra
   rw [callArgs_congr hops']
  rw [h1]
  exact (extra_loc ha (fun k hk => List.mem_append_left _ (List.mem_append_left _ hk)) (fun k hk => List.mem_append_left _ (List.mem_append_right _ hk))).symm
 have hrd : rdOf tb ops o t = rdOf tb ops o s := by
  unfold rdOf
  rw [hgd, hrefs, hextra]
 have hpl : plainC t.ob (callArgs tb (fun x => unG (gOf (guardOf ops t o)) (opv t x)) o.op) o.op (gOf (guardOf ops t o)) = plainC s.ob (callArgs tb (fun x => unG (gOf (guardOf ops s o)) (opv s x)) o.op) o.op (gOf (guardOf ops s o)) := by
  rw [hgd, callArgs_congr hops']
  cases hgo : gOf (guardOf ops s o) with
  | none => rfl
  | some g =>
   unfold plainC
   cases hc1 : callee1 o.op with
   | false => rfl
   | true =>
    have hb : bodiesRefs s.ob (extKeys s.ob (callArgs tb (fun x => unG (gOf (guardOf ops s o)) (opv s x)) o.op)) ⊆ rdOf tb ops o s := fun k hk => List.mem_append_left _ (List.mem_append_right _ (by unfold extra; rw [hc1]; exact hk))
    have hk := (extKeys_loc ha (callArgs_refs.trans fun k hk => List.mem_append_left _ (List.mem_append_left _ hk)) hb).1
    rw [hgo] at hk
    rw [← hk]
 have hft : ftOf tb ops o t = ftOf tb ops o s := by
  unfold ftOf
  rw [hrd, hpl]
 refine ⟨hft, ?_⟩
 unfold ftOf
 simp only
 unfold stp at hs ⊢
 rw [step_core] at hs ⊢
 have hlen := ha.1
 have hdi : dstIn t o.dst = dstIn s o.dst := by unfold dstIn; cases o.dst <;> simp [hlen, hsl]
 have hro : room1 t o.dst = room1 s o.dst := by unfold room1; rw [hdi]
 rw [hgd, hdi, hro, hc]
 cases hnd : needsDst o.op && !(dstIn s o.dst) with
 | true => rw [hnd] at hs; simp at hs
 | false =>
  rw [hnd] at hs
  cases hcs : clash s o.dst with
  | true => rw [hcs] at hs; simp at hs
  | false =>
   rw [hcs] at hs
   simp only [Bool.or_self, Bool.false_eq_true, if_false] at hs ⊢
   have hn : needsDst o.op = true → o.dst ≠ none := fun hh hd => by rw [hh, hd] at hnd; simp [dstIn] at hnd
   rw [core_congr (o := o) hops' fun x hx => (hops x hx).symm]
   have hloc := core_loc (C := C) (o := o) (gd := guardOf ops s o) (ρ := fun x => unG (gOf (guardOf ops s o)) (opv s x)) (ρ0 := opv s) (room := room1 s o.dst) ha
    (fun k hk => List.mem_append_left _ (List.mem_append_left _ hk)) (fun k hk => List.mem_append_left _ (List.mem_append_right _ hk)) (fun k hk => List.mem_append_right _ hk) hn
   rcases hloc.cases with ⟨e1, e2⟩ | ⟨q, o1, o2, e1, e2, l⟩
   ·rw [e1] at hs; cases hs
   ·rw [e1] at hs
    rw [e2]
    have hw1 := core_wr hn e1
    have hw2 := core_wr hn e2
    simp only [Option.map_some, Option.some.injEq] at hs
    subst hs
    refine ⟨_, q.1, q.2, rfl, rfl, rfl, rfl, rfl, fun x hx => ?_, l, hw1.2, fun k hk => hw2.2 k ?_⟩
    ·-- the notes are the guard's slot
     unfold looksB
     refine List.mem_append_right _ ?_
     clear hw1 hw2 hloc l e2
     unfold core at e1
     revert e1
     cases hg : guardOf ops s o with
     | bad => intro e1; cases e1
     | free =>
      simp only
      split
      ·intro e1; cases e1
      ·rename_i c v ob' _
       cases c <;> intro e1 <;> cases e1
       cases hx
      ·split
       ·intro e1
        rename_i f args L ob' _ _
        cases hcf : C f args with
        | none => rw [hcf] at e1; cases e1
        | some r => rw [hcf] at e1; cases e1; cases hx
       ·intro e1; cases e1
     | on t w e =>
      have ht : t ∈ grdL ops o := by
       unfold guardOf at hg
       unfold grdL
       revert hg
       cases o.guard with
       | none => intro hg; cases hg
       | some jw =>
        obtain ⟨j, wt⟩ := jw
        simp only
        cases (ops[j]?).bind (·.dst) with
        | none => intro hg; cases hg
        | some y =>
         simp only
         intro hg
         revert hg
         split
         ·intro hg; cases hg; simp
         ·intro hg; cases hg; simp
         ·intro hg; cases hg
      intro e1
      have : q.2 = [t] := by
       revert e1
       simp only
       split
       ·split
        ·split
         ·intro e1; cases e1
         ·intro e1
          rename_i c v _ _ _
          cases hh : (impB c e) with
          | false => rw [hh] at e1; cases e1
          | true => rw [hh] at e1; cases e1; rfl
        ·intro e1; cases e1
       ·split
        ·split
         ·split
          ·split
           ·split
            ·split
             ·intro e1; cases e1
             ·intro e1
              obtain ⟨r, _, e1⟩ := Option.bind_eq_some_iff.1 e1
              cases e1; rfl
            ·split
             ·split
              ·intro e1; cases e1
              ·intro e1
               obtain ⟨r, _, e1⟩ := Option.bind_eq_some_iff.1 e1
               cases e1; rfl
             ·intro e1; cases e1
           ·intro e1; cases e1
          ·split
           ·intro e1; cases e1
           ·intro e1
            obtain ⟨r, _, e1⟩ := Option.bind_eq_some_iff.1 e1
            cases e1; rfl
         ·intro e1; cases e1
        ·intro e1; cases e1
      rw [this] at hx
      simp only [List.mem_singleton] at hx
      rw [hx]
      exact ht
    ·have : refsO (fun x => unG (gOf (guardOf ops s o)) (opv s x)) (opsOf o.op) ++ extra tb (fun x => unG (gOf (guardOf ops s o)) (opv s x)) t.ob o.op ++ dstL o = rdOf tb ops o s := by
      unfold rdOf
      rw [extra_loc ha (fun k hk => List.mem_append_left _ (List.mem_append_left _ hk)) (fun k hk => List.mem_append_left _ (List.mem_append_right _ hk))]
     rw [this]
     rw [hgd, callArgs_congr hops'] at hpl
     rw [hpl]
     exact hk
end Go.Fw
namespace Go.Fw
open Go.RowKit
set_option linter.unusedVariables false
set_option linter.unusedSimpArgs false
variable {T : Nat → Type} {P : Program} {tb : Tab T} {w0 : Base} {w : World} {N0 N : NS} {h : Nat → Value}
theorem disjB_iff {l m : List Nat} (h : disjB l m = true) : ∀ x ∈ l, x ∉ m := by
 induction l with
 | nil => intro x hx; cases hx
 | cons a r ih =>
  simp only [disjB, Bool.and_eq_true, Bool.not_eq_true'] at h
  intro x hx hm
  rcases List.mem_cons.1 hx with rfl | hx
  ·rw [inB_iff.2 hm] at h; cases h.1
  ·exact ih h.2 x hx hm
theorem wrOf_sub (o : Oper) (pl : Bool) (rd : List Nat) (hd : dstL o ⊆ rd) : wrOf o pl rd ⊆ rd := by
 unfold wrOf
 split
 ·intro k hk; cases hk
 ·split
  ·exact hd
  ·cases pl with
   | true => intro k hk; cases hk
   | false => exact fun k hk => hk
def Apart (ops : Array Oper) (p q : Oper) (rp rq : List Nat × List Nat) : Prop :=
 (∀ d, p.dst = some d → d ∉ looksB ops q) ∧ (∀ d, q.dst = some d → d ∉ looksB ops p) ∧ (∀ d, p.dst = some d → q.dst ≠ some d) ∧ (∀ k ∈ rp.2, k ∉ rq.1) ∧ (∀ k ∈ rq.2, k ∉ rp.1)
theorem Apart.symm {ops : Array Oper} {p q : Oper} {rp rq : List Nat × List Nat} (a : Apart ops p q rp rq) : Apart ops q p rq rp :=
 ⟨a.2.1, a.1, fun d h1 h2 => a.2.2.1 d h2 h1, a.2.2.2.2, a.2.2.2.1⟩
theorem apartB_spec {ops : Array Oper} {p q : Oper} {rp rq : List Nat × List Nat} (h : apartB ops p q rp rq = true) : Apart ops p q rp rq := by
 simp only [apartB, Bool.and_eq_true] at h
 obtain ⟨h1, h2, h3, h4, h5⟩ := h
 refine ⟨fun d hd => disjB_iff h1 d (by simp [dstL, hd]), fun d hd => disjB_iff h2 d (by simp [dstL, hd]), fun d hd hq => disjB_iff h3 d (by simp [dstL, hd]) (by simp [dstL, hq]), disjB_iff h4, disjB_iff h5⟩
theorem setd_comm (sl : List (Val T)) {d e : Option Nat} (V U : Val T) (h : ∀ x, d = some x → e ≠ some x) : setd (setd sl d V) e U = setd (setd sl e U) d V := by
 cases d with
 | none => rfl
 | some d =>
  cases e with
  | none => rfl
  | some e => simp only [setd]; exact List.set_comm _ _ (fun hh => h d rfl (by rw [hh]))
theorem ob_ext {ob1 ob2 : List (Obj' T)} (hl : ob1.length = ob2.length) (h : ∀ k, getO ob1 k = getO ob2 k) : ob1 = ob2 := by
 apply List.ext_getElem?
 intro k
 have := h k
 unfold getO at this
 simp only [List.getD_eq_getElem?_getD] at this
 by_cases hk : k < ob1.length
 ·have hk2 : k < ob2.length := by omega
  rw [List.getElem?_eq_getElem hk, List.getElem?_eq_getElem hk2] at this ⊢
  simpa using this
 ·rw [List.getElem?_eq_none (by omega), List.getElem?_eq_none (by omega)]
theorem rdOf_dst (tb : Tab T) (ops : Array Oper) (o : Oper) (s : St T) : dstL o ⊆ rdOf tb ops o s := fun k hk => List.mem_append_right _ hk
theorem ftOf_sub (tb : Tab T) (ops : Array Oper) (o : Oper) (s : St T) : (ftOf tb ops o s).2 ⊆ (ftOf tb ops o s).1 := wrOf_sub _ _ _ (rdOf_dst _ _ _ _)
theorem stp_clash {C : (f : Nat) → List (Val T) → Option (Ret T tb f)} {ops : Array Oper} {o : Oper} {s s' : St T} (h : stp C ops o s = some s') : clash s o.dst = false := by
 unfold stp at h
 rw [step_core] at h
 cases hc : clash s o.dst with
 | false => rfl
 | true => rw [hc] at h; simp at h
theorem setd_get' (s : St T) {sl : List (Val T)} {dst : Option Nat} {V : Val T} (hs : s.sl = setd sl dst V) {x : Nat} (hx : ∀ d, dst = some d → d ≠ x) {t : St T} (ht : t.sl = sl) : s.get x = t.get x := by
 unfold St.get
 rw [hs, ht]
 exact setd_get sl dst V x fun hh => hx x hh rfl
theorem step_commute {C : (f : Nat) → List (Val T) → Option (Ret T tb f)} {ops : Array Oper} {p q : Oper} {s s1 s2 : St T} (h1 : stp C ops p s = some s1) (h2 : stp C ops q s1 = some s2) (ha : Apart ops p q (ftOf tb ops p s) (ftOf tb ops q s1)) :
  ftOf tb ops q s = ftOf tb ops q s1 ∧ ∃ t1, stp C ops q s = some t1 ∧ ftOf tb ops p t1 = ftOf tb ops p s ∧ ∃ t2, stp C ops p t1 = some t2 ∧ Alike s2 t2 := by
 obtain ⟨a1, a2, a3, a4, a5⟩ := ha
 -- the first step's shape
 obtain ⟨_, s1', Vp, gp, e1, sl1, _, gs1, _, gl1, loc1, wr1, _⟩ := step_local (t := s) (fun _ _ => rfl) ⟨rfl, fun _ _ => rfl⟩ rfl (stp_clash h1) h1
 rw [h1] at e1
 cases e1
 have hlen1 : s1.ob.length = s.ob.length := loc1.2.2.2.1
 -- q at s
 have hq : ∀ x ∈ looksB ops q, s1.get x = s.get x := fun x hx => setd_get' s1 sl1 (fun d hd hh => a1 d hd (hh ▸ hx)) rfl
 have haq : AgF (rdOf tb ops q s1) s1.ob s.ob := ⟨hlen1, fun k hk => wr1 k fun hw => a4 k hw hk⟩
 have hcq : clash s q.dst = false := clash_iff.2 fun d hd hm => clash_iff.1 (stp_clash h2) d hd (by rw [gs1]; exact List.mem_append_right _ hm)
 obtain ⟨r1, t1, Vq, gq, e2, sl2, tl1, gs2, tg1, gl2, loc2, wr2, wt2⟩ := step_local hq haq (by rw [sl1]; cases p.dst <;> simp [setd]) hcq h2
 refine ⟨r1, t1, e2, ?_⟩
 -- p at t1
 have hp : ∀ x ∈ looksB ops p, s.get x = t1.get x := fun x hx => (setd_get' t1 tl1 (fun d hd hh => a2 d hd (hh ▸ hx)) rfl).symm
 have hlen2 : t1.ob.length = s.ob.length := loc2.2.2.2.2
 have hap : AgF (rdOf tb ops p s) s.ob t1.ob := ⟨hlen2.symm, fun k hk => (wt2 k fun hw => a5 k hw hk).symm⟩
 have hcp : clash t1 p.dst = false := clash_iff.2 fun d hd hm => by
  rw [tg1] at hm
  rcases List.mem_append.1 hm with hm | hm
  ·exact a1 d hd (gl2 d hm)
  ·exact clash_iff.1 (stp_clash h1) d hd hm
 obtain ⟨r2, t2, Vp', gp', e3, sl1', tl2, gs1', tg2, gl1', loc3, wr3, wt3⟩ := step_local hp hap (by rw [tl1]; cases q.dst <;> simp [setd]) hcp h1
 refine ⟨r2, t2, e3, ?_, ?_, fun x => ?_⟩
 ·rw [sl2, tl2, sl1, tl1, setd_comm _ _ _ a3]
  -- the value is the same
  cases hd : p.dst with
  | none => rfl
  | some d =>
   rw [hd] at sl1 sl1'
   rw [sl1] at sl1'
   simp only [setd] at sl1' ⊢
   have hg : ∀ (sl : List (Val T)), sl.length = s.sl.length → sl.set d Vp = sl.set d Vp' := fun sl hsl => by
    by_cases hlt : d < s.sl.length
    ·have := congrArg (fun l : List (Val T) => l[d]?) sl1'
     simp [hlt] at this
     rw [this]
    ·have hle : sl.length ≤ d := by rw [hsl]; exact Nat.le_of_not_lt hlt
     rw [List.set_eq_of_length_le hle, List.set_eq_of_length_le hle]
   refine hg _ ?_
   cases q.dst <;> simp [setd]
 ·refine ob_ext ?_ fun k => ?_
  ·rw [loc2.2.2.2.1, hlen1, loc3.2.2.2.2, hlen2]
  ·by_cases hk1 : k ∈ (ftOf tb ops p s).2
   ·have hkr : k ∈ rdOf tb ops p s := ftOf_sub _ _ _ _ hk1
    rw [wr2 k fun hw => a4 k hk1 (ftOf_sub _ _ _ _ hw)]
    exact loc3.1.2 k hkr
   ·rw [wt3 k hk1]
    by_cases hk2 : k ∈ (ftOf tb ops q s1).2
    ·exact loc2.1.2 k (ftOf_sub _ _ _ _ hk2)
    ·rw [wr2 k hk2, wt2 k hk2, wr1 k hk1]
 ·rw [gs2, tg2, gs1, tg1]
  have hgp : gp = gp' := by
   rw [gs1] at gs1'
   exact List.append_cancel_right gs1'
  subst hgp
  simp only [List.mem_append]
  constructor
  ·rintro (h | h | h)
   ·exact .inr (.inl h)
   ·exact .inl h
   ·exact .inr (.inr h)
  ·rintro (h | h | h)
   ·exact .inr (.inl h)
   ·exact .inl h
   ·exact .inr (.inr h)
theorem stp_alike {C : (f : Nat) → List (Val T) → Option (Ret T tb f)} {ops : Array Oper} {o : Oper} {s s' t : St T} (h : stp C ops o s = some s') (ha : Alike s t) : ftOf tb ops o t = ftOf tb ops o s ∧ ∃ t', stp C ops o t = some t' ∧ Alike s' t' := by
 have hget : ∀ x, s.get x = t.get x := fun x => by unfold St.get; rw [ha.1]
 have hc : clash t o.dst = false := clash_iff.2 fun d hd hm => clash_iff.1 (stp_clash h) d hd ((ha.2.2 d).2 hm)
 obtain ⟨r1, t', V, g, e, sl1, sl2, gs1, gs2, _, loc, w1, w2⟩ := step_local (fun x _ => hget x) ⟨by rw [ha.2.1], fun k _ => by rw [ha.2.1]⟩ (by rw [ha.1]) hc h
 refine ⟨r1, t', e, ?_, ?_, fun x => ?_⟩
 ·rw [sl1, sl2, ha.1]
 ·refine ob_ext (by rw [loc.2.2.2.1, loc.2.2.2.2, ha.2.1]) fun k => ?_
  by_cases hk : k ∈ rdOf tb ops o s
  ·exact loc.1.2 k hk
  ·rw [loc.2.1 k hk, loc.2.2.1 k hk, ha.2.1]
 ·rw [gs1, gs2, List.mem_append, List.mem_append, ha.2.2 x]
theorem Alike.rel {s t : St T} {a : Act} (ha : Alike s t) (hr : Rel tb w0 N0 s a w) : Rel tb w0 N0 t a w := by
 obtain ⟨N, h, inv⟩ := hr
 obtain ⟨e1, e2, e3⟩ := ha
 obtain ⟨sl, ob, gs⟩ := s
 obtain ⟨sl', ob', gs'⟩ := t
 simp only at e1 e2 e3
 subst e1; subst e2
 exact ⟨N, h, inv.mem, inv.dfr, inv.sz, inv.nn, inv.slots, fun x t wt e V hx => ⟨(e3 t).1 (inv.cnds x t wt e V hx).1, (inv.cnds x t wt e V hx).2⟩⟩
def Down (ops : Array Oper) (listed : Array Bool) : Prop := ∀ j o, ops[j]? = some o → listed.getD j false = true → ∀ e ∈ bindsOn o, listed.getD e false = true
def AncOk (ops : Array Oper) (p : Pst) : Prop := ∀ listed, Down ops listed → (∀ e ∈ bindsOn p.o, listed.getD e false = true) → ∀ i ∈ p.anc, listed.getD i false = true
theorem mem_bindsOn {o : Oper} {i : Nat} : i ∈ bindsOn o ↔ ∃ e ∈ o.after, Region.binds .any e = true ∧ e.on = i := by
 unfold bindsOn
 rw [List.mem_filterMap]
 constructor
 ·rintro ⟨e, he, hh⟩
  split at hh
  ·rename_i hb
   cases hh
   exact ⟨e, by simpa using he, hb, rfl⟩
  ·cases hh
 ·rintro ⟨e, he, hb, rfl⟩
  exact ⟨e, by simpa using he, by rw [if_pos hb]⟩
theorem ready_binds {ops : Array Oper} {listed : Array Bool} {j : Nat} {o : Oper} (hj : j ∈ Region.ready .any ops listed) (ho : ops[j]? = some o) : ∀ e ∈ bindsOn o, listed.getD e false = true := by
 intro i hi
 obtain ⟨e, he, hb, rfl⟩ := mem_bindsOn.1 hi
 obtain ⟨_, o', ho', hall⟩ := mem_ready.1 hj
 rw [ho] at ho'
 cases ho'
 exact hall e he hb
theorem Down.set {ops : Array Oper} {listed : Array Bool} (hd : Down ops listed) {j : Nat} (hj : j ∈ Region.ready .any ops listed) : Down ops (listed.setIfInBounds j true) := by
 intro i o ho hi e he
 by_cases hij : j = i
 ·subst hij
  exact getD_set_true (ready_binds hj ho e he)
 ·rw [getD_set_ne false hij] at hi
  exact getD_set_true (hd i o ho hi e he)
structure Recs (ops : Array Oper) (R : List Pst) : Prop where
 recs : ∀ p ∈ R, ops[p.ix]? = some p.o ∧ AncOk ops p
 pairs : ∀ p ∈ R, ∀ q ∈ R, p.ix ≠ q.ix → p.ix ∈ q.anc ∨ q.ix ∈ p.anc ∨ Apart ops p.o q.o p.rd q.rd
def anyOk (tb : Tab T) (C : (f : Nat) → List (Val T) → Option (Ret T tb f)) (ops : Array Oper) (R : List Pst) (sf : St T) : Nat → Array Bool → St T → Prop
 | 0, listed, s => Region.ready .any ops listed = [] ∧ Alike s sf
 | n + 1, listed, s => (Region.ready .any ops listed = [] → Alike s sf) ∧ ∀ i ∈ Region.ready .any ops listed, ∃ p ∈ R, p.ix = i ∧ ftOf tb ops p.o s = p.rd ∧ ∃ s', stp C ops p.o s = some s' ∧ anyOk tb C ops R sf n (listed.setIfInBounds i true) s'
theorem anyOk_alike {C : (f : Nat) → List (Val T) → Option (Ret T tb f)} {ops : Array Oper} {R : List Pst} {sf : St T} : ∀ {n : Nat} {listed : Array Bool} {s t : St T}, Alike s t → anyOk tb C ops R sf n listed s → anyOk tb C ops R sf n listed t := by
 intro n
 induction n with
 | zero => intro listed s t ha h; exact ⟨h.1, ha.symm.trans h.2⟩
 | succ n ih =>
  intro listed s t ha h
  refine ⟨fun hr => ha.symm.trans (h.1 hr), fun i hi => ?_⟩
  obtain ⟨p, hp, e1, e2, s', e3, e4⟩ := h.2 i hi
  obtain ⟨r1, t', e5, e6⟩ := stp_alike e3 ha
  exact ⟨p, hp, e1, r1.trans e2, t', e5, ih e6 e4⟩
theorem anyOk_first {C : (f : Nat) → List (Val T) → Option (Ret T tb f)} {ops : Array Oper} {R : List Pst} (hR : Recs ops R) {sf : St T} {p : Pst} (hp : p ∈ R) : ∀ {n : Nat} {listed : Array Bool} {s s1 : St T}, Down ops listed → p.ix ∈ Region.ready .any ops listed → ftOf tb ops p.o s = p.rd → stp C ops p.o s = some s1 →
  anyOk tb C ops R sf n (listed.setIfInBounds p.ix true) s1 → anyOk tb C ops R sf (n + 1) listed s := by
 intro n
 induction n with
 | zero =>
  intro listed s s1 hd hr hrd hs H
  refine ⟨fun h => (by rw [h] at hr; cases hr), fun j hj => ?_⟩
  by_cases hji : j = p.ix
  ·subst hji; exact ⟨p, hp, rfl, hrd, s1, hs, H⟩
  ·have := ready_mono hj hji
   rw [H.1] at this
   cases this
 | succ n ih =>
  intro listed s s1 hd hr hrd hs H
  refine ⟨fun h => (by rw [h] at hr; cases hr), fun j hj => ?_⟩
  by_cases hji : j = p.ix
  ·subst hji; exact ⟨p, hp, rfl, hrd, s1, hs, H⟩
  ·obtain ⟨q, hq, rfl, q2, s2, q3, q4⟩ := H.2 j (ready_mono hj hji)
   have un : ∀ {i : Nat}, i ∈ Region.ready .any ops listed → listed.getD i false ≠ true := fun {i} hi hh => by
    have h0 := (mem_ready.1 hi).1
    rcases Nat.lt_or_ge i listed.size with h' | h'
    ·simp [h'] at h0 hh; rw [h0] at hh; cases hh
    ·simp [Array.getElem?_eq_none h'] at hh
   have hap : Apart ops p.o q.o p.rd q.rd := by
    rcases hR.pairs p hp q hq (fun hh => hji hh.symm) with h1 | h1 | h1
    ·exact absurd ((hR.recs q hq).2 listed hd (ready_binds hj (hR.recs q hq).1) _ h1) (un hr)
    ·exact absurd ((hR.recs p hp).2 listed hd (ready_binds hr (hR.recs p hp).1) _ h1) (un hj)
    ·exact h1
   obtain ⟨r1, t1, e1, r2, t2, e2, e3⟩ := step_commute hs q3 (by rw [hrd, q2]; exact hap)
   refine ⟨q, hq, rfl, r1.trans q2, t1, e1, ih (hd.set hj) (ready_mono hr (fun hh => hji hh.symm)) (r2.trans hrd) e2 ?_⟩
   rw [Array.setIfInBounds_comm _ _ hji]
   exact anyOk_alike e3 q4
theorem wpAny_of_anyOk (ok : TabOk P tb) {C : (f : Nat) → List (Val T) → Option (Ret T tb f)} (hC : SoundC P tb C) {ops : Array Oper} {R : List Pst} (hR : Recs ops R) {sf : St T} {Q : Exit → Act → World → Prop} (hq : ∀ a w, Rel tb w0 N0 sf a w → Q .normal a w) :
  ∀ {n : Nat} {listed : Array Bool} {s : St T} {a : Act} {w : World}, Rel tb w0 N0 s a w → anyOk tb C ops R sf n listed s → wpAny P .any ops Q n listed a w := by
 intro n
 induction n with
 | zero => intro listed s a w hs h; exact ⟨h.1, hq _ _ (h.2.rel hs)⟩
 | succ n ih =>
  intro listed s a w hs h
  refine ⟨fun hr => hq _ _ ((h.1 hr).rel hs), fun i hi => ?_⟩
  obtain ⟨p, hp, rfl, _, s', e1, e2⟩ := h.2 i hi
  have := step_sound ok hC hs ops p.o e1 Q (wpAny P .any ops Q n (listed.setIfInBounds p.ix true)) fun a w hs' => ih hs' e2
  unfold StepOk at this
  unfold wpOp
  rw [(hR.recs p hp).1]
  simp only
  split
  ·rename_i hw; rw [if_pos hw] at this; exact .inl this
  ·rename_i hw; rw [if_neg hw] at this; exact this
end Go.Fw
