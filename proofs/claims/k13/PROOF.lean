import PyProof.Rows.All
import Wide.All
import OpenK.AllK
import Wide.FinOn
import HandS.ForMost
import HandS.Deep
import HandS.IsInst
import HandS.SortInts
import HandS.Conv
import HandS.More
import HandS.WordsExc
import HandS.TryMany
import HandS.EndTab
import HandS.Style
import KE.SortKeyHeap
import HandS.SortRule
import HandS.ExcIs
import KE.GoesRaise
import HandS.Codes
import PySem.Challenge.RW_matroidpick_k13_written_and_read
set_option Elab.async false
set_option linter.all false
set_option maxRecDepth 100000
set_option maxHeartbeats 8000000
namespace MP
open PySem PySem.Spec PyProof.Rows L2

/-! ### the weakest word before a piece of syntax -/
def EW (X : Cx) (e : Expr) : TE := fun σ H Q => ∃ t, PE X e t ∧ t σ H Q
theorem ew_pe {X : Cx} {e : Expr} : PE X e (EW X e) := ⟨fun pins s σ H Q I h => by
  obtain ⟨t, p, h⟩ := h
  exact p.run pins s σ H Q I h⟩
def TW (X : Cx) (e : Expr) : TT := fun σ H Q => ∃ t, PT X e t ∧ t σ H Q
theorem tw_pt {X : Cx} {e : Expr} : PT X e (TW X e) := ⟨fun pins s σ H Q I h => by
  obtain ⟨t, p, h⟩ := h
  exact p.run pins s σ H Q I h⟩
def WW (X : Cx) (e : Expr) : TT := fun σ H Q => ∃ t, PW X e t ∧ t σ H Q
theorem ww_pw {X : Cx} {e : Expr} : PW X e (WW X e) := ⟨fun wh pins s σ H Q I h => by
  obtain ⟨t, p, h⟩ := h
  exact p.run wh pins s σ H Q I h⟩
def AW (X : Cx) (es : List Expr) : TA := fun σ H Q => ∃ t, PA X es t ∧ t σ H Q
theorem aw_pa {X : Cx} {es : List Expr} : PA X es (AW X es) := ⟨fun pos pins s σ H Q I h => by
  obtain ⟨t, p, h⟩ := h
  exact p.run pos pins s σ H Q I h⟩
def SW (X : Cx) (st : Stmt) : TS := fun D σ H => ∃ t, PS X st t ∧ t D σ H
theorem sw_ps {X : Cx} {st : Stmt} : PS X st (SW X st) := ⟨fun pins s σ H D I h => by
  obtain ⟨t, p, h⟩ := h
  exact p.run pins s σ H D I h⟩
def BW (X : Cx) (sts : List Stmt) : TS := fun D σ H => ∃ t, PSs X sts t ∧ t D σ H
theorem bw_pss {X : Cx} {sts : List Stmt} : PSs X sts (BW X sts) := ⟨fun pins s σ H D I h => by
  obtain ⟨t, p, h⟩ := h
  exact p.run pins s σ H D I h⟩

/-! ### worlds: what is told for good (F), within what stands (H) -/
/-- neither a table of code objects nor a bare fact -/
def plainO : HO → Bool
  | .tbl _ => false
  | .ext _ => false
  | .tup _ => false
  | _ => true
/-- the one lambda's name -/
def q0 : Str := "order.<locals>.<lambda>"
/-- what stands stays; a table of code objects may grow -/
structure Kp (H H' : Hp) : Prop where
  ext : LamX.ExtN H H'
  new : ∀ b, H' b = none → H b = none
  tab : ∀ P, LamX.TabS H P q0 → LamX.TabS H' P q0
  tbs : ∀ b ps, H b = some (.tbl ps) → ∃ ps', H' b = some (.tbl ps')
/-- no tuple -/
def ntup : HO → Bool
  | .tup _ => false
  | _ => true
theorem plainO_nt {o : HO} (h : plainO o = true) : ∀ ps, o ≠ .tbl ps := fun ps e => by
  subst e
  cases h
theorem Kp.of {H H' : Hp} (h : Same H H') : Kp H H' := ⟨LamX.ExtN.of h, fun _ e => h.free e, fun _ t => t.ext h, fun b ps e => ⟨ps, h _ _ e⟩⟩
theorem Kp.refl (H : Hp) : Kp H H := .of (Same.refl _)
theorem Kp.trans {H H1 H2 : Hp} (a : Kp H H1) (b : Kp H1 H2) : Kp H H2 := ⟨a.ext.trans b.ext, fun c e => a.new c (b.new c e), fun P t => b.tab P (a.tab P t), fun c ps e => by
  obtain ⟨ps', e'⟩ := a.tbs c ps e
  exact b.tbs c ps' e'⟩
theorem Kp.at {H H' : Hp} (k : Kp H H') {b : Addr} {o : HO} (h : H b = some o) (n : plainO o = true) : H' b = some o := k.ext b o h (plainO_nt n)
structure Wk (F H F' H' : Hp) : Prop where
  ff : Same F F'
  kp : Kp H H'
  fh : Same F' H'
  nw : ∀ q o, F' q = some o → F q = some o ∨ H q = none ∨ ∃ xs, H q = some (.tup xs)
theorem Wk.hh {F H F' H' : Hp} (w : Wk F H F' H') (b : Addr) (o : HO) (h : H b = some o) (n : plainO o = true := by rfl) : H' b = some o := w.kp.at h n
theorem Wk.hfree {F H F' H' : Hp} (w : Wk F H F' H') {b : Addr} (h : H' b = none) : H b = none := w.kp.new b h
theorem Wk.refl {F H : Hp} (h : Same F H) : Wk F H F H := ⟨Same.refl _, Kp.refl _, h, fun _ _ e => .inl e⟩
theorem Wk.trans {F H F1 H1 F2 H2 : Hp} (a : Wk F H F1 H1) (b : Wk F1 H1 F2 H2) : Wk F H F2 H2 :=
  ⟨a.ff.trans b.ff, a.kp.trans b.kp, b.fh, fun q o e => by
    rcases b.nw q o e with h | h | ⟨xs, h⟩
    · exact a.nw q o h
    · exact .inr (.inl (a.hfree h))
    · cases z : H q with
      | none => exact .inr (.inl rfl)
      | some u =>
        refine .inr (.inr ⟨xs, ?_⟩)
        by_cases nt : ∃ ps, u = .tbl ps
        · obtain ⟨ps, rfl⟩ := nt
          obtain ⟨ps', e'⟩ := a.kp.tbs q ps z
          rw [h] at e'
          cases e'
        · have := a.kp.ext q u z fun ps hp => nt ⟨ps, hp⟩
          rw [h] at this
          cases this
          rfl⟩
theorem same_new {H : Hp} {p : Addr} {o : HO} (h : H p = none) : Same H (upd H p o) := fun b x e => by
  rw [upd_ne (ne_of_none e h)]
  exact e
theorem Wk.alloc {F H : Hp} {p : Addr} {o : HO} (h : Same F H) (hp : H p = none) : Wk F H (upd F p o) (upd H p o) :=
  ⟨same_new (h.free hp), .of (same_new hp), fun b x e => by
    by_cases hb : b = p
    · subst hb
      rw [upd_same] at e ⊢
      exact e
    · rw [upd_ne hb] at e ⊢
      exact h _ _ e, fun q x e => by
    by_cases hb : q = p
    · subst hb
      exact .inr (.inl hp)
    · rw [upd_ne hb] at e
      exact .inl e⟩
/-- laid, not yet told -/
theorem Wk.lay {F H : Hp} {p : Addr} {o : HO} (h : Same F H) (hp : H p = none) : Wk F H F (upd H p o) :=
  ⟨Same.refl _, .of (same_new hp), h.trans (same_new hp), fun _ _ e => .inl e⟩
theorem TabS.mut {H : Hp} {P p : Addr} {q : Str} {o o' : HO} (t : LamX.TabS H P q) (hp : H p = some o') (hn : plainO o' = true) : LamX.TabS (upd H p o) P q := by
  obtain ⟨ps, h1, h2, h3⟩ := t
  refine ⟨ps, ?_, h2, fun pos cv hc => ?_⟩
  · rw [upd_ne fun z => ?_]
    · exact h1
    · subst z
      rw [hp] at h1
      cases h1
      cases hn
  · obtain ⟨c, e1, e2⟩ := h3 pos cv hc
    refine ⟨c, e1, ?_⟩
    rw [upd_ne fun z => ?_]
    · exact e2
    · subst z
      rw [hp] at e2
      cases e2
      cases hn
/-- what is not told may change -/
theorem Wk.mut {F0 H0 F H : Hp} {p : Addr} {o o' : HO} (w : Wk F0 H0 F H) (h0 : H0 p = none) (hF : F p = none) (hp : H p = some o') (hn : plainO o' = true := by rfl) : Wk F0 H0 F (upd H p o) :=
  ⟨w.ff, ⟨fun b x e n => by
    rw [upd_ne (ne_of_none e h0)]
    exact w.kp.ext _ _ e n, fun b e => by
    by_cases hb : b = p
    · subst hb
      exact h0
    · rw [upd_ne hb] at e
      exact w.kp.new _ e, fun P t => TabS.mut (w.kp.tab P t) hp hn, fun b ps e => by
    obtain ⟨ps', e'⟩ := w.kp.tbs b ps e
    refine ⟨ps', ?_⟩
    rw [upd_ne fun z => ?_]
    · exact e'
    · rw [z, hp] at e'
      cases e'
      cases hn⟩, fun b x e => by
    rw [upd_ne (ne_of_none e hF)]
    exact w.fh _ _ e, w.nw⟩
/-- it is told as it stands -/
theorem Wk.tell {F0 H0 F H : Hp} {p : Addr} {o : HO} (w : Wk F0 H0 F H) (h0 : H0 p = none) (hF : F p = none) (hH : H p = some o) : Wk F0 H0 (upd F p o) H :=
  ⟨w.ff.trans (same_new hF), w.kp, fun b x e => by
    by_cases hb : b = p
    · subst hb
      rw [upd_same] at e
      cases e
      exact hH
    · rw [upd_ne hb] at e
      exact w.fh _ _ e, fun q x e => by
    by_cases hb : q = p
    · subst hb
      exact .inr (.inl h0)
    · rw [upd_ne hb] at e
      exact w.nw _ _ e⟩
theorem Wk.off {F H F' H' : Hp} {p : Addr} {o : HO} (w : Wk F H F' H') (hF : F p = none) (hH : H p = some o) (hn : ntup o = true := by rfl) : F' p = none := by
  cases e : F' p with
  | none => rfl
  | some u =>
    rcases w.nw p u e with h | h | ⟨xs, h⟩
    · rw [hF] at h; cases h
    · rw [hH] at h; cases h
    · rw [hH] at h
      cases h
      cases hn
theorem plainO_ntup {o : HO} (h : plainO o = true) : ntup o = true := by
  cases o <;> first | rfl | cases h
/-- the table at P is in place, and is not told -/
def TC (P : Addr) (F H : Hp) : Prop := LamX.TabS H P q0 ∧ F P = none
theorem TC.wk {P : Addr} {F H F' H' : Hp} (t : TC P F H) (w : Wk F H F' H') : TC P F' H' := by
  obtain ⟨h1, h2⟩ := t
  refine ⟨w.kp.tab P h1, ?_⟩
  obtain ⟨ps, e, _⟩ := h1
  exact w.off h2 e
theorem TC.tmp {P : Addr} {F H : Hp} {p : Addr} {o : HO} (hF : F p = none) (hH : H p = some o) (t : TC P F H) (hn : plainO o = true := by rfl) : TC P (upd F p o) H := by
  obtain ⟨h1, h2⟩ := t
  refine ⟨h1, ?_⟩
  obtain ⟨ps, e, _⟩ := h1
  rw [upd_ne fun z => ?_]
  · exact h2
  · subst z
    rw [hH] at e
    cases e
    cases hn

/-! ### data and what bears them -/
inductive A2 {α : Type} (R : V → α → Prop) : List V → List α → Prop where
  | nil : A2 R [] []
  | cons {v : V} {d : α} {vs : List V} {ds : List α} : R v d → A2 R vs ds → A2 R (v :: vs) (d :: ds)
section
variable {α : Type} {R R' : V → α → Prop} {xs ys : List V} {ds es : List α}
theorem A2.imp (h : A2 R xs ds) (f : ∀ v d, R v d → R' v d) : A2 R' xs ds := by
  induction h with
  | nil => exact .nil
  | cons r _ ih => exact .cons (f _ _ r) ih
theorem A2.len (h : A2 R xs ds) : xs.length = ds.length := by
  induction h with
  | nil => rfl
  | cons r _ ih => rw [List.length_cons, List.length_cons, ih]
theorem A2.app (h : A2 R xs ds) (k : A2 R ys es) : A2 R (xs ++ ys) (ds ++ es) := by
  induction h with
  | nil => exact k
  | cons r _ ih => exact .cons r ih
theorem A2.one {v : V} {d : α} (h : R v d) : A2 R [v] [d] := .cons h .nil
theorem A2.get (h : A2 R xs ds) : ∀ {i : Nat} {v : V}, xs[i]? = some v → ∃ d, ds[i]? = some d ∧ R v d := by
  induction h with
  | nil => intro i v e; simp at e
  | cons r _ ih =>
    intro i v e
    cases i with
    | zero =>
      have := Option.some.inj e
      subst this
      exact ⟨_, rfl, r⟩
    | succ i => exact ih (i := i) (v := v) e
theorem A2.get' (h : A2 R xs ds) : ∀ {i : Nat} {d : α}, ds[i]? = some d → ∃ v, xs[i]? = some v ∧ R v d := by
  induction h with
  | nil => intro i v e; simp at e
  | cons r _ ih =>
    intro i v e
    cases i with
    | zero =>
      have := Option.some.inj e
      subst this
      exact ⟨_, rfl, r⟩
    | succ i => exact ih (i := i) (d := v) e
theorem A2.take (h : A2 R xs ds) : ∀ n, A2 R (xs.take n) (ds.take n) := by
  induction h with
  | nil => intro n; rw [List.take_nil, List.take_nil]; exact .nil
  | cons r _ ih =>
    intro n
    cases n with
    | zero => exact .nil
    | succ n => exact .cons r (ih n)
theorem A2.drop (h : A2 R xs ds) : ∀ n, A2 R (xs.drop n) (ds.drop n) := by
  induction h with
  | nil => intro n; rw [List.drop_nil, List.drop_nil]; exact .nil
  | cons r t ih =>
    intro n
    cases n with
    | zero => exact .cons r t
    | succ n => exact ih n
theorem A2.rev (h : A2 R xs ds) : A2 R xs.reverse ds.reverse := by
  induction h with
  | nil => exact .nil
  | cons r _ ih => rw [List.reverse_cons, List.reverse_cons]; exact ih.app (.one r)
end

class Rep (α : Type) where
  rep : PySem.W.Frag → Hp → V → α → Prop
  mono : ∀ {K : PySem.W.Frag} {F F' : Hp} {v : V} {d : α}, Same F F' → rep K F v d → rep K F' v d
open Rep (rep)
abbrev reps {α : Type} [Rep α] (K : PySem.W.Frag) (F : Hp) (xs : List V) (ds : List α) : Prop := A2 (rep K F) xs ds
theorem reps_mono {α : Type} [Rep α] {K : PySem.W.Frag} {F F' : Hp} {xs : List V} {ds : List α} (h : Same F F') (r : reps K F xs ds) : reps K F' xs ds := r.imp fun _ _ => Rep.mono h
instance : Rep Int := ⟨fun _ _ v i => v = .int i, fun _ h => h⟩
instance : Rep Bool := ⟨fun _ _ v i => v = .bl i, fun _ h => h⟩
instance : Rep Str := ⟨fun _ _ v i => v = .str i, fun _ h => h⟩
instance : Rep Unit := ⟨fun _ _ v _ => v = .non, fun _ h => h⟩
instance {α : Type} [Rep α] : Rep (Option α) := ⟨fun K F v o => match o with
  | none => v = .non
  | some d => rep K F v d, fun {K F F' v d} h r => by
    cases d with
    | none => exact r
    | some d => exact Rep.mono h r⟩
instance {α : Type} [Rep α] : Rep (List α) := ⟨fun K F v ds => ∃ a xs, v = .ref a ∧ F a = some (.lst xs) ∧ xs.length ≤ sizeLine ∧ reps K F xs ds,
  fun h r => by
    obtain ⟨a, xs, e, f, l, r⟩ := r
    exact ⟨a, xs, e, h _ _ f, l, reps_mono h r⟩⟩
instance {α β : Type} [Rep α] [Rep β] : Rep (α × β) := ⟨fun K F v d => ∃ a x y, v = .ref a ∧ F a = some (.tup [x, y]) ∧ rep K F x d.1 ∧ rep K F y d.2,
  fun h r => by
    obtain ⟨a, x, y, e, f, r1, r2⟩ := r
    exact ⟨a, x, y, e, h _ _ f, Rep.mono h r1, Rep.mono h r2⟩⟩
/-- a tuple of three -/
structure Tri (α β γ : Type) where
  a : α
  b : β
  c : γ
  deriving DecidableEq
instance {α β γ : Type} [Rep α] [Rep β] [Rep γ] : Rep (Tri α β γ) := ⟨fun K F v d => ∃ a x y z, v = .ref a ∧ F a = some (.tup [x, y, z]) ∧ rep K F x d.a ∧ rep K F y d.b ∧ rep K F z d.c,
  fun h r => by
    obtain ⟨a, x, y, z, e, f, r1, r2, r3⟩ := r
    exact ⟨a, x, y, z, e, h _ _ f, Rep.mono h r1, Rep.mono h r2, Rep.mono h r3⟩⟩
/-- the script: it is read alone -/
structure Scr where
  ns : List Int
instance : Rep Scr := ⟨fun K F v d => ∃ a, v = .ref a ∧ SqL K F a (d.ns.map V.int) ∧ d.ns.length ≤ 63, fun h r => by
  obtain ⟨a, e, s, l⟩ := r
  exact ⟨a, e, h.seq s, l⟩⟩
theorem reps_int {K : PySem.W.Frag} {F : Hp} {xs : List V} {ds : List Int} (h : reps K F xs ds) : xs = ds.map V.int := by
  induction h with
  | nil => rfl
  | cons r _ ih => rw [ih, r]; rfl
theorem reps_of_int {K : PySem.W.Frag} {F : Hp} (ds : List Int) : reps K F (ds.map V.int) ds := by
  induction ds with
  | nil => exact .nil
  | cons d ds ih => exact .cons rfl ih
theorem reps_bl {K : PySem.W.Frag} {F : Hp} {xs : List V} {ds : List Bool} (h : reps K F xs ds) : xs = ds.map V.bl := by
  induction h with
  | nil => rfl
  | cons r _ ih => rw [ih, r]; rfl
theorem rep_len {α : Type} [Rep α] {K : PySem.W.Frag} {F : Hp} {v : V} {ds : List α} (h : rep K F v ds) : ds.length ≤ sizeLine := by
  obtain ⟨a, xs, e, f, l, r⟩ := h
  rw [← r.len]
  exact l

/-! ### what evaluates to what -/
def Ev (X : Cx) (σ : L2.St) (F H : Hp) (e : Expr) {α : Type} [Rep α] (d : α) : Prop :=
  ∀ F1 H1, Wk F H F1 H1 → ∀ Q : VK, (∀ v F2 H2, Wk F1 H1 F2 H2 → rep X.K F2 v d → Q v H2) → EW X e σ H1 Q
def EvT (X : Cx) (σ : L2.St) (F H : Hp) (e : Expr) (b : Bool) : Prop :=
  ∀ F1 H1, Wk F H F1 H1 → ∀ Q : Bool → Hp → Prop, (∀ F2 H2, Wk F1 H1 F2 H2 → Q b H2) → TW X e σ H1 Q
def EvW (X : Cx) (σ : L2.St) (F H : Hp) (e : Expr) (b : Bool) : Prop :=
  ∀ F1 H1, Wk F H F1 H1 → ∀ Q : Bool → Hp → Prop, (∀ F2 H2, Wk F1 H1 F2 H2 → Q b H2) → WW X e σ H1 Q
/-- a new list, not yet told -/
def EvN (X : Cx) (σ : L2.St) (F H : Hp) (e : Expr) {α : Type} [Rep α] (ds : List α) : Prop :=
  ∀ F1 H1, Wk F H F1 H1 → ∀ Q : VK, (∀ p xs F2 H2, Wk F1 H1 F2 H2 → reps X.K F2 xs ds → F2 p = none → H1 p = none → H2 p = some (.lst xs) → xs.length ≤ sizeLine → Q (.ref p) H2) → EW X e σ H1 Q
/-- arguments, by what is true of them -/
def EvA (X : Cx) (σ : L2.St) (F H : Hp) (es : List Expr) (P : Hp → List V → Prop) : Prop :=
  ∀ F1 H1, Wk F H F1 H1 → ∀ Q : List V → Hp → Prop, (∀ vs F2 H2, Wk F1 H1 F2 H2 → P F2 vs → Q vs H2) → AW X es σ H1 Q

theorem beq_dec {α : Type} [DecidableEq α] (x y : α) : (x == y) = decide (x = y) := by
  by_cases h : x = y
  · subst h
    simp
  · rw [decide_eq_false h]
    simpa using h
section
variable {X : Cx} {σ : L2.St} {F H F' H' : Hp} {a b e : Expr} {pos : Pos} {α β γ δ : Type} [Rep α] [Rep β] [Rep γ] [Rep δ]
theorem Ev.at {d : α} (h : Ev X σ F H e d) (w : Wk F H F' H') : Ev X σ F' H' e d := fun F1 H1 w1 Q q => h F1 H1 (w.trans w1) Q q
theorem EvT.at {d : Bool} (h : EvT X σ F H e d) (w : Wk F H F' H') : EvT X σ F' H' e d := fun F1 H1 w1 Q q => h F1 H1 (w.trans w1) Q q
theorem EvN.ev {ds : List α} (h : EvN X σ F H e ds) : Ev X σ F H e ds := fun F1 H1 w Q q =>
  h F1 H1 w Q fun p xs F2 H2 w2 r hF hH h2 hl => q (.ref p) (upd F2 p (.lst xs)) H2 (w2.tell hH hF h2) ⟨p, xs, rfl, upd_same, hl, reps_mono (same_new hF) r⟩
theorem Ev.eq {d d' : α} (h : Ev X σ F H e d) (q : d = d') : Ev X σ F H e d' := q ▸ h
theorem EvT.eq {d d' : Bool} (h : EvT X σ F H e d) (q : d = d') : EvT X σ F H e d' := q ▸ h
theorem EvN.eq {d d' : List α} (h : EvN X σ F H e d) (q : d = d') : EvN X σ F H e d' := q ▸ h
/-- seen as a thing or None -/
theorem Ev.some {d : α} (h : Ev X σ F H e d) : Ev X σ F H e (some d) := fun F1 H1 w Q q => h F1 H1 w Q fun v F2 H2 w2 r => q v F2 H2 w2 r

theorem ev_var {d : α} {v : V} (i : Nat) {x : Str} (hs : σ[i]? = some (some v)) (r : rep X.K F v d) (hN : X.N[i]? = some x := by rfl) (hv : Vis X.env.scope x := by first | exact Or.inl rfl | exact Or.inr (Or.inl rfl) | exact Or.inr (Or.inr rfl)) (hd : (x == ("__debug__" : Str)) = false := by decide)
    (hcd : (x == ("__classdict__" : Str)) = false := by decide) : Ev X σ F H (.Name x pos) d := fun F1 H1 w Q q => ⟨_, pe_var hN hv hd hcd, v, hs, q v F1 H1 (.refl w.fh) (Rep.mono w.ff r)⟩
theorem ev_int {i : Int} {j} : Ev X σ F H (.Constant (.int i) j pos) i := fun F1 H1 w Q q => ⟨_, pe_int, q _ F1 H1 (.refl w.fh) rfl⟩
theorem ev_bl {i : Bool} {j} : Ev X σ F H (.Constant (.bool i) j pos) i := fun F1 H1 w Q q => ⟨_, pe_bl, q _ F1 H1 (.refl w.fh) rfl⟩
theorem ev_str {i : Str} {j} : Ev X σ F H (.Constant (.str i) j pos) i := fun F1 H1 w Q q => ⟨_, pe_str, q _ F1 H1 (.refl w.fh) rfl⟩
theorem ev_non {j} : Ev X σ F H (.Constant .none j pos) (none : Option α) := fun F1 H1 w Q q => ⟨_, pe_non, q _ F1 H1 (.refl w.fh) rfl⟩

/-- an operator, by its rule on what bears the data -/
def RR (X : Cx) (r : R2) (x : α) (y : β) (z : γ) : Prop := ∀ vx vy F1 H1, Same F1 H1 → rep X.K F1 vx x → rep X.K F1 vy y → ∀ Q : VK, (∀ v F2 H2, Wk F1 H1 F2 H2 → rep X.K F2 v z → Q v H2) → r vx vy H1 Q
theorem ev_bin {op : Operator} {r : R2} {x : α} {y : β} {z : γ} (ho : OpR X (binaryOp op) r) (hr : RR X r x y z) (ha : Ev X σ F H a x) (hb : Ev X σ F H b y) : Ev X σ F H (.BinOp a op b pos) z := fun F1 H1 w Q q =>
  ⟨_, pe_op ho ew_pe ew_pe, ha F1 H1 w _ fun vx F2 H2 w2 rx => hb F2 H2 (w.trans w2) _ fun vy F3 H3 w3 ry => hr vx vy F3 H3 w3.fh (Rep.mono w3.ff rx) ry Q fun v F4 H4 w4 rz => q v F4 H4 ((w2.trans w3).trans w4) rz⟩
theorem ev_cmp {op : CmpOp} {r : R2} {x : α} {y : β} {z : Bool} (ho : OpR X (compareOp op) r) (hr : RR X r x y z) (ha : Ev X σ F H a x) (hb : Ev X σ F H b y) (hm : behindInMarks op b = false := by first | exact nomark _ | rfl) : Ev X σ F H (.Compare a [op] [b] pos) z := fun F1 H1 w Q q =>
  ⟨_, pe_cmpR ho ew_pe ew_pe hm, ha F1 H1 w _ fun vx F2 H2 w2 rx => hb F2 H2 (w.trans w2) _ fun vy F3 H3 w3 ry => hr vx vy F3 H3 w3.fh (Rep.mono w3.ff rx) ry Q fun v F4 H4 w4 rz => q v F4 H4 ((w2.trans w3).trans w4) rz⟩
theorem et_cmp {op : CmpOp} {r : R2} {x : α} {y : β} {z : Bool} (ho : OpR X (compareOp op) r) (hr : RR X r x y z) (ha : Ev X σ F H a x) (hb : Ev X σ F H b y) (hm : behindInMarks op b = false := by first | exact nomark _ | rfl) : EvT X σ F H (.Compare a [op] [b] pos) z := fun F1 H1 w Q q =>
  ⟨_, pt_cmpR ho ew_pe ew_pe hm, ha F1 H1 w _ fun vx F2 H2 w2 rx => hb F2 H2 (w.trans w2) _ fun vy F3 H3 w3 ry => hr vx vy F3 H3 w3.fh (Rep.mono w3.ff rx) ry _ fun v F4 H4 w4 rz => ⟨z, rz, q F4 H4 ((w2.trans w3).trans w4)⟩⟩
theorem ev_ix {r : R2} {x : α} {y : β} {z : γ} (ho : IxR X r) (hr : RR X r x y z) (ha : Ev X σ F H a x) (hb : Ev X σ F H b y) (hs : PlainIx b := by exact fun _ _ => rfl) : Ev X σ F H (.Subscript a b pos) z := fun F1 H1 w Q q =>
  ⟨_, pe_ix ho ew_pe ew_pe hs, ha F1 H1 w _ fun vx F2 H2 w2 rx => hb F2 H2 (w.trans w2) _ fun vy F3 H3 w3 ry => hr vx vy F3 H3 w3.fh (Rep.mono w3.ff rx) ry Q fun v F4 H4 w4 rz => q v F4 H4 ((w2.trans w3).trans w4) rz⟩
theorem ev_neg {x : Int} (ha : Ev X σ F H a x) : Ev X σ F H (.UnaryOp .USub a pos) (-x) := fun F1 H1 w Q q =>
  ⟨_, pe_un un_neg ew_pe, ha F1 H1 w _ fun vx F2 H2 w2 rx => ⟨x, rx, q _ F2 H2 w2 rfl⟩⟩
theorem rr_I0 {g : Int → Int → V} {x y : Int} {z : γ} (h : ∀ F, rep X.K F (g x y) z) : RR X (rI0 g) x y z := fun vx vy F1 H1 s rx ry Q q => ⟨x, y, rx, ry, q _ F1 H1 (.refl s) (h F1)⟩
theorem rr_I {C : Int → Int → Prop} {g : Int → Int → V} {x y : Int} {z : γ} (hc : C x y) (h : ∀ F, rep X.K F (g x y) z) : RR X (rI C g) x y z := fun vx vy F1 H1 s rx ry Q q => ⟨x, y, rx, ry, hc, q _ F1 H1 (.refl s) (h F1)⟩
theorem ev_add {x y : Int} (ha : Ev X σ F H a x) (hb : Ev X σ F H b y) : Ev X σ F H (.BinOp a .Add b pos) (x + y) := ev_bin op_add (rr_I0 fun _ => rfl) ha hb
theorem ev_sub {x y : Int} (ha : Ev X σ F H a x) (hb : Ev X σ F H b y) : Ev X σ F H (.BinOp a .Sub b pos) (x - y) := ev_bin op_sub (rr_I0 fun _ => rfl) ha hb
theorem ev_mul {x y : Int} (ha : Ev X σ F H a x) (hb : Ev X σ F H b y) (hc : CMul x y) : Ev X σ F H (.BinOp a .Mult b pos) (x * y) := ev_bin op_mul (rr_I hc fun _ => rfl) ha hb
theorem ev_mod {x y : Int} (ha : Ev X σ F H a x) (hb : Ev X σ F H b y) (hc : 0 < y) : Ev X σ F H (.BinOp a .Mod b pos) (x % y) := ev_bin op_mod (rr_I hc fun _ => rfl) ha hb
theorem ev_div {x y : Int} (ha : Ev X σ F H a x) (hb : Ev X σ F H b y) (hc : CDiv x y) : Ev X σ F H (.BinOp a .FloorDiv b pos) (x / y) := ev_bin op_fdiv (rr_I hc fun _ => rfl) ha hb
theorem ev_pow {x y : Int} (ha : Ev X σ F H a x) (hb : Ev X σ F H b y) (hc : CPow x y) : Ev X σ F H (.BinOp a .Pow b pos) (x ^ y.toNat) := ev_bin op_pow (rr_I hc fun _ => rfl) ha hb
theorem ev_xor {x y : Int} (ha : Ev X σ F H a x) (hb : Ev X σ F H b y) : Ev X σ F H (.BinOp a .BitXor b pos) (Builtin.bitXor x y) := ev_bin op_xor (rr_I0 fun _ => rfl) ha hb
theorem rr_eqI {x y : Int} : RR X rEq x y (decide (x = y)) := fun vx vy F1 H1 s rx ry Q q => by
  obtain rfl : vx = .int x := rx
  obtain rfl : vy = .int y := ry
  refine ⟨rfl, q _ F1 H1 (.refl s) ?_⟩
  show V.bl _ = V.bl _
  rw [dec_int, beq_dec]
theorem rr_neI {x y : Int} : RR X rNe x y (!decide (x = y)) := fun vx vy F1 H1 s rx ry Q q => by
  obtain rfl : vx = .int x := rx
  obtain rfl : vy = .int y := ry
  refine ⟨rfl, q _ F1 H1 (.refl s) ?_⟩
  show V.bl _ = V.bl _
  rw [dec_int, beq_dec]
theorem rr_ltI {x y : Int} : RR X (rI0 fun i j => .bl (decide (i < j))) x y (decide (x < y)) := rr_I0 fun _ => rfl
theorem rr_leI {x y : Int} : RR X (rI0 fun i j => .bl (decide (i ≤ j))) x y (decide (x ≤ y)) := rr_I0 fun _ => rfl
theorem rr_gtI {x y : Int} : RR X (rI0 fun i j => .bl (decide (j < i))) x y (decide (y < x)) := rr_I0 fun _ => rfl
theorem rr_geI {x y : Int} : RR X (rI0 fun i j => .bl (decide (j ≤ i))) x y (decide (y ≤ x)) := rr_I0 fun _ => rfl
theorem rr_eqB {x y : Bool} : RR X rEq x y (decide (x = y)) := fun vx vy F1 H1 s rx ry Q q => by
  obtain rfl : vx = .bl x := rx
  obtain rfl : vy = .bl y := ry
  refine ⟨rfl, q _ F1 H1 (.refl s) ?_⟩
  show V.bl _ = V.bl _
  rw [dec_bl, beq_dec]
theorem rr_eqS {x y : Str} : RR X rEq x y (decide (x = y)) := fun vx vy F1 H1 s rx ry Q q => by
  obtain rfl : vx = .str x := rx
  obtain rfl : vy = .str y := ry
  refine ⟨rfl, q _ F1 H1 (.refl s) ?_⟩
  show V.bl _ = V.bl _
  by_cases h : x = y
  · subst h
    simp
  · rw [decide_eq_false h, decide_eq_false (fun z => h (V.str.inj z))]
theorem rr_neS {x y : Str} : RR X rNe x y (!decide (x = y)) := fun vx vy F1 H1 s rx ry Q q => by
  obtain rfl : vx = .str x := rx
  obtain rfl : vy = .str y := ry
  refine ⟨rfl, q _ F1 H1 (.refl s) ?_⟩
  show V.bl _ = V.bl _
  by_cases h : x = y
  · subst h
    simp
  · rw [decide_eq_false h, decide_eq_false (fun z => h (V.str.inj z))]

/-! tests -/
theorem et_val {x : Bool} (h : Ev X σ F H e x) (he : ∀ whole, isTrue e X.env whole = (do let v ← whole; standAt e.pos; holding [v] (truthy v)) := by intro _; rfl) : EvT X σ F H e x := fun F1 H1 w Q q =>
  ⟨_, pt_val ew_pe he, h F1 H1 w _ fun v F2 H2 w2 r => ⟨x, r, q F2 H2 w2⟩⟩
theorem et_w {x : Bool} (h : EvW X σ F H e x) : EvT X σ F H e x := fun F1 H1 w Q q => ⟨_, ww_pw.pt, h F1 H1 w Q q⟩
theorem et_not {x : Bool} (h : EvT X σ F H a x) : EvT X σ F H (.UnaryOp .Not a pos) (!x) := fun F1 H1 w Q q => ⟨_, pt_not tw_pt, h F1 H1 w _ q⟩
theorem ew_and1 {x : Bool} (h : EvT X σ F H a x) : EvW X σ F H (.BoolOp .And [a] pos) x := fun F1 H1 w Q q => ⟨_, pw_and1 tw_pt, h F1 H1 w _ q⟩
theorem ew_or1 {x : Bool} (h : EvT X σ F H a x) : EvW X σ F H (.BoolOp .Or [a] pos) x := fun F1 H1 w Q q => ⟨_, pw_or1 tw_pt, h F1 H1 w _ q⟩
theorem ew_and {x y : Bool} {rest : List Expr} (h : EvT X σ F H a x) (k : x = true → EvW X σ F H (.BoolOp .And (b :: rest) pos) y) : EvW X σ F H (.BoolOp .And (a :: b :: rest) pos) (x && y) := fun F1 H1 w Q q =>
  ⟨_, pw_and tw_pt ww_pw, h F1 H1 w _ fun F2 H2 w2 => by
    cases x with
    | true => exact iteT (k rfl F2 H2 (w.trans w2) Q fun F3 H3 w3 => q F3 H3 (w2.trans w3))
    | false => exact iteF (q F2 H2 w2)⟩
theorem ew_or {x y : Bool} {rest : List Expr} (h : EvT X σ F H a x) (k : x = false → EvW X σ F H (.BoolOp .Or (b :: rest) pos) y) : EvW X σ F H (.BoolOp .Or (a :: b :: rest) pos) (x || y) := fun F1 H1 w Q q =>
  ⟨_, pw_or tw_pt ww_pw, h F1 H1 w _ fun F2 H2 w2 => by
    cases x with
    | true => exact iteT (q F2 H2 w2)
    | false => exact iteF (k rfl F2 H2 (w.trans w2) Q fun F3 H3 w3 => q F3 H3 (w2.trans w3))⟩
theorem ev_one {x : Bool} {op} (h : Ev X σ F H a x) : Ev X σ F H (.BoolOp op [a] pos) x := fun F1 H1 w Q q => ⟨_, pe_one ew_pe, h F1 H1 w _ q⟩
theorem ev_and {x y : Bool} {rest : List Expr} (h : Ev X σ F H a x) (k : x = true → Ev X σ F H (.BoolOp .And (b :: rest) pos) y) : Ev X σ F H (.BoolOp .And (a :: b :: rest) pos) (x && y) := fun F1 H1 w Q q =>
  ⟨_, pe_and ew_pe ew_pe, h F1 H1 w _ fun v F2 H2 w2 r => ⟨x, r, by
    cases x with
    | true => exact iteT (k rfl F2 H2 (w.trans w2) Q fun v F3 H3 w3 r => q v F3 H3 (w2.trans w3) r)
    | false => exact iteF (q _ F2 H2 w2 rfl)⟩⟩
theorem ev_or {x y : Bool} {rest : List Expr} (h : Ev X σ F H a x) (k : x = false → Ev X σ F H (.BoolOp .Or (b :: rest) pos) y) : Ev X σ F H (.BoolOp .Or (a :: b :: rest) pos) (x || y) := fun F1 H1 w Q q =>
  ⟨_, pe_or ew_pe ew_pe, h F1 H1 w _ fun v F2 H2 w2 r => ⟨x, r, by
    cases x with
    | true => exact iteT (q _ F2 H2 w2 rfl)
    | false => exact iteF (k rfl F2 H2 (w.trans w2) Q fun v F3 H3 w3 r => q v F3 H3 (w2.trans w3) r)⟩⟩
theorem ev_not {x : Bool} (h : Ev X σ F H a x) : Ev X σ F H (.UnaryOp .Not a pos) (!x) := fun F1 H1 w Q q => ⟨_, pe_not ew_pe, h F1 H1 w _ fun v F2 H2 w2 r => ⟨x, r, q _ F2 H2 w2 rfl⟩⟩
theorem et_chain {op op' : CmpOp} {r r' : R2} {c : Expr} {x : α} {y : β} {z : γ} {u t : Bool} (ho : OpR X (compareOp op) r) (ho' : OpR X (compareOp op') r') (hr : RR X r x y u) (hr' : RR X r' y z t) (ha : Ev X σ F H a x) (hb : Ev X σ F H b y) (hc : Ev X σ F H c z)
    (hm : lastMarks [op, op'] [b, c] = false := by with_unfolding_all rfl) : EvT X σ F H (.Compare a [op, op'] [b, c] pos) (u && t) := fun F1 H1 w Q q => by
  refine ⟨_, pt_chain ho ho' ew_pe ew_pe ew_pe hm, ?_⟩
  show EW X a σ H1 _
  refine ha F1 H1 w _ fun vx F2 H2 w2 rx => hb F2 H2 (w.trans w2) _ fun vy F3 H3 w3 ry => hr vx vy F3 H3 w3.fh (Rep.mono w3.ff rx) ry _ fun v F4 H4 w4 rz => ⟨u, rz, ?_⟩
  cases u with
  | true =>
    refine iteT (hc F4 H4 ((w.trans w2).trans (w3.trans w4)) _ fun vz F5 H5 w5 rz' => hr' vy vz F5 H5 w5.fh (Rep.mono (w4.ff.trans w5.ff) ry) rz' _ fun v2 F6 H6 w6 r6 => ⟨t, r6, ?_⟩)
    exact q F6 H6 ((w2.trans w3).trans ((w4.trans w5).trans w6))
  | false => exact iteF ⟨false, rfl, q F4 H4 ((w2.trans w3).trans w4)⟩
end
end MP
namespace MP
class Rep0
open PySem PySem.Spec PyProof.Rows L2 Rep
section
variable {X : Cx} {σ : L2.St} {F H F' H' : Hp} {a b c e : Expr} {pos p : Pos} {α β γ δ : Type} [Rep α] [Rep β] [Rep γ] [Rep δ]

/-! ### arguments -/
theorem Ev.at' {d : α} (h : Ev X σ F H e d) (w : Wk F H F' H') : Ev X σ F' H' e d := h.at w
theorem ea1 {x : α} (ha : Ev X σ F H a x) (hs : starEach [a] X.env = (false, eval a X.env) :: starEach [] X.env := by rfl) : EvA X σ F H [a] (fun F vs => ∃ v, vs = [v] ∧ rep X.K F v x) := fun F1 H1 w Q q =>
  ⟨_, pa_cons ew_pe pa_nil hs, ha F1 H1 w _ fun v F2 H2 w2 r => q [v] F2 H2 w2 ⟨v, rfl, r⟩⟩
theorem ea2 {x : α} {y : β} (ha : Ev X σ F H a x) (hb : Ev X σ F H b y) (hs : starEach [a, b] X.env = (false, eval a X.env) :: starEach [b] X.env := by rfl) (hs2 : starEach [b] X.env = (false, eval b X.env) :: starEach [] X.env := by rfl) :
    EvA X σ F H [a, b] (fun F vs => ∃ v u, vs = [v, u] ∧ rep X.K F v x ∧ rep X.K F u y) := fun F1 H1 w Q q =>
  ⟨_, pa_cons ew_pe (pa_cons ew_pe pa_nil hs2) hs, ha F1 H1 w _ fun v F2 H2 w2 r => hb F2 H2 (w.trans w2) _ fun u F3 H3 w3 r3 => q [v, u] F3 H3 (w2.trans w3) ⟨v, u, rfl, Rep.mono w3.ff r, r3⟩⟩
/-- one more ahead -/
theorem ea_cons {x : α} {es : List Expr} {P : Hp → List V → Prop} (ha : Ev X σ F H a x) (hb : EvA X σ F H es P) (hs : starEach (a :: es) X.env = (false, eval a X.env) :: starEach es X.env := by rfl) :
    EvA X σ F H (a :: es) (fun F vs => ∃ v us, vs = v :: us ∧ rep X.K F v x ∧ P F us) := fun F1 H1 w Q q =>
  ⟨_, pa_cons ew_pe aw_pa hs, ha F1 H1 w _ fun v F2 H2 w2 r => hb F2 H2 (w.trans w2) _ fun us F3 H3 w3 r3 => q (v :: us) F3 H3 (w2.trans w3) ⟨v, us, rfl, Rep.mono w3.ff r, r3⟩⟩
theorem ea_nil : EvA X σ F H [] (fun _ vs => vs = []) := fun F1 H1 w Q q => ⟨_, pa_nil, q [] F1 H1 (.refl w.fh) rfl⟩
theorem el_nil : EvA X σ F H [] (fun F vs => reps X.K F vs ([] : List α)) := fun F1 H1 w Q q => ⟨_, pa_nil, q [] F1 H1 (.refl w.fh) .nil⟩
theorem el_cons {x : α} {xs : List α} {es : List Expr} (ha : Ev X σ F H a x) (hb : EvA X σ F H es (fun F vs => reps X.K F vs xs)) (hs : starEach (a :: es) X.env = (false, eval a X.env) :: starEach es X.env := by rfl) :
    EvA X σ F H (a :: es) (fun F vs => reps X.K F vs (x :: xs)) := fun F1 H1 w Q q =>
  ⟨_, pa_cons ew_pe aw_pa hs, ha F1 H1 w _ fun v F2 H2 w2 r => hb F2 H2 (w.trans w2) _ fun us F3 H3 w3 r3 => q (v :: us) F3 H3 (w2.trans w3) (.cons (Rep.mono w3.ff r) r3)⟩

/-! ### lists and tuples made -/
theorem evn_lst {es : List Expr} {xs : List α} (h : EvA X σ F H es (fun F vs => reps X.K F vs xs)) (hz : xs.length ≤ sizeLine) : EvN X σ F H (.List es pos) xs := fun F1 H1 w Q q =>
  ⟨_, pe_lst aw_pa, h F1 H1 w _ fun vs F2 H2 w2 r => ⟨by rw [r.len]; exact hz, fun p hp => q p vs F2 _ (w2.trans (.lay w2.fh hp)) r (w2.fh.free hp) (w2.hfree hp) upd_same (by rw [r.len]; exact hz)⟩⟩
theorem evn_nil : EvN X σ F H (.List [] pos) ([] : List α) := evn_lst el_nil (Nat.zero_le _)
theorem ev_pair {k} {x : α} {y : β} (h : EvA X σ F H [a, b] (fun F vs => ∃ v u, vs = [v, u] ∧ rep X.K F v x ∧ rep X.K F u y)) : Ev X σ F H (.Tuple [a, b] k pos) (x, y) := fun F1 H1 w Q q =>
  ⟨_, pe_tup aw_pa, h F1 H1 w _ fun vs F2 H2 w2 ⟨v, u, e, r1, r2⟩ => ⟨by rw [e]; exact (by decide : 2 ≤ sizeLine), fun p hp => q _ (upd F2 p (.tup vs)) _ (w2.trans (.alloc w2.fh hp))
    ⟨p, v, u, rfl, by rw [upd_same, e], Rep.mono (same_new (w2.fh.free hp)) r1, Rep.mono (same_new (w2.fh.free hp)) r2⟩⟩⟩
theorem ev_tri {k} {x : α} {y : β} {z : γ} (ha : Ev X σ F H a x) (hb : Ev X σ F H b y) (hc : Ev X σ F H c z) (hs : starEach [a, b, c] X.env = (false, eval a X.env) :: starEach [b, c] X.env := by rfl) (hs1 : starEach [b, c] X.env = (false, eval b X.env) :: starEach [c] X.env := by rfl) (hs2 : starEach [c] X.env = (false, eval c X.env) :: starEach [] X.env := by rfl) :
    Ev X σ F H (.Tuple [a, b, c] k pos) (Tri.mk x y z) := fun F1 H1 w Q q =>
  ⟨_, pe_tup (pa_cons ew_pe (pa_cons ew_pe (pa_cons ew_pe pa_nil hs2) hs1) hs), ha F1 H1 w _ fun va F2 H2 w2 r1 => hb F2 H2 (w.trans w2) _ fun vb F3 H3 w3 r2 => hc F3 H3 ((w.trans w2).trans w3) _ fun vc F4 H4 w4 r3 =>
    ⟨(by decide : 3 ≤ sizeLine), fun p hp => q _ (upd F4 p (.tup [va, vb, vc])) _ (((w2.trans w3).trans w4).trans (.alloc w4.fh hp))
    ⟨p, va, vb, vc, rfl, upd_same, Rep.mono ((w3.ff.trans w4.ff).trans (same_new (w4.fh.free hp))) r1, Rep.mono (w4.ff.trans (same_new (w4.fh.free hp))) r2, Rep.mono (same_new (w4.fh.free hp)) r3⟩⟩⟩
theorem evn_cat {xs ys : List α} (ha : Ev X σ F H a xs) (hb : Ev X σ F H b ys) (hz : xs.length + ys.length ≤ sizeLine) : EvN X σ F H (.BinOp a .Add b pos) (xs ++ ys) := fun F1 H1 w Q q =>
  ⟨_, pe_op op_cat ew_pe ew_pe, ha F1 H1 w _ fun vx F2 H2 w2 rx => hb F2 H2 (w.trans w2) _ fun vy F3 H3 w3 ry => by
    obtain ⟨l, vs, rfl, h1, l1, r1⟩ := Rep.mono w3.ff rx
    obtain ⟨m, us, rfl, h2, l2, r2⟩ := ry
    refine ⟨l, m, vs, us, rfl, rfl, w3.fh _ _ h1, w3.fh _ _ h2, by rw [r1.len, r2.len]; exact hz, fun p hp => ?_⟩
    have w4 := w2.trans w3
    exact q p _ F3 _ (w4.trans (.lay w4.fh hp)) (r1.app r2) (w4.fh.free hp) (w4.hfree hp) upd_same (by rw [List.length_append, r1.len, r2.len]; exact hz)⟩
def gi {α : Type} [Inhabited α] (xs : List α) (i : Int) : α := (atI xs i).getD default
theorem at_reps {K : PySem.W.Frag} [Inhabited α] {vs : List V} {xs : List α} {i : Int} (r : reps K F vs xs) (hi : -(xs.length : Int) ≤ i ∧ i < xs.length) : ∃ v, atI vs i = some v ∧ rep K F v (gi xs i) := by
  have hl := r.len
  have hv : ∃ j, ixN xs.length i = some j ∧ j < xs.length := by
    unfold ixN
    by_cases h0 : 0 ≤ i
    · rw [if_pos h0, if_pos hi.2]
      exact ⟨_, rfl, by omega⟩
    · rw [if_neg h0, if_pos hi.1]
      exact ⟨_, rfl, by omega⟩
  obtain ⟨j, hj, hlt⟩ := hv
  obtain ⟨v, hv, rv⟩ := r.get' (List.getElem?_eq_getElem hlt)
  refine ⟨v, ?_, ?_⟩
  · unfold atI
    rw [hl, hj]
    exact hv
  · unfold gi atI
    rw [hj]
    show rep K F v ((xs[j]?).getD default)
    rw [List.getElem?_eq_getElem hlt]
    exact rv
theorem ev_ixL [Inhabited α] {xs : List α} {i : Int} (ha : Ev X σ F H a xs) (hb : Ev X σ F H b i) (hi : -(xs.length : Int) ≤ i ∧ i < xs.length) (hs : PlainIx b := by exact fun _ _ => rfl) : Ev X σ F H (.Subscript a b pos) (gi xs i) :=
  ev_ix ix_list (fun vx vy F1 H1 s rx ry Q q => by
    obtain ⟨l, vs, rfl, h1, l1, r1⟩ := rx
    obtain ⟨v, hv, rv⟩ := at_reps r1 hi
    exact ⟨l, vs, i, v, rfl, ry, SqL.of (s _ _ h1), hv, q v F1 H1 (.refl s) rv⟩) ha hb hs
theorem ev_ixS {xs : Scr} {i : Int} (ha : Ev X σ F H a xs) (hb : Ev X σ F H b i) (hi : -(xs.ns.length : Int) ≤ i ∧ i < xs.ns.length) (hs : PlainIx b := by exact fun _ _ => rfl) : Ev X σ F H (.Subscript a b pos) (gi xs.ns i) :=
  ev_ix ix_list (fun vx vy F1 H1 s rx ry Q q => by
    obtain ⟨l, rfl, h1, l1⟩ := rx
    obtain ⟨v, hv, rv⟩ := at_reps (K := X.K) (F := F1) (reps_of_int xs.ns) hi
    exact ⟨l, _, i, v, rfl, ry, s.seq h1, hv, q v F1 H1 (.refl s) rv⟩) ha hb hs
theorem ev_fst {j pp} {x : α × β} (ha : Ev X σ F H a x) : Ev X σ F H (.Subscript a (.Constant (.int 0) j pp) pos) x.1 :=
  ev_ix (y := (0 : Int)) ix_tup (fun vx vy F1 H1 s rx ry Q q => by
    obtain ⟨l, v, u, rfl, h1, r1, r2⟩ := rx
    exact ⟨l, _, 0, v, rfl, ry, SqT.of (s _ _ h1), rfl, q v F1 H1 (.refl s) r1⟩) ha ev_int
theorem ev_snd {j pp} {x : α × β} (ha : Ev X σ F H a x) : Ev X σ F H (.Subscript a (.Constant (.int 1) j pp) pos) x.2 :=
  ev_ix (y := (1 : Int)) ix_tup (fun vx vy F1 H1 s rx ry Q q => by
    obtain ⟨l, v, u, rfl, h1, r1, r2⟩ := rx
    exact ⟨l, _, 1, u, rfl, ry, SqT.of (s _ _ h1), rfl, q u F1 H1 (.refl s) r2⟩) ha ev_int
theorem ev_t0 {j pp} {x : Tri α β γ} (ha : Ev X σ F H a x) : Ev X σ F H (.Subscript a (.Constant (.int 0) j pp) pos) x.a :=
  ev_ix (y := (0 : Int)) ix_tup (fun vx vy F1 H1 s rx ry Q q => by
    obtain ⟨l, v, u, z, rfl, h1, r1, r2, r3⟩ := rx
    exact ⟨l, _, 0, v, rfl, ry, SqT.of (s _ _ h1), rfl, q v F1 H1 (.refl s) r1⟩) ha ev_int
theorem ev_t1 {j pp} {x : Tri α β γ} (ha : Ev X σ F H a x) : Ev X σ F H (.Subscript a (.Constant (.int 1) j pp) pos) x.b :=
  ev_ix (y := (1 : Int)) ix_tup (fun vx vy F1 H1 s rx ry Q q => by
    obtain ⟨l, v, u, z, rfl, h1, r1, r2, r3⟩ := rx
    exact ⟨l, _, 1, u, rfl, ry, SqT.of (s _ _ h1), rfl, q u F1 H1 (.refl s) r2⟩) ha ev_int
theorem ev_t2 {j pp} {x : Tri α β γ} (ha : Ev X σ F H a x) : Ev X σ F H (.Subscript a (.Constant (.int 2) j pp) pos) x.c :=
  ev_ix (y := (2 : Int)) ix_tup (fun vx vy F1 H1 s rx ry Q q => by
    obtain ⟨l, v, u, z, rfl, h1, r1, r2, r3⟩ := rx
    exact ⟨l, _, 2, z, rfl, ry, SqT.of (s _ _ h1), rfl, q z F1 H1 (.refl s) r3⟩) ha ev_int
/-! ### slices -/
def EvO (X : Cx) (σ : L2.St) (F H : Hp) (e : Option Expr) (o : Option Int) : Prop := ∃ t, PO X e t ∧ ∀ F1 H1, Wk F H F1 H1 → ∀ Q : Option Int → Hp → Prop, (∀ F2 H2, Wk F1 H1 F2 H2 → Q o H2) → t σ H1 Q
theorem eo_none : EvO X σ F H none none := ⟨_, po_none, fun F1 H1 w Q q => q F1 H1 (.refl w.fh)⟩
theorem eo_some {i : Int} (h : Ev X σ F H e i) : EvO X σ F H (some e) (some i) := ⟨_, po_some ew_pe, fun F1 H1 w Q q => h F1 H1 w _ fun v F2 H2 w2 r => ⟨i, r, q F2 H2 w2⟩⟩
def cut {α : Type} (xs : List α) (lo hi : Option Int) : List α := (xs.drop (HT.sIx xs.length 0 lo)).take (HT.sIx xs.length xs.length hi - HT.sIx xs.length 0 lo)
theorem evn_slice {lo hi : Option Expr} {l u : Option Int} {xs : List α} {p2} (ha : Ev X σ F H a xs) (hl : EvO X σ F H lo l) (hu : EvO X σ F H hi u) : EvN X σ F H (.Subscript a (.Slice lo hi none p2) pos) (cut xs l u) := by
  obtain ⟨tl, pl, hl⟩ := hl
  obtain ⟨tu, pu, hu⟩ := hu
  refine fun F1 H1 w Q q => ⟨_, pe_slice sl_list ew_pe pl pu, ha F1 H1 w _ fun vx F2 H2 w2 rx => hl F2 H2 (w.trans w2) _ fun F3 H3 w3 => hu F3 H3 ((w.trans w2).trans w3) _ fun F4 H4 w4 => ?_⟩
  obtain ⟨m, vs, rfl, h1, l1, r1⟩ := Rep.mono (w3.ff.trans w4.ff) rx
  refine ⟨m, vs, rfl, SqL.of (w4.fh _ _ h1), fun p hp => ?_⟩
  have w5 := (w2.trans w3).trans w4
  refine q p _ F4 _ (w5.trans (.lay w5.fh hp)) ?_ (w5.fh.free hp) (w5.hfree hp) upd_same (Nat.le_trans (cutV_length _ _ _) l1)
  unfold cutV cut
  rw [r1.len]
  exact (r1.drop _).take _
theorem evn_rev {xs : List α} {k p1 p2 p3} (ha : Ev X σ F H a xs) : EvN X σ F H (.Subscript a (.Slice none none (some (.UnaryOp .USub (.Constant (.int 1) k p1) p2)) p3) pos) xs.reverse := fun F1 H1 w Q q =>
  ⟨_, pe_revL ew_pe, ha F1 H1 w _ fun vx F2 H2 w2 rx => by
    obtain ⟨m, vs, rfl, h1, l1, r1⟩ := rx
    refine ⟨m, vs, rfl, SqL.of (w2.fh _ _ h1), fun p hp => ?_⟩
    exact q p _ F2 _ (w2.trans (.lay w2.fh hp)) r1.rev (w2.fh.free hp) (w2.hfree hp) upd_same (by rw [List.length_reverse]; exact l1)⟩
/-! ### built-ins -/
theorem ev_callB {id : String} {x : Str} {r : List V → Hp → VK → Prop} {es : List Expr} {P : Hp → List V → Prop} {z : γ} (hc : CallR X (.builtin id) r) (hm : X.mg x = none) (hv : bootBuiltins x = some (.builtin id)) (ha : EvA X σ F H (e :: es) P)
    (hr : ∀ vs F1 H1, Same F1 H1 → P F1 vs → ∀ Q : VK, (∀ v F2 H2, Wk F1 H1 F2 H2 → rep X.K F2 v z → Q v H2) → r vs H1 Q) (hg : Gl X x := by rfl) (hn : x ≠ "__name__" := by decide) (hdb : (x == ("__debug__" : Str)) = false := by decide)
    (he : starEach (e :: es) X.env = (false, eval e X.env) :: starEach es X.env := by rfl) (hpl : (backTo pos (starEach es X.env)).any (·.1) = false := by rfl) : Ev X σ F H (.Call (.Name x p) (e :: es) [] pos) z := fun F1 H1 w Q q =>
  ⟨_, pe_callB hc hg hm hv aw_pa hn hdb he hpl, ha F1 H1 w _ fun vs F2 H2 w2 r2 => hr vs F2 H2 w2.fh r2 Q fun v F3 H3 w3 r3 => q v F3 H3 (w2.trans w3) r3⟩
theorem ev_callTy {T : String} {x : Str} {r : List V → Hp → VK → Prop} {es : List Expr} {P : Hp → List V → Prop} {z : γ} (hc : CallR X (.type T) r) (hm : X.mg x = none) (hv : bootBuiltins x = some (.type T)) (ha : EvA X σ F H (e :: es) P)
    (hr : ∀ vs F1 H1, Same F1 H1 → P F1 vs → ∀ Q : VK, (∀ v F2 H2, Wk F1 H1 F2 H2 → rep X.K F2 v z → Q v H2) → r vs H1 Q) (hg : Gl X x := by rfl) (hn : x ≠ "__name__" := by decide) (hdb : (x == ("__debug__" : Str)) = false := by decide)
    (he : starEach (e :: es) X.env = (false, eval e X.env) :: starEach es X.env := by rfl) (hpl : (backTo pos (starEach es X.env)).any (·.1) = false := by rfl) : Ev X σ F H (.Call (.Name x p) (e :: es) [] pos) z := fun F1 H1 w Q q =>
  ⟨_, pe_callTy hc hg hm hv aw_pa hn hdb he hpl, ha F1 H1 w _ fun vs F2 H2 w2 r2 => hr vs F2 H2 w2.fh r2 Q fun v F3 H3 w3 r3 => q v F3 H3 (w2.trans w3) r3⟩
theorem evn_callB {id : String} {x : Str} {r : List V → Hp → VK → Prop} {es : List Expr} {P : Hp → List V → Prop} {z : List γ} (hc : CallR X (.builtin id) r) (hm : X.mg x = none) (hv : bootBuiltins x = some (.builtin id)) (ha : EvA X σ F H (e :: es) P)
    (hr : ∀ vs F1 H1, Same F1 H1 → P F1 vs → ∀ Q : VK, (∀ p xs F2 H2, Wk F1 H1 F2 H2 → reps X.K F2 xs z → F2 p = none → H1 p = none → H2 p = some (.lst xs) → xs.length ≤ sizeLine → Q (.ref p) H2) → r vs H1 Q) (hg : Gl X x := by rfl) (hn : x ≠ "__name__" := by decide) (hdb : (x == ("__debug__" : Str)) = false := by decide)
    (he : starEach (e :: es) X.env = (false, eval e X.env) :: starEach es X.env := by rfl) (hpl : (backTo pos (starEach es X.env)).any (·.1) = false := by rfl) : EvN X σ F H (.Call (.Name x p) (e :: es) [] pos) z := fun F1 H1 w Q q =>
  ⟨_, pe_callB hc hg hm hv aw_pa hn hdb he hpl, ha F1 H1 w _ fun vs F2 H2 w2 r2 => hr vs F2 H2 w2.fh r2 Q fun p xs F3 H3 w3 r3 h1 h2 h3 h4 => q p xs F3 H3 (w2.trans w3) r3 h1 (w2.hfree h2) h3 h4⟩
theorem evn_callTy {T : String} {x : Str} {r : List V → Hp → VK → Prop} {es : List Expr} {P : Hp → List V → Prop} {z : List γ} (hc : CallR X (.type T) r) (hm : X.mg x = none) (hv : bootBuiltins x = some (.type T)) (ha : EvA X σ F H (e :: es) P)
    (hr : ∀ vs F1 H1, Same F1 H1 → P F1 vs → ∀ Q : VK, (∀ p xs F2 H2, Wk F1 H1 F2 H2 → reps X.K F2 xs z → F2 p = none → H1 p = none → H2 p = some (.lst xs) → xs.length ≤ sizeLine → Q (.ref p) H2) → r vs H1 Q) (hg : Gl X x := by rfl) (hn : x ≠ "__name__" := by decide) (hdb : (x == ("__debug__" : Str)) = false := by decide)
    (he : starEach (e :: es) X.env = (false, eval e X.env) :: starEach es X.env := by rfl) (hpl : (backTo pos (starEach es X.env)).any (·.1) = false := by rfl) : EvN X σ F H (.Call (.Name x p) (e :: es) [] pos) z := fun F1 H1 w Q q =>
  ⟨_, pe_callTy hc hg hm hv aw_pa hn hdb he hpl, ha F1 H1 w _ fun vs F2 H2 w2 r2 => hr vs F2 H2 w2.fh r2 Q fun p xs F3 H3 w3 r3 h1 h2 h3 h4 => q p xs F3 H3 (w2.trans w3) r3 h1 (w2.hfree h2) h3 h4⟩
theorem ev_len {xs : List α} (hm : X.mg "len" = none) (ha : Ev X σ F H a xs) (hg : Gl X "len" := by rfl) (hs : starEach [a] X.env = (false, eval a X.env) :: starEach [] X.env := by rfl) (hpl : (backTo pos (starEach [] X.env)).any (·.1) = false := by rfl) : Ev X σ F H (.Call (.Name "len" p) [a] [] pos) (xs.length : Int) :=
  ev_callB call_len_seq hm PySem.boot_len (ea1 ha hs) (fun vs F1 H1 s ⟨v, e, r⟩ Q q => by
    obtain ⟨l, us, rfl, h1, l1, r1⟩ := r
    exact ⟨l, us, e, .inl (SqL.of (s _ _ h1)), q _ F1 H1 (.refl s) (by rw [r1.len]; rfl)⟩) hg (by decide) (by decide) hs hpl
theorem ev_lenS {xs : Scr} (hm : X.mg "len" = none) (ha : Ev X σ F H a xs) (hg : Gl X "len" := by rfl) (hs : starEach [a] X.env = (false, eval a X.env) :: starEach [] X.env := by rfl) (hpl : (backTo pos (starEach [] X.env)).any (·.1) = false := by rfl) : Ev X σ F H (.Call (.Name "len" p) [a] [] pos) (xs.ns.length : Int) :=
  ev_callB call_len_seq hm PySem.boot_len (ea1 ha hs) (fun vs F1 H1 s ⟨v, e, r⟩ Q q => by
    obtain ⟨l, rfl, h1, l1⟩ := r
    exact ⟨l, _, e, .inl (s.seq h1), q _ F1 H1 (.refl s) (by rw [List.length_map]; rfl)⟩) hg (by decide) (by decide) hs hpl
theorem ev_len2 {x : α × β} (hm : X.mg "len" = none) (ha : Ev X σ F H a x) (hg : Gl X "len" := by rfl) (hs : starEach [a] X.env = (false, eval a X.env) :: starEach [] X.env := by rfl) (hpl : (backTo pos (starEach [] X.env)).any (·.1) = false := by rfl) : Ev X σ F H (.Call (.Name "len" p) [a] [] pos) (2 : Int) :=
  ev_callB call_len_seq hm PySem.boot_len (ea1 ha hs) (fun vs F1 H1 s ⟨v, e, r⟩ Q q => by
    obtain ⟨l, v1, v2, rfl, h1, r1, r2⟩ := r
    exact ⟨l, _, e, .inr (SqT.of (s _ _ h1)), q _ F1 H1 (.refl s) rfl⟩) hg (by decide) (by decide) hs hpl
theorem ev_len3 {x : Tri α β γ} (hm : X.mg "len" = none) (ha : Ev X σ F H a x) (hg : Gl X "len" := by rfl) (hs : starEach [a] X.env = (false, eval a X.env) :: starEach [] X.env := by rfl) (hpl : (backTo pos (starEach [] X.env)).any (·.1) = false := by rfl) : Ev X σ F H (.Call (.Name "len" p) [a] [] pos) (3 : Int) :=
  ev_callB call_len_seq hm PySem.boot_len (ea1 ha hs) (fun vs F1 H1 s ⟨v, e, r⟩ Q q => by
    obtain ⟨l, v1, v2, v3, rfl, h1, r1, r2, r3⟩ := r
    exact ⟨l, _, e, .inr (SqT.of (s _ _ h1)), q _ F1 H1 (.refl s) rfl⟩) hg (by decide) (by decide) hs hpl
/-- the numbers, rising -/
def srt (xs : List Int) : List Int := xs.mergeSort (fun a b => decide (a ≤ b))
theorem srt_perm (xs : List Int) : (srt xs).Perm xs := List.mergeSort_perm _ _
theorem srt_up (xs : List Int) : (srt xs).Pairwise (· ≤ ·) := by
  have h := List.pairwise_mergeSort (le := fun (a b : Int) => decide (a ≤ b)) (fun a b c h1 h2 => by simp only [decide_eq_true_eq] at *; omega) (fun a b => by simp only [Bool.or_eq_true, decide_eq_true_eq]; omega) xs
  exact h.imp fun h => by simpa using h
theorem srt_the {xs ys : List Int} (p : ys.Perm xs) (u : ys.Pairwise (· ≤ ·)) : ys = srt xs :=
  List.Perm.eq_of_pairwise (le := (· ≤ ·)) (fun a b _ _ h1 h2 => by omega) u (srt_up xs) (p.trans (srt_perm xs).symm)
theorem srt_len (xs : List Int) : (srt xs).length = xs.length := (srt_perm xs).length_eq
theorem evn_sorted {xs : List Int} (hm : X.mg "sorted" = none) (ha : Ev X σ F H a xs) (hg : Gl X "sorted" := by rfl) (hs : starEach [a] X.env = (false, eval a X.env) :: starEach [] X.env := by rfl) (hpl : (backTo pos (starEach [] X.env)).any (·.1) = false := by rfl) : EvN X σ F H (.Call (.Name "sorted" p) [a] [] pos) (srt xs) :=
  evn_callB cr_sortedI hm (by decide +kernel) (ea1 ha hs) (fun vs F1 H1 s ⟨v, e, r⟩ Q q => by
    obtain ⟨l, us, rfl, h1, l1, r1⟩ := r
    have e1 := reps_int r1
    subst e1
    refine ⟨l, xs, e, SqL.of (s _ _ h1), fun ns' p hp hu hn => ?_⟩
    have e2 := srt_the hp hu
    subst e2
    exact q p _ F1 _ (.lay s hn) (reps_of_int _) (s.free hn) hn upd_same (by rw [List.length_map, srt_len]; rw [List.length_map] at l1; exact l1)) hg (by decide) (by decide) hs hpl
theorem evn_list {xs : List α} (hm : X.mg "list" = none) (ha : Ev X σ F H a xs) (hg : Gl X "list" := by rfl) (hs : starEach [a] X.env = (false, eval a X.env) :: starEach [] X.env := by rfl) (hpl : (backTo pos (starEach [] X.env)).any (·.1) = false := by rfl) : EvN X σ F H (.Call (.Name "list" p) [a] [] pos) xs :=
  evn_callTy call_list_of hm (by decide +kernel) (ea1 ha hs) (fun vs F1 H1 s ⟨v, e, r⟩ Q q => by
    obtain ⟨l, us, rfl, h1, l1, r1⟩ := r
    exact ⟨l, us, e, .inl (SqL.of (s _ _ h1)), fun p hn => q p _ F1 _ (.lay s hn) r1 (s.free hn) hn upd_same l1⟩) hg (by decide) (by decide) hs hpl
theorem ev_sum {xs : List Int} (hc : X.calm = true) (hm : X.mg "sum" = none) (ha : Ev X σ F H a xs) (hg : Gl X "sum" := by rfl) (hs : starEach [a] X.env = (false, eval a X.env) :: starEach [] X.env := by rfl) (hpl : (backTo pos (starEach [] X.env)).any (·.1) = false := by rfl) : Ev X σ F H (.Call (.Name "sum" p) [a] [] pos) xs.sum :=
  ev_callB (cr_sum hc) hm (by decide +kernel) (ea1 ha hs) (fun vs F1 H1 s ⟨v, e, r⟩ Q q => by
    obtain ⟨l, us, rfl, h1, l1, r1⟩ := r
    have e1 := reps_int r1
    subst e1
    exact ⟨l, xs, e, SqL.of (s _ _ h1), q _ F1 H1 (.refl s) rfl⟩) hg (by decide) (by decide) hs hpl
theorem ev_all {xs : List Bool} (hc : X.calm = true) (hm : X.mg "all" = none) (ha : Ev X σ F H a xs) (hg : Gl X "all" := by rfl) (hs : starEach [a] X.env = (false, eval a X.env) :: starEach [] X.env := by rfl) (hpl : (backTo pos (starEach [] X.env)).any (·.1) = false := by rfl) : Ev X σ F H (.Call (.Name "all" p) [a] [] pos) (xs.all id) :=
  ev_callB (cr_all hc) hm (by decide +kernel) (ea1 ha hs) (fun vs F1 H1 s ⟨v, e, r⟩ Q q => by
    obtain ⟨l, us, rfl, h1, l1, r1⟩ := r
    have e1 := reps_bl r1
    subst e1
    exact ⟨l, xs, e, SqL.of (s _ _ h1), q _ F1 H1 (.refl s) rfl⟩) hg (by decide) (by decide) hs hpl
theorem ev_any {xs : List Bool} (hc : X.calm = true) (hm : X.mg "any" = none) (ha : Ev X σ F H a xs) (hg : Gl X "any" := by rfl) (hs : starEach [a] X.env = (false, eval a X.env) :: starEach [] X.env := by rfl) (hpl : (backTo pos (starEach [] X.env)).any (·.1) = false := by rfl) : Ev X σ F H (.Call (.Name "any" p) [a] [] pos) (xs.any id) :=
  ev_callB (cr_any hc) hm (by decide +kernel) (ea1 ha hs) (fun vs F1 H1 s ⟨v, e, r⟩ Q q => by
    obtain ⟨l, us, rfl, h1, l1, r1⟩ := r
    have e1 := reps_bl r1
    subst e1
    exact ⟨l, xs, e, SqL.of (s _ _ h1), q _ F1 H1 (.refl s) rfl⟩) hg (by decide) (by decide) hs hpl
/-- the greatest -/
def lmax : List Int → Int
  | [] => 0
  | x :: xs => xs.foldl max x
theorem foldl_max : ∀ (xs : List Int) (x : Int), x ≤ xs.foldl max x ∧ (∀ y ∈ xs, y ≤ xs.foldl max x) ∧ (xs.foldl max x = x ∨ xs.foldl max x ∈ xs)
  | [], x => ⟨Int.le_refl _, fun _ h => absurd h (by simp), .inl rfl⟩
  | y :: ys, x => by
    obtain ⟨h1, h2, h3⟩ := foldl_max ys (max x y)
    refine ⟨Int.le_trans (Int.le_max_left _ _) h1, fun z hz => ?_, ?_⟩
    · rcases List.mem_cons.mp hz with e | h
      · rw [e]
        exact Int.le_trans (Int.le_max_right _ _) h1
      · exact h2 z h
    · rcases h3 with h | h
      · show ys.foldl max (max x y) = x ∨ ys.foldl max (max x y) ∈ y :: ys
        rw [h]
        rcases Int.le_total x y with k | k
        · rw [Int.max_eq_right k]
          exact .inr List.mem_cons_self
        · rw [Int.max_eq_left k]
          exact .inl rfl
      · exact .inr (List.mem_cons_of_mem _ h)
theorem lmax_mem {xs : List Int} (h : xs ≠ []) : lmax xs ∈ xs := by
  cases xs with
  | nil => exact absurd rfl h
  | cons x xs =>
    obtain ⟨_, _, h⟩ := foldl_max xs x
    rcases h with h | h
    · show xs.foldl max x ∈ _
      rw [h]
      exact List.mem_cons_self
    · exact List.mem_cons_of_mem _ h
theorem le_lmax {xs : List Int} {y : Int} (h : y ∈ xs) : y ≤ lmax xs := by
  cases xs with
  | nil => cases h
  | cons x xs =>
    obtain ⟨h1, h2, _⟩ := foldl_max xs x
    rcases List.mem_cons.mp h with e | h
    · rw [e]
      exact h1
    · exact h2 y h
theorem ev_max {xs : List Int} (hc : X.calm = true) (hm : X.mg "max" = none) (ha : Ev X σ F H a xs) (hne : xs ≠ []) (hg : Gl X "max" := by rfl) (hs : starEach [a] X.env = (false, eval a X.env) :: starEach [] X.env := by rfl) (hpl : (backTo pos (starEach [] X.env)).any (·.1) = false := by rfl) : Ev X σ F H (.Call (.Name "max" p) [a] [] pos) (lmax xs) :=
  ev_callB (cr_max hc) hm (by decide +kernel) (ea1 ha hs) (fun vs F1 H1 s ⟨v, e, r⟩ Q q => by
    obtain ⟨l, us, rfl, h1, l1, r1⟩ := r
    have e1 := reps_int r1
    subst e1
    refine ⟨l, xs, e, SqL.of (s _ _ h1), List.length_pos_iff.mpr hne, fun m hm hle => ?_⟩
    have e2 : m = lmax xs := Int.le_antisymm (le_lmax hm) (hle _ (lmax_mem hne))
    subst e2
    exact q _ F1 H1 (.refl s) rfl) hg (by decide) (by decide) hs hpl
theorem ev_max2 {x y : Int} (hc : X.calm = true) (hm : X.mg "max" = none) (ha : Ev X σ F H a x) (hb : Ev X σ F H b y) (hg : Gl X "max" := by rfl) (hs : starEach [a, b] X.env = (false, eval a X.env) :: starEach [b] X.env := by rfl) (hs2 : starEach [b] X.env = (false, eval b X.env) :: starEach [] X.env := by rfl) (hpl : (backTo pos (starEach [b] X.env)).any (·.1) = false := by rfl) : Ev X σ F H (.Call (.Name "max" p) [a, b] [] pos) (if y > x then y else x) :=
  ev_callB (call_max2 hc) hm (by decide +kernel) (ea2 ha hb hs hs2) (fun vs F1 H1 s ⟨v, u, e, r, r2⟩ Q q => ⟨x, y, by rw [e, r, r2], q _ F1 H1 (.refl s) rfl⟩) hg (by decide) (by decide) hs hpl
theorem ev_min2 {x y : Int} (hc : X.calm = true) (hm : X.mg "min" = none) (ha : Ev X σ F H a x) (hb : Ev X σ F H b y) (hg : Gl X "min" := by rfl) (hs : starEach [a, b] X.env = (false, eval a X.env) :: starEach [b] X.env := by rfl) (hs2 : starEach [b] X.env = (false, eval b X.env) :: starEach [] X.env := by rfl) (hpl : (backTo pos (starEach [b] X.env)).any (·.1) = false := by rfl) : Ev X σ F H (.Call (.Name "min" p) [a, b] [] pos) (if y < x then y else x) :=
  ev_callB (call_min2 hc) hm (by decide +kernel) (ea2 ha hb hs hs2) (fun vs F1 H1 s ⟨v, u, e, r, r2⟩ Q q => ⟨x, y, by rw [e, r, r2], q _ F1 H1 (.refl s) rfl⟩) hg (by decide) (by decide) hs hpl
theorem ev_intB {x : Bool} (hm : X.mg "int" = none) (ha : Ev X σ F H a x) (hg : Gl X "int" := by rfl) (hs : starEach [a] X.env = (false, eval a X.env) :: starEach [] X.env := by rfl) (hpl : (backTo pos (starEach [] X.env)).any (·.1) = false := by rfl) : Ev X σ F H (.Call (.Name "int" p) [a] [] pos) (if x = true then (1 : Int) else 0) :=
  ev_callTy call_int1 hm (by decide +kernel) (ea1 ha hs) (fun vs F1 H1 s ⟨v, e, r⟩ Q q => .inr ⟨x, by rw [e, r], q _ F1 H1 (.refl s) rfl⟩) hg (by decide) (by decide) hs hpl
/-- isinstance of a built-in class -/
theorem ev_isi {x : α} {T t : String} {ty : Str} {res : Bool} {p2} (hm : X.mg "isinstance" = none) (hmT : X.mg ty = none) (hvT : bootBuiltins ty = some (.type T)) (ht : ∀ v F1 H1, Same F1 H1 → rep X.K F1 v x → TyX X.K H1 v (.type t)) (hk : kitB t T = some res) (ha : Ev X σ F H a x)
    (hg : Gl X "isinstance" := by rfl) (hgT : Gl X ty := by rfl) (hn : ty ≠ "__name__" := by decide) (hdb : (ty == ("__debug__" : Str)) = false := by decide)
    (hs : starEach [a, .Name ty p2] X.env = (false, eval a X.env) :: starEach [.Name ty p2] X.env := by rfl) (hs2 : starEach [.Name ty p2] X.env = (false, eval (.Name ty p2) X.env) :: starEach [] X.env := by rfl) (hpl : (backTo pos (starEach [.Name ty p2] X.env)).any (·.1) = false := by rfl) :
    Ev X σ F H (.Call (.Name "isinstance" p) [a, .Name ty p2] [] pos) res := fun F1 H1 w Q q =>
  ⟨_, pe_callB call_isi hg hm (by decide +kernel) (pa_cons ew_pe (pa_cons (pe_bltn (v := .ty T) hgT hmT hvT rfl hn hdb) pa_nil hs2) hs) (by decide) (by decide) hs hpl, ha F1 H1 w _ fun v F2 H2 w2 r =>
    ⟨v, .ty T, .type t, .type T, res, rfl, .ty T, ht v F2 H2 w2.fh r, kit_ty hk, q _ F2 H2 w2 rfl⟩⟩
end
end MP
namespace MP
open PySem PySem.Spec PyProof.Rows L2 Rep

/-! ### data by what it is equal to -/
def inB {α : Type} [DecidableEq α] (x : α) (ys : List α) : Bool := decide (x ∈ ys)
theorem inB_t {α : Type} [DecidableEq α] {x : α} {ys : List α} : (inB x ys = true) = (x ∈ ys) := by
  unfold inB
  exact propext decide_eq_true_iff
theorem inB_f {α : Type} [DecidableEq α] {x : α} {ys : List α} : (inB x ys = false) = (¬ x ∈ ys) := by
  unfold inB
  exact propext decide_eq_false_iff_not
class Pyd (α : Type) [Rep α] [DecidableEq α] where
  py : α → PyData
  dp : ∀ {K : PySem.W.Frag} {H : Hp} {v : V} {d : α}, rep K H v d → Dp K H v (py d)
  lay : ∀ d : α, (py d).canLay0 = true
  dep : Nat
  depth : ∀ d : α, (py d).depth ≤ dep
  eqv : ∀ a b : α, PyData.eqv (py a) (py b) = decide (a = b)
class PydN (α : Type) [Rep α] [DecidableEq α] [Pyd α] : Prop where
  nn : ∀ a : α, PyData.eqv (Pyd.py a) .none = false ∧ PyData.eqv .none (Pyd.py a) = false
open Pyd
instance : Pyd Int where
  py := .int
  dp := fun h => by
    obtain rfl := h
    exact .int _
  lay := fun _ => by simp [PyData.canLay0]
  dep := 0
  depth := fun _ => by simp [PyData.depth]
  eqv := fun a b => by simp [PyData.eqv, beq_dec]
instance : Pyd Bool where
  py := .bool
  dp := fun h => by
    obtain rfl := h
    exact .bl _
  lay := fun _ => by simp [PyData.canLay0]
  dep := 0
  depth := fun _ => by simp [PyData.depth]
  eqv := fun a b => by simp [PyData.eqv, beq_dec]
section
variable {α : Type} [Rep α] [DecidableEq α] [Pyd α]
theorem dp_all {K : PySem.W.Frag} {H : Hp} {xs : List V} {ds : List α} (r : reps K H xs ds) : DpAll K H xs (ds.map py) := by
  induction r with
  | nil => exact .nil
  | cons r _ ih => exact .cons (dp r) ih
theorem lay_all : ∀ ds : List α, PyData.canLayAll0 (ds.map py) = true
  | [] => by simp [PyData.canLayAll0]
  | d :: ds => by simp [PyData.canLayAll0, lay d, lay_all ds]
theorem depth_all : ∀ ds : List α, PyData.depthAll (ds.map py) ≤ dep α
  | [] => by simp [PyData.depthAll]
  | d :: ds => by
    have h1 := depth_all ds
    have h2 := Pyd.depth d
    simp only [List.map_cons, PyData.depthAll]
    omega
theorem eqv_all : ∀ as bs : List α, PyData.eqvAll (as.map py) (bs.map py) = decide (as = bs)
  | [], [] => by simp [PyData.eqvAll]
  | [], b :: bs => by simp [PyData.eqvAll]
  | a :: as, [] => by simp [PyData.eqvAll]
  | a :: as, b :: bs => by
    simp only [List.map_cons, PyData.eqvAll, Pyd.eqv, eqv_all as bs, List.cons.injEq]
    by_cases h1 : a = b <;> by_cases h2 : as = bs <;> simp [h1, h2]
instance : Pyd (List α) where
  py := fun ds => .list (ds.map py)
  dp := fun h => by
    obtain ⟨a, xs, rfl, h1, l, r⟩ := h
    exact .lst (SqL.of h1) (dp_all r)
  lay := fun ds => by simp only [PyData.canLay0]; exact lay_all ds
  dep := dep α + 1
  depth := fun ds => by
    have := depth_all ds
    simp only [PyData.depth]
    omega
  eqv := fun a b => by simp only [PyData.eqv]; exact eqv_all a b
instance : PydN (List α) := ⟨fun a => by constructor <;> (show PyData.eqv _ _ = false) <;> simp [Pyd.py, PyData.eqv]⟩
instance [PydN α] : Pyd (Option α) where
  py := fun o => match o with
    | none => .none
    | some d => py d
  dp := fun {K H v d} h => by
    cases d with
    | none =>
      obtain rfl : v = .non := h
      exact .non
    | some d => exact dp (d := d) h
  lay := fun d => by
    cases d with
    | none => simp [PyData.canLay0]
    | some d => exact lay d
  dep := dep α
  depth := fun d => by
    cases d with
    | none => simp [PyData.depth]
    | some d => exact Pyd.depth d
  eqv := fun a b => by
    cases a with
    | none =>
      cases b with
      | none => simp [PyData.eqv]
      | some b => simpa using (PydN.nn b).2
    | some a =>
      cases b with
      | none => simpa using (PydN.nn a).1
      | some b => simpa using Pyd.eqv a b
variable {β γ : Type} [Rep β] [DecidableEq β] [Pyd β] [Rep γ] [DecidableEq γ] [Pyd γ]
instance : Pyd (α × β) where
  py := fun d => .tuple [py d.1, py d.2]
  dp := fun h => by
    obtain ⟨a, x, y, rfl, h1, r1, r2⟩ := h
    exact .tup (SqT.of h1) (.cons (dp r1) (.cons (dp r2) .nil))
  lay := fun d => by simp [PyData.canLay0, PyData.canLayAll0, lay]
  dep := max (dep α) (dep β) + 1
  depth := fun d => by
    have h1 := Pyd.depth d.1
    have h2 := Pyd.depth d.2
    simp only [PyData.depth, PyData.depthAll]
    omega
  eqv := fun a b => by
    obtain ⟨a1, a2⟩ := a
    obtain ⟨b1, b2⟩ := b
    simp only [PyData.eqv, PyData.eqvAll, Pyd.eqv, Bool.and_true, Prod.mk.injEq]
    by_cases h1 : a1 = b1 <;> by_cases h2 : a2 = b2 <;> simp [h1, h2]
instance : Pyd (Tri α β γ) where
  py := fun d => .tuple [py d.a, py d.b, py d.c]
  dp := fun h => by
    obtain ⟨a, x, y, z, rfl, h1, r1, r2, r3⟩ := h
    exact .tup (SqT.of h1) (.cons (dp r1) (.cons (dp r2) (.cons (dp r3) .nil)))
  lay := fun d => by simp [PyData.canLay0, PyData.canLayAll0, lay]
  dep := max (max (dep α) (dep β)) (dep γ) + 1
  depth := fun d => by
    have h1 := Pyd.depth d.a
    have h2 := Pyd.depth d.b
    have h3 := Pyd.depth d.c
    simp only [PyData.depth, PyData.depthAll]
    omega
  eqv := fun a b => by
    obtain ⟨a1, a2, a3⟩ := a
    obtain ⟨b1, b2, b3⟩ := b
    simp only [PyData.eqv, PyData.eqvAll, Pyd.eqv, Bool.and_true, Tri.mk.injEq]
    by_cases h1 : a1 = b1 <;> by_cases h2 : a2 = b2 <;> by_cases h3 : a3 = b3 <;> simp [h1, h2, h3]
end
section
variable {X : Cx} {σ : L2.St} {F H F' H' : Hp} {a b c e : Expr} {pos p : Pos} {α β γ δ : Type} [Rep α] [Rep β] [Rep γ] [Rep δ] [DecidableEq α] [Pyd α]
theorem shaped_of (d : α) (h : dep α ≤ 64) : SeqAt.shaped (py d) = true := by
  show ((py d).canLay0 && decide ((py d).depth ≤ 64)) = true
  rw [Bool.and_eq_true]
  exact ⟨lay d, decide_eq_true (Nat.le_trans (Pyd.depth d) h)⟩
theorem rr_eqD {x y : α} (h : dep α ≤ 64 := by decide) : RR X (rEqD X.K) x y (decide (x = y)) := fun vx vy F1 H1 s rx ry Q q =>
  ⟨py x, py y, dp (Rep.mono s rx), dp (Rep.mono s ry), shaped_of x h, shaped_of y h, q _ F1 H1 (.refl s) (by show _ = _; rw [Pyd.eqv])⟩
theorem rr_neD {x y : α} (h : dep α ≤ 64 := by decide) : RR X (rNeD X.K) x y (!decide (x = y)) := fun vx vy F1 H1 s rx ry Q q =>
  ⟨py x, py y, dp (Rep.mono s rx), dp (Rep.mono s ry), shaped_of x h, shaped_of y h, q _ F1 H1 (.refl s) (by show _ = _; rw [Pyd.eqv])⟩
theorem rr_eqScr {x : Scr} : RR X (rEqD X.K) x ([] : List Int) (decide (x.ns = [])) := fun vx vy F1 H1 s rx ry Q q => by
  obtain ⟨l, rfl, h1, l1⟩ := rx
  refine ⟨.list (x.ns.map .int), py ([] : List Int), .lst (s.seq h1) (dp_all (reps_of_int x.ns)), dp (Rep.mono s ry), shaped_of (α := List Int) x.ns (by decide), shaped_of (α := List Int) [] (by decide), q _ F1 H1 (.refl s) ?_⟩
  show _ = _
  rw [← Pyd.eqv (α := List Int) x.ns []]
  rfl
theorem any_eqv (x : α) : ∀ ys : List α, ((ys.map py).any fun z => PyData.eqv z (py x)) = decide (x ∈ ys)
  | [] => by simp
  | y :: ys => by
    simp only [List.map_cons, List.any_cons, Pyd.eqv, any_eqv x ys, List.mem_cons]
    by_cases h1 : y = x
    · simp [h1]
    · have h3 : ¬ x = y := fun h => h1 h.symm
      simp [h1, h3]
theorem rr_in {x : α} {ys : List α} (h : dep α + 1 ≤ 64 := by decide) : RR X (rInD X.K) x ys (inB x ys) := fun vx vy F1 H1 s rx ry Q q =>
  ⟨py x, ys.map py, dp (Rep.mono s rx), dp (Rep.mono s ry), shaped_of x (by omega), shaped_of ys h, q _ F1 H1 (.refl s) (by show _ = _; rw [any_eqv]; rfl)⟩
theorem rr_notIn {x : α} {ys : List α} (h : dep α + 1 ≤ 64 := by decide) : RR X (rNotInD X.K) x ys (!inB x ys) := fun vx vy F1 H1 s rx ry Q q =>
  ⟨py x, ys.map py, dp (Rep.mono s rx), dp (Rep.mono s ry), shaped_of x (by omega), shaped_of ys h, q _ F1 H1 (.refl s) (by show _ = _; rw [any_eqv]; rfl)⟩

/-! ### what is walked -/
def IW (X : Cx) (iter : Expr) : TI := fun σ H R => ∃ t, (∀ tg, PI X tg iter t) ∧ t σ H R
theorem iw_pi {tg : Expr} : PI X tg e (IW X e) := ⟨fun pins s σ H R I h => by
  obtain ⟨t, p, h⟩ := h
  exact (p tg).run pins s σ H R I h⟩
structure Walk (J : It) (K : PySem.W.Frag) (F : Hp) {α : Type} [Rep α] (xs : List α) : Prop where
  go : ∀ (i : Nat) (H' : Hp), i < xs.length → Same F H' → J.go i H'
  yld : ∀ (i : Nat) (H' : Hp) (x : V) (H'' : Hp), Same F H' → J.yld i H' x H'' → H'' = H' ∧ ∀ d, xs[i]? = some d → rep K F x d
  stop : ∀ (H' : Hp), Same F H' → J.stop xs.length H'
def EvI (X : Cx) (σ : L2.St) (F H : Hp) (e : Expr) {α : Type} [Rep α] (xs : List α) : Prop :=
  ∀ F1 H1, Wk F H F1 H1 → ∀ R : It → Hp → Prop, (∀ J F2 H2, Wk F1 H1 F2 H2 → Walk J X.K F2 xs → xs.length ≤ sizeLine → R J H2) → IW X e σ H1 R
theorem ei_list {α : Type} [Rep α] {xs : List α} (h : Ev X σ F H e xs) : EvI X σ F H e xs := fun F1 H1 w R q =>
  ⟨_, fun _ => pi_list ew_pe, h F1 H1 w _ fun v F2 H2 w2 r => by
    obtain ⟨a, us, rfl, h1, l, r1⟩ := r
    refine ⟨a, rfl, ⟨us, SqL.of (w2.fh _ _ h1)⟩, q _ F2 H2 w2 ⟨fun i H' hi s => ?_, fun i H' x H'' s y => ?_, fun H' s => ⟨us, SqL.of (s _ _ h1), by rw [r1.len]; exact Nat.le_refl _⟩⟩ (by rw [← r1.len]; exact l)⟩
    · have hi' : i < us.length := by rw [r1.len]; exact hi
      exact ⟨us, us[i], SqL.of (s _ _ h1), List.getElem?_eq_getElem hi'⟩
    · obtain ⟨e1, y⟩ := y
      refine ⟨e1, fun d hd => ?_⟩
      obtain ⟨u, hu, ru⟩ := r1.get' hd
      have e2 := (y us (SqL.of (s _ _ h1))).symm.trans hu
      cases e2
      exact ru⟩
def rng (lo hi : Int) : List Int := (List.range (hi - lo).toNat).map fun k : Nat => lo + (k : Int)
theorem rng_len (lo hi : Int) : (rng lo hi).length = (hi - lo).toNat := by unfold rng; rw [List.length_map, List.length_range]
theorem rng_get {lo hi : Int} {i : Nat} {d : Int} (h : (rng lo hi)[i]? = some d) : d = lo + i ∧ i < (hi - lo).toNat := by
  unfold rng at h
  rw [List.getElem?_map] at h
  by_cases hi' : i < (hi - lo).toNat
  · rw [List.getElem?_range hi'] at h
    exact ⟨(Option.some.inj h).symm, hi'⟩
  · rw [List.getElem?_eq_none (by rw [List.length_range]; omega)] at h
    cases h
theorem rng_mem {lo hi x : Int} : x ∈ rng lo hi ↔ lo ≤ x ∧ x < hi := by
  unfold rng
  rw [List.mem_map]
  constructor
  · rintro ⟨k, hk, rfl⟩
    rw [List.mem_range] at hk
    omega
  · intro h
    exact ⟨(x - lo).toNat, List.mem_range.mpr (by omega), by omega⟩
theorem walk_rng {K : PySem.W.Frag} {lo hi : Int} : Walk (Itr lo (hi - lo).toNat) K F (rng lo hi) :=
  ⟨fun i H' h _ => by rw [rng_len] at h; exact h, fun i H' x H'' _ y => ⟨y.1, fun d hd => by rw [y.2, (rng_get hd).1]; rfl⟩, fun H' _ => by rw [rng_len]; exact Nat.le_refl _⟩
theorem ei_range1 {n : Int} (hm : X.mg "range" = none) (h : Ev X σ F H a n) (h1 : -(2 ^ 62) ≤ n ∧ n ≤ 16777216) (hg : Gl X "range" := by rfl) (hs : starEach [a] X.env = [(false, eval a X.env)] := by rfl) : EvI X σ F H (.Call (.Name "range" p) [a] [] pos) (rng 0 n) := fun F1 H1 w R q =>
  ⟨_, fun _ => pi_range1 hg hm aw_pa hs, ea1 h hs F1 H1 w _ fun vs F2 H2 w2 ⟨v, e, r⟩ => ⟨n, by rw [e, r], h1.1, by omega, by
    have := q (Itr 0 (n - 0).toNat) F2 H2 w2 walk_rng (by rw [rng_len, sizeLine_eq]; omega)
    rw [Int.sub_zero] at this
    exact this⟩⟩
theorem ei_range2 {lo n : Int} (hm : X.mg "range" = none) (h0 : Ev X σ F H a lo) (h : Ev X σ F H b n) (h1 : -(2 ^ 62) ≤ lo ∧ lo < 2 ^ 62 ∧ -(2 ^ 62) ≤ n ∧ n < 2 ^ 62 ∧ n - lo ≤ 16777216) (hg : Gl X "range" := by rfl) (hs : starEach [a, b] X.env = [(false, eval a X.env), (false, eval b X.env)] := by rfl) (hs2 : starEach [b] X.env = [(false, eval b X.env)] := by rfl) : EvI X σ F H (.Call (.Name "range" p) [a, b] [] pos) (rng lo n) := fun F1 H1 w R q =>
  ⟨_, fun _ => pi_range2 hg hm aw_pa hs hs2, ea2 h0 h (hs.trans (by rw [hs2])) hs2 F1 H1 w _ fun vs F2 H2 w2 ⟨v, u, e, r, r2⟩ => ⟨lo, n, by rw [e, r, r2], ⟨h1.1, h1.2.1, h1.2.2.1, h1.2.2.2.1⟩, q _ F2 H2 w2 walk_rng (by rw [rng_len, sizeLine_eq]; omega)⟩⟩

/-! ### comprehensions -/
abbrev Cx.bk (X : Cx) (s : Shared) (Hb : Hp) (scope : Scope) (C : Addr) (cl : List (Str × Addr)) (fp : List Addr) : Cx := X.blk s Hb scope (compEnvC scope cl C X.env) fp
def teB (X : Cx) (scope : Scope) (e : Expr) : TE := fun σ H Q => ∀ s Hb C cl fp, EW (MP.Cx.bk X s Hb scope C cl fp) e σ H Q
def ttB (X : Cx) (scope : Scope) (ifs : List Expr) : TT := fun σ H Q => ∀ s Hb C cl fp, ∃ t, PTs (MP.Cx.bk X s Hb scope C cl fp) ifs t ∧ t σ H Q
theorem wipe1 (σ : L2.St) (i : Nat) (x : Option V) : wipe ((wipe σ [i]).set i x) [i] = wipe σ [i] := by
  show ((σ.set i none).set i x).set i none = σ.set i none
  rw [List.set_set, List.set_set]
/-- one run of the elements -/
theorem lc_run {α β : Type} [Rep α] [Rep β] {xs : List α} {f : α → Bool} {g : α → β} {i : Nat} {scope : Scope} {elt iter : Expr} {ifs : List Expr}
    (hi : EvI X σ F H iter xs)
    (ht : ∀ d, d ∈ xs → ∀ v F1 H1, Wk F H F1 H1 → rep X.K F1 v d → ∀ s Hb C cl fp, ∀ Q : Bool → Hp → Prop, (∀ F2 H2, Wk F1 H1 F2 H2 → Q (f d) H2) → ∃ t, PTs (MP.Cx.bk X s Hb scope C cl fp) ifs t ∧ t ((σ.set i none).set i (some v)) H1 Q)
    (he : ∀ d, d ∈ xs → f d = true → ∀ v F1 H1, Wk F H F1 H1 → rep X.K F1 v d → ∀ s Hb C cl fp, Ev (MP.Cx.bk X s Hb scope C cl fp) ((σ.set i none).set i (some v)) F1 H1 elt (g d))
    {F1 H1 : Hp} (w : Wk F H F1 H1) (Q : VK)
    (q : ∀ p ys F2 H2, Wk F1 H1 F2 H2 → reps X.K F2 ys ((xs.filter f).map g) → F2 p = none → H1 p = none → H2 p = some (.lst ys) → ys.length ≤ sizeLine → Q (.ref p) H2) :
    tLc (IW X iter) (gName i) (ttB X scope ifs) (teB X scope elt) [i] σ H1 Q := by
  refine hi F1 H1 w _ fun J F2 H2 w2 wk hz D hD => ?_
  have len : ∀ n, ((xs.take n).filter f).length ≤ n := fun n => Nat.le_trans (List.length_filter_le _ _) (by rw [List.length_take]; exact Nat.min_le_left _ _)
  refine ⟨fun n m H' => m = xs.length - n ∧ n ≤ xs.length ∧ ∃ F' ys, Wk F2 H2 F' H' ∧ F' D = none ∧ H' D = some (.lst ys) ∧ reps X.K F' ys (((xs.take n).filter f).map g), ⟨xs.length, rfl, Nat.zero_le _, F2, [], .lay w2.fh hD, w2.fh.free hD, upd_same, .nil⟩, ?_⟩
  rintro n m H' ⟨rfl, hn, F', ys, wD, fD, hD', rD⟩
  have sm : Same F2 H' := wD.ff.trans wD.fh
  by_cases hlt : n < xs.length
  · refine .inr ⟨wk.go n H' hlt sm, fun H'' => xs.length - (n + 1) = xs.length - (n + 1) ∧ n + 1 ≤ xs.length ∧ ∃ F' ys, Wk F2 H2 F' H'' ∧ F' D = none ∧ H'' D = some (.lst ys) ∧ reps X.K F' ys (((xs.take (n + 1)).filter f).map g), fun H'' h => ⟨xs.length - (n + 1), by omega, h⟩, fun x H'' y => ?_⟩
    obtain ⟨e1, hx⟩ := wk.yld n H' x H'' sm y
    subst e1
    have hd : xs[n]? = some xs[n] := List.getElem?_eq_getElem hlt
    have hm : xs[n] ∈ xs := List.getElem_mem hlt
    have rx := Rep.mono wD.ff (hx _ hd)
    have wA : Wk F H F' H'' := (w.trans w2).trans wD
    have tk : xs.take (n + 1) = xs.take n ++ [xs[n]] := by rw [List.take_add_one, hd]; rfl
    refine ⟨wipe1 σ i (some x), fun s Hb C cl fp => ht _ hm x F' H'' wA rx s Hb C cl fp _ fun F3 H3 w3 => ?_⟩
    cases hf : f xs[n] with
    | true =>
      refine iteT fun s Hb C cl fp => he _ hm hf x F' H'' wA rx s Hb C cl fp F3 H3 w3 _ fun v F4 H4 w4 r4 => ?_
      have w34 := w3.trans w4
      have hD4 := w34.hh _ _ hD'
      have fD4 := w34.off fD hD'
      have hl : ys.length < sizeLine := by
        rw [rD.len, List.length_map]
        exact Nat.lt_of_le_of_lt (len n) (Nat.lt_of_lt_of_le hlt hz)
      refine ⟨ys, hD4, hl, rfl, hlt, F4, ys ++ [v], (wD.trans w34).mut hD fD4 hD4, fD4, upd_same, ?_⟩
      rw [tk, List.filter_append, List.map_append]
      refine (reps_mono w34.ff rD).app ?_
      rw [List.filter_cons, if_pos hf]
      exact .one r4
    | false =>
      refine iteF ⟨rfl, hlt, F3, ys, wD.trans w3, w3.off fD hD', w3.hh _ _ hD', ?_⟩
      rw [tk, List.filter_append, List.map_append, List.filter_cons, if_neg (by rw [hf]; decide)]
      show reps X.K F3 ys (_ ++ [])
      rw [List.append_nil]
      exact reps_mono w3.ff rD
  · have e : n = xs.length := by omega
    subst e
    rw [List.take_length] at rD
    refine .inl ⟨wk.stop H' sm, q D ys F' H' (w2.trans wD) rD fD (w2.hfree hD) hD' ?_⟩
    rw [rD.len, List.length_map]
    exact Nat.le_trans (List.length_filter_le _ _) hz
/-- a comprehension that gives a new list -/
def EvC (X : Cx) (σ : L2.St) (F H : Hp) (e : Expr) {α : Type} [Rep α] (ds : List α) : Prop :=
  ∃ (elt tg iter : Expr) (ifs : List Expr) (scope : Scope) (pos : Pos) (own : List (Str × Nat)) (wi : TI) (g : TG) (tt : TT) (te : TE), e = .ListComp elt [⟨tg, iter, ifs, 0⟩] scope pos ∧
    PI X tg iter wi ∧ BlkOk X.N X.env.scope scope own ∧ (∀ (s : Shared) (H : Hp) (C : Addr) (cl : List (Str × Addr)) (fp : List Addr), PG (X.blk s H scope (compEnvC scope cl C X.env) fp) tg g) ∧ (∀ (s : Shared) (H : Hp) (C : Addr) (cl : List (Str × Addr)) (fp : List Addr), PTs (X.blk s H scope (compEnvC scope cl C X.env) fp) ifs tt) ∧
    (∀ (s : Shared) (H : Hp) (C : Addr) (cl : List (Str × Addr)) (fp : List Addr), PE (X.blk s H scope (compEnvC scope cl C X.env) fp) elt te) ∧ (∀ x, foldedSetIterable iter X.env x = pure x) ∧
    ∀ F1 H1, Wk F H F1 H1 → ∀ Q : VK, (∀ p xs F2 H2, Wk F1 H1 F2 H2 → reps X.K F2 xs ds → F2 p = none → H1 p = none → H2 p = some (.lst xs) → xs.length ≤ sizeLine → Q (.ref p) H2) → tLc wi g tt te (own.map (·.2)) σ H1 Q
theorem EvC.evn {α : Type} [Rep α] {ds : List α} (hc : X.calm = true) (hN : X.N.Nodup) (h : EvC X σ F H e ds) : EvN X σ F H e ds := by
  obtain ⟨elt, tg, iter, ifs, scope, pos, own, wi, g, tt, te, rfl, h1, h2, h3, h4, h5, h6, h7⟩ := h
  exact fun F1 H1 w Q q => ⟨_, pe_lc hc hN h1 h2 h3 h4 h5 h6, h7 F1 H1 w Q q⟩
theorem EvC.eq {α : Type} [Rep α] {d d' : List α} (h : EvC X σ F H e d) (q : d = d') : EvC X σ F H e d' := q ▸ h
section
variable {β : Type} [Rep α] [Rep β] {xs : List α} {f : α → Bool} {g : α → β} {scope : Scope} {elt iter : Expr} {ppos : Pos} {x : Str}
theorem evn_lc (i : Nat) {xs : List α} (hN : X.N.Nodup) (hi : EvI X σ F H iter xs)
    (he : ∀ d, d ∈ xs → ∀ v F1 H1, Wk F H F1 H1 → rep X.K F1 v d → ∀ s Hb C cl fp, Ev (MP.Cx.bk X s Hb scope C cl fp) ((σ.set i none).set i (some v)) F1 H1 elt (g d))
    (ok : blkC X.N X.env.scope scope [(x, i)] = true := by rfl) (hx : X.N[i]? = some x := by rfl) (hl : ∀ (cl : List (Str × Addr)) (C : Addr), L2.Loc (compEnvC scope cl C X.env).scope x := by intro _ _; first | exact Or.inl rfl | exact Or.inr rfl) (hf : ∀ (cl : List (Str × Addr)) (C : Addr), (scope.names.lookup x == some .cell) = true ∨ (compEnvC scope cl C X.env).scope.names.lookup x = some .local := by intro _ _; first | exact .inr rfl | exact .inl rfl) (hs : ∀ x, foldedSetIterable iter X.env x = pure x := by intro _; rfl) : EvC X σ F H (.ListComp elt [⟨.Name x ppos, iter, [], 0⟩] scope pos) (xs.map g) :=
  ⟨elt, .Name x ppos, iter, [], scope, pos, [(x, i)], IW X iter, gName i, ttB X scope [], teB X scope elt, rfl, iw_pi, blkOk_by ok, (fun s Hb C cl fp => pg_name (i := i) hN hx (hl cl C) (hf cl C)),
    (fun s Hb C cl fp => ⟨fun pins s' σ H Q I h => by
      obtain ⟨t, p, h⟩ := h s Hb C cl fp
      exact p.run pins s' σ H Q I h⟩), (fun s Hb C cl fp => ⟨fun pins s' σ H Q I h => ew_pe.run pins s' σ H Q I (h s Hb C cl fp)⟩), hs,
    fun F1 H1 w Q q => lc_run (f := fun _ => true) hi (fun d hd v F1 H1 w r s Hb C cl fp Q q => ⟨_, pts_nil, q F1 H1 (.refl w.fh)⟩) (fun d hd _ => he d hd) w Q (fun p ys F2 H2 w2 r h1 h2 h3 h4 => q p ys F2 H2 w2 (by rw [List.filter_eq_self.mpr fun _ _ => rfl] at r; exact r) h1 h2 h3 h4)⟩
theorem evn_lcT (i : Nat) {xs : List α} {t : Expr} (hN : X.N.Nodup) (hi : EvI X σ F H iter xs)
    (ht : ∀ d, d ∈ xs → ∀ v F1 H1, Wk F H F1 H1 → rep X.K F1 v d → ∀ s Hb C cl fp, EvT (MP.Cx.bk X s Hb scope C cl fp) ((σ.set i none).set i (some v)) F1 H1 t (f d))
    (he : ∀ d, d ∈ xs → f d = true → ∀ v F1 H1, Wk F H F1 H1 → rep X.K F1 v d → ∀ s Hb C cl fp, Ev (MP.Cx.bk X s Hb scope C cl fp) ((σ.set i none).set i (some v)) F1 H1 elt (g d))
    (ok : blkC X.N X.env.scope scope [(x, i)] = true := by rfl) (hx : X.N[i]? = some x := by rfl) (hl : ∀ (cl : List (Str × Addr)) (C : Addr), L2.Loc (compEnvC scope cl C X.env).scope x := by intro _ _; first | exact Or.inl rfl | exact Or.inr rfl) (hf : ∀ (cl : List (Str × Addr)) (C : Addr), (scope.names.lookup x == some .cell) = true ∨ (compEnvC scope cl C X.env).scope.names.lookup x = some .local := by intro _ _; first | exact .inr rfl | exact .inl rfl) (hs : ∀ x, foldedSetIterable iter X.env x = pure x := by intro _; rfl) : EvC X σ F H (.ListComp elt [⟨.Name x ppos, iter, [t], 0⟩] scope pos) ((xs.filter f).map g) :=
  ⟨elt, .Name x ppos, iter, [t], scope, pos, [(x, i)], IW X iter, gName i, ttB X scope [t], teB X scope elt, rfl, iw_pi, blkOk_by ok, (fun s Hb C cl fp => pg_name (i := i) hN hx (hl cl C) (hf cl C)),
    (fun s Hb C cl fp => ⟨fun pins s' σ H Q I h => by
      obtain ⟨t, p, h⟩ := h s Hb C cl fp
      exact p.run pins s' σ H Q I h⟩), (fun s Hb C cl fp => ⟨fun pins s' σ H Q I h => ew_pe.run pins s' σ H Q I (h s Hb C cl fp)⟩), hs,
    fun F1 H1 w Q q => lc_run (f := f) hi (fun d hd v F1 H1 w r s Hb C cl fp Q q => ⟨_, pts_one tw_pt, ht d hd v F1 H1 w r s Hb C cl fp F1 H1 (.refl w.fh) Q q⟩) he w Q q⟩
end
end
end MP
namespace MP
open PySem PySem.Spec PyProof.Rows L2 Rep

/-! ### a loop as a plain function -/
def forC {α S R : Type} (body : α → S → (S → R) → R) : List α → S → (S → R) → R
  | [], s, k => k s
  | x :: xs, s, k => body x s fun s' => forC body xs s' k
def bnd {α R : Type} (e : α) (k : α → R) : R := k e
theorem bnd_eq {α R : Type} {e : α} {k : α → R} {r : R} {x : α} (h : r = bnd e k) (hx : x = e) : r = k x := by
  subst hx
  exact h
theorem ift {R : Type} {b : Bool} {x y r : R} (h : r = if b = true then x else y) (hb : b = true) : r = x := by
  rw [if_pos hb] at h
  exact h
theorem iff {R : Type} {b : Bool} {x y r : R} (h : r = if b = true then x else y) (hb : b = false) : r = y := by
  rw [if_neg (by rw [hb]; decide)] at h
  exact h

section
variable {X : Cx} {σ : L2.St} {F H F' H' : Hp} {a b c e : Expr} {pos p : Pos} {α β γ δ : Type} [Rep α] [Rep β] [Rep γ] [Rep δ] {D : Ends}
theorem b_cons {st : Stmt} {rest : List Stmt} (h : SW X st { D with nx := BW X rest D } σ H) : BW X (st :: rest) D σ H := ⟨_, pss_cons sw_ps bw_pss, h⟩
theorem b_one {st : Stmt} (h : SW X st D σ H) : BW X [st] D σ H := ⟨_, pss_one sw_ps, h⟩
theorem b_nil (h : D.nx σ H) : BW X [] D σ H := ⟨_, pss_nil, h⟩
theorem s_ret {d : α} (h : Ev X σ F H e d) (fh : Same F H) (k : ∀ v F' H', Wk F H F' H' → rep X.K F' v d → D.rt v H') : SW X (.Return (some e) pos) D σ H := ⟨_, ps_ret ew_pe, h F H (.refl fh) _ k⟩
theorem s_retN {d : List α} (h : EvN X σ F H e d) (fh : Same F H) (k : ∀ p xs F2 H2, Wk F H F2 H2 → reps X.K F2 xs d → F2 p = none → H p = none → H2 p = some (.lst xs) → xs.length ≤ sizeLine → D.rt (.ref p) H2) : SW X (.Return (some e) pos) D σ H := ⟨_, ps_ret ew_pe, h F H (.refl fh) _ k⟩
theorem s_asg (i : Nat) {x : Str} {pos' : Pos} {d : α} (hN : X.N.Nodup) (h : Ev X σ F H e d) (fh : Same F H) (k : ∀ v F' H', Wk F H F' H' → rep X.K F' v d → D.nx (σ.set i (some v)) H') (hi : X.N[i]? = some x := by rfl) (hx : Loc X.env.scope x := by first | exact Or.inl rfl | exact Or.inr rfl)
    (hs : swapsWith e (some (.Name x pos')) pos.line X.env = pure false := by rfl) (hf : X.fn x = true ∨ X.env.scope.names.lookup x = some .local := by first | exact .inl rfl | exact .inr rfl) : SW X (.Assign [.Name x pos'] e pos) D σ H :=
  ⟨_, ps_set hN hi hx ew_pe hs hf, h F H (.refl fh) _ k⟩
theorem s_asgN (i : Nat) {x : Str} {pos' : Pos} {d : List α} (hN : X.N.Nodup) (h : EvN X σ F H e d) (fh : Same F H) (k : ∀ p xs F2 H2, Wk F H F2 H2 → reps X.K F2 xs d → F2 p = none → H p = none → H2 p = some (.lst xs) → xs.length ≤ sizeLine → D.nx (σ.set i (some (.ref p))) H2) (hi : X.N[i]? = some x := by rfl) (hx : Loc X.env.scope x := by first | exact Or.inl rfl | exact Or.inr rfl)
    (hs : swapsWith e (some (.Name x pos')) pos.line X.env = pure false := by rfl) (hf : X.fn x = true ∨ X.env.scope.names.lookup x = some .local := by first | exact .inl rfl | exact .inr rfl) : SW X (.Assign [.Name x pos'] e pos) D σ H :=
  ⟨_, ps_set hN hi hx ew_pe hs hf, h F H (.refl fh) _ k⟩
theorem s_if {t u : List Stmt} {z : Bool} (h : EvT X σ F H e z) (fh : Same F H) (h1 : z = true → ∀ F1 H1, Wk F H F1 H1 → BW X t D σ H1) (h2 : z = false → ∀ F1 H1, Wk F H F1 H1 → BW X u D σ H1) : SW X (.If e t u pos) D σ H :=
  ⟨_, ps_if tw_pt bw_pss bw_pss, h F H (.refl fh) _ fun F1 H1 w => by
    cases z with
    | true => exact iteT (h1 rfl F1 H1 w)
    | false => exact iteF (h2 rfl F1 H1 w)⟩
theorem s_expr {d : α} (h : Ev X σ F H e d) (fh : Same F H) (k : ∀ v F' H', Wk F H F' H' → rep X.K F' v d → D.nx σ H') (hs : swapsWith e none pos.line X.env = pure false := by rfl) : SW X (.Expr e pos) D σ H :=
  ⟨_, ps_expr ew_pe hs, h F H (.refl fh) _ k⟩
/-- where a list stands that is to change -/
def EvR (X : Cx) (σ : L2.St) (F H : Hp) (e : Expr) (q : Addr) : Prop := ∀ F1 H1, Wk F H F1 H1 → ∀ Q : VK, (∀ F2 H2, Wk F1 H1 F2 H2 → Q (.ref q) H2) → EW X e σ H1 Q
theorem er_var {q : Addr} (i : Nat) {x : Str} (hs : σ[i]? = some (some (.ref q))) (hN : X.N[i]? = some x := by rfl) (hv : Vis X.env.scope x := by first | exact Or.inl rfl | exact Or.inr (Or.inl rfl) | exact Or.inr (Or.inr rfl)) (hd : (x == ("__debug__" : Str)) = false := by decide)
    (hcd : (x == ("__classdict__" : Str)) = false := by decide) : EvR X σ F H (.Name x pos) q := fun F1 H1 w Q k => ⟨_, pe_var hN hv hd hcd, .ref q, hs, k F1 H1 (.refl w.fh)⟩
theorem s_append {o : Expr} {cpos apos : Pos} {q : Addr} {xs : List V} {d : α} (ho : EvR X σ F H o q) (h : Ev X σ F H e d) (fh : Same F H) (hq : H q = some (.lst xs)) (hl : xs.length < sizeLine)
    (k : ∀ v F' H', Wk F H F' H' → rep X.K F' v d → D.nx σ (upd H' q (.lst (xs ++ [v]))))
    (pe : PE X (.Call (.Attribute o "append" apos) [e] [] cpos) (tBM X.K "list" rAppend (EW X o) (tCons (EW X e) tNil)) := by exact pe_bm PySem.F.plainAttrs_list PySem.F.slot_list_append PySem.F.type_list_append mt_append ew_pe (pa_cons ew_pe pa_nil))
    (hs : swapsWith (.Call (.Attribute o "append" apos) [e] [] cpos) none pos.line X.env = pure false := by rfl) : SW X (.Expr (.Call (.Attribute o "append" apos) [e] [] cpos) pos) D σ H :=
  ⟨_, ps_expr pe hs, ho F H (.refl fh) _ fun F1 H1 w1 => ⟨.inl ⟨rfl, _, SqL.of (w1.hh _ _ hq)⟩, h F1 H1 w1 _ fun v F2 H2 w2 r => ⟨q, xs, v, rfl, rfl, w2.hh _ _ (w1.hh _ _ hq), hl, k v F2 H2 (w1.trans w2) r⟩⟩⟩
def rInsert : V → List V → Hp → VK → Prop := fun x vs H Q => ∃ (l : Addr) (xs : List V) (i : Int) (y : V), x = .ref l ∧ vs = [.int i, y] ∧ H l = some (.lst xs) ∧ xs.length < sizeLine ∧ 0 ≤ i ∧ i < 2 ^ 63 ∧ Q .non (upd H l (.lst (xs.take i.toNat ++ [y] ++ xs.drop i.toNat)))
theorem s_insert {o ei : Expr} {cpos apos : Pos} {q : Addr} {xs : List V} {d : α} {i : Int} (ho : EvR X σ F H o q) (hi : Ev X σ F H ei i) (h : Ev X σ F H e d) (fh : Same F H) (hq : H q = some (.lst xs)) (hl : xs.length < sizeLine) (hb : 0 ≤ i ∧ i < 2 ^ 63)
    (k : ∀ v F' H', Wk F H F' H' → rep X.K F' v d → D.nx σ (upd H' q (.lst (xs.take i.toNat ++ [v] ++ xs.drop i.toNat))))
    (pe : PE X (.Call (.Attribute o "insert" apos) [ei, e] [] cpos) (tBM X.K "list" rInsert (EW X o) (tCons (EW X ei) (tCons (EW X e) tNil))) := by exact pe_bm PySem.F.plainAttrs_list PySem.F.slot_list_insert PySem.F.type_list_insert mt_insert ew_pe (pa_cons ew_pe (pa_cons ew_pe pa_nil)))
    (hs : swapsWith (.Call (.Attribute o "insert" apos) [ei, e] [] cpos) none pos.line X.env = pure false := by rfl) : SW X (.Expr (.Call (.Attribute o "insert" apos) [ei, e] [] cpos) pos) D σ H := by
  exact ⟨_, ps_expr pe hs, ho F H (.refl fh) _ fun F1 H1 w1 => ⟨.inl ⟨rfl, _, SqL.of (w1.hh _ _ hq)⟩, hi F1 H1 w1 _ fun vi F2 H2 w2 ri => h F2 H2 (w1.trans w2) _ fun v F3 H3 w3 r =>
    ⟨q, xs, i, v, rfl, by rw [show vi = .int i from ri], w3.hh _ _ (w2.hh _ _ (w1.hh _ _ hq)), hl, hb.1, hb.2, k v F3 H3 ((w1.trans w2).trans w3) r⟩⟩⟩
def rPopAt' : V → List V → Hp → VK → Prop := rPopAt
theorem s_popAt {o ei : Expr} {cpos apos : Pos} {q : Addr} {xs : List V} {i : Int} (ho : EvR X σ F H o q) (hi : Ev X σ F H ei i) (fh : Same F H) (hq : H q = some (.lst xs)) (hl : xs.length ≤ 16777216) (hb : 0 ≤ i ∧ i < xs.length)
    (k : ∀ F' H', Wk F H F' H' → D.nx σ (upd H' q (.lst (xs.eraseIdx i.toNat))))
    (pe : PE X (.Call (.Attribute o "pop" apos) [ei] [] cpos) (tBM X.K "list" rPopAt (EW X o) (tCons (EW X ei) tNil)) := by exact pe_bm PySem.F.plainAttrs_list PySem.F.slot_list_pop PySem.F.type_list_pop mt_popAt ew_pe (pa_cons ew_pe pa_nil))
    (hs : swapsWith (.Call (.Attribute o "pop" apos) [ei] [] cpos) none pos.line X.env = pure false := by rfl) : SW X (.Expr (.Call (.Attribute o "pop" apos) [ei] [] cpos) pos) D σ H := by
  have hj : i.toNat < xs.length := by omega
  exact ⟨_, ps_expr pe hs, ho F H (.refl fh) _ fun F1 H1 w1 => ⟨.inl ⟨rfl, _, SqL.of (w1.hh _ _ hq)⟩, hi F1 H1 w1 _ fun vi F2 H2 w2 ri =>
    ⟨q, xs, i, i.toNat, xs[i.toNat], rfl, by rw [show vi = .int i from ri], w2.hh _ _ (w1.hh _ _ hq), by omega, by omega, by
      have e0 : ¬ i < 0 := by omega
      have e1 : (decide (0 ≤ i) && decide (i < (xs.length : Int))) = true := by simp [hb.1, hb.2]
      simp only [seqIndex?, if_neg e0]
      rw [if_pos e1], List.getElem?_eq_getElem hj, k F2 H2 (w1.trans w2)⟩⟩⟩
/-- a loop: r is what the whole def hands back -/
theorem s_for {S R : Type} {xs : List α} {tg iter : Expr} {body : List Stmt} {bodyM : α → S → (S → R) → R} {k : S → R} {s0 : S} {r : R} {g : TG} (B : Nat → S → L2.St → Hp → Hp → Prop)
    (hp : PassesOwn (model X.prog X.w) X.A X.env X.xe) (hc : X.calm = true) (it : EvI X σ F H iter xs) (fh : Same F H) (hg : PG X tg g)
    (h0 : ∀ F1 H1, Wk F H F1 H1 → B 0 s0 σ F1 H1) (hsame : ∀ i s σ F H, B i s σ F H → Same F H) (hr : r = forC bodyM xs s0 k)
    (turn : ∀ i x s σ' F' H' v K, xs[i]? = some x → B i s σ' F' H' → rep X.K F' v x → r = bodyM x s K →
      g v σ' H' fun σ2 H2 => BW X body { nx := fun σ3 H3 => ∃ s3 F3, Same F' F3 ∧ B (i + 1) s3 σ3 F3 H3 ∧ r = K s3, ct := fun σ3 H3 => ∃ s3 F3, Same F' F3 ∧ B (i + 1) s3 σ3 F3 H3 ∧ r = K s3, bk := D.nx, rt := D.rt } σ2 H2)
    (done : ∀ s σ' F' H', B xs.length s σ' F' H' → r = k s → D.nx σ' H')
    (hs : ∀ x, foldedSetIterable iter X.env x = pure x := by intro _; rfl) : SW X (.For tg iter body [] pos) D σ H := by
  refine ⟨_, ps_for hp hc iw_pi hg bw_pss hs, it F H (.refl fh) _ fun J F2 H2 w2 wk hz => ?_⟩
  refine ⟨fun n m σ' H' => m = xs.length - n ∧ n ≤ xs.length ∧ ∃ s F', Same F2 F' ∧ B n s σ' F' H' ∧ r = forC bodyM (xs.drop n) s k, ⟨xs.length, rfl, Nat.zero_le _, s0, F2, Same.refl _, h0 F2 H2 w2, hr⟩, ?_⟩
  rintro n m σ' H' ⟨rfl, hn, s, F', sf, hB, hr'⟩
  have sm : Same F2 H' := sf.trans (hsame _ _ _ _ _ hB)
  by_cases hlt : n < xs.length
  · refine .inr ⟨wk.go n H' hlt sm, fun σ3 H3 => ∃ s3 F3, Same F' F3 ∧ B (n + 1) s3 σ3 F3 H3 ∧ r = forC bodyM (xs.drop (n + 1)) s3 k, fun σ3 H3 ⟨s3, F3, h1, h2, h3⟩ => ⟨xs.length - (n + 1), by omega, rfl, hlt, s3, F3, sf.trans h1, h2, h3⟩, fun x H'' y => ?_⟩
    obtain ⟨e1, hx⟩ := wk.yld n H' x H'' sm y
    subst e1
    have hd : xs[n]? = some xs[n] := List.getElem?_eq_getElem hlt
    refine turn n xs[n] s σ' F' H'' x (fun s3 => forC bodyM (xs.drop (n + 1)) s3 k) hd hB (Rep.mono sf (hx _ hd)) ?_
    rw [hr', List.drop_eq_getElem_cons hlt]
    rfl
  · have e : n = xs.length := by omega
    subst e
    refine .inl ⟨wk.stop H' sm, done s σ' F' H' hB ?_⟩
    rw [hr', List.drop_length]
    rfl
/-- a list that was changed is handed back -/
theorem s_retV {q : Addr} (h : EvR X σ F H e q) (fh : Same F H) (k : ∀ F' H', Wk F H F' H' → D.rt (.ref q) H') : SW X (.Return (some e) pos) D σ H := ⟨_, ps_ret ew_pe, h F H (.refl fh) _ k⟩
end
/-! ### told for a while -/
class Flat (α : Type) [Rep α] : Prop where
  flat : ∀ {K : PySem.W.Frag} {F F' : Hp} {v : V} {d : α}, rep K F v d → rep K F' v d
instance : Flat Int := ⟨fun h => h⟩
instance : Flat Bool := ⟨fun h => h⟩
instance : Flat Str := ⟨fun h => h⟩
theorem Wk.tmp {F H F1 H1 : Hp} {p : Addr} {o : HO} (w : Wk F H F1 H1) (hF : F p = none) (hH : H p = some o) (hn : plainO o = true) : Wk (upd F p o) H (upd F1 p o) H1 :=
  ⟨fun b x e => by
    by_cases hb : b = p
    · subst hb
      rw [upd_same] at e ⊢
      exact e
    · rw [upd_ne hb] at e ⊢
      exact w.ff _ _ e, w.kp, fun b x e => by
    by_cases hb : b = p
    · subst hb
      rw [upd_same] at e
      cases e
      exact w.hh _ _ hH hn
    · rw [upd_ne hb] at e
      exact w.fh _ _ e, fun b x e => by
    by_cases hb : b = p
    · subst hb
      rw [upd_same] at e ⊢
      exact .inl e
    · rw [upd_ne hb] at e ⊢
      exact w.nw _ _ e⟩
theorem Wk.still {F H F1 H1 F2 H2 F3 : Hp} (w : Wk F H F1 H1) (s : Same F1 F3) (w2 : Wk F3 H1 F2 H2) : Wk F1 H1 F1 H2 := ⟨Same.refl _, w2.kp, (s.trans w2.ff).trans w2.fh, fun _ _ e => .inl e⟩
theorem Wk.offO {F H F1 H1 : Hp} {p : Addr} {o : HO} (w : Wk F H F1 H1) (hF : F p = none) (hH : H p = some o) (hn : plainO o = true) : Same F1 (upd F1 p o) := same_new (w.off hF hH (plainO_ntup hn))
section
variable {X : Cx} {σ : L2.St} {F H F' H' : Hp} {e : Expr} {α : Type} [Rep α] [Flat α] {p : Addr} {o : HO}
theorem ev_tmp {d : α} (hF : F p = none) (hH : H p = some o) (h : Ev X σ (upd F p o) H e d) (hn : plainO o = true := by rfl) : Ev X σ F H e d := fun F1 H1 w Q q =>
  h _ H1 (w.tmp hF hH hn) Q fun v F2 H2 w2 r => q v F1 H2 (w.still (w.offO hF hH hn) w2) (Flat.flat r)
theorem et_tmp {d : Bool} (hF : F p = none) (hH : H p = some o) (h : EvT X σ (upd F p o) H e d) (hn : plainO o = true := by rfl) : EvT X σ F H e d := fun F1 H1 w Q q =>
  h _ H1 (w.tmp hF hH hn) Q fun F2 H2 w2 => q F1 H2 (w.still (w.offO hF hH hn) w2)
theorem evn_tmp {ds : List α} (hF : F p = none) (hH : H p = some o) (h : EvN X σ (upd F p o) H e ds) (hn : plainO o = true := by rfl) : EvN X σ F H e ds := fun F1 H1 w Q q =>
  h _ H1 (w.tmp hF hH hn) Q fun q' xs F2 H2 w2 r h1 h2 h3 h4 => q q' xs F1 H2 (w.still (w.offO hF hH hn) w2) (r.imp fun _ _ => Flat.flat) (w.fh.free h2) h2 h3 h4
theorem rep_open {ds : List α} {xs : List V} {K : PySem.W.Frag} (hF : F p = none) (hl : xs.length ≤ sizeLine) (r : reps K F xs ds) : rep K (upd F p (.lst xs)) (.ref p) ds := ⟨p, xs, rfl, upd_same, hl, reps_mono (same_new hF) r⟩
end
theorem rep_openG {α : Type} [Rep α] {F : Hp} {p : Addr} {ds : List α} {xs : List V} {K : PySem.W.Frag} (hF : F p = none) (hl : xs.length ≤ sizeLine) (r : reps K F xs ds) : rep K (upd F p (.lst xs)) (.ref p) ds := ⟨p, xs, rfl, upd_same, hl, reps_mono (same_new hF) r⟩
theorem rep_eq {α : Type} [Rep α] {K : PySem.W.Frag} {F : Hp} {v : V} {d r : α} (h : rep K F v d) (e : r = d) : rep K F v r := by
  rw [e]
  exact h
theorem reps_eq {α : Type} [Rep α] {K : PySem.W.Frag} {F : Hp} {v : List V} {d r : List α} (h : reps K F v d) (e : r = d) : reps K F v r := by
  rw [e]
  exact h

/-! ### a def's promise, its call -/
def oF (K : PySem.W.Frag) {γ : Type} [Rep γ] (F H : Hp) (Q : VK) (_ : XK) (d : γ) : Prop := ∀ v F' H', Wk F H F' H' → rep K F' v d → Q v H'
def oN (K : PySem.W.Frag) {γ : Type} [Rep γ] (F H : Hp) (Q : VK) (_ : XK) (d : List γ) : Prop := ∀ p xs F' H', Wk F H F' H' → reps K F' xs d → F' p = none → H p = none → H' p = some (.lst xs) → xs.length ≤ sizeLine → Q (.ref p) H'
section
variable {α β γ δ ε ζ : Type} [Rep α] [Rep β] [Rep γ] [Rep δ] [Rep ε] [Rep ζ]
def sp1 (K : PySem.W.Frag) {ω : Type} (pre : α → Prop) (m : α → ω) (out : Hp → Hp → VK → XK → ω → Prop) : Sp := fun vs H Q E => ∃ F a va, vs = [va] ∧ Same F H ∧ rep K F va a ∧ pre a ∧ out F H Q E (m a)
def sp2 (K : PySem.W.Frag) {ω : Type} (pre : α → β → Prop) (m : α → β → ω) (out : Hp → Hp → VK → XK → ω → Prop) : Sp := fun vs H Q E => ∃ F a b va vb, vs = [va, vb] ∧ Same F H ∧ rep K F va a ∧ rep K F vb b ∧ pre a b ∧ out F H Q E (m a b)
def sp3 (K : PySem.W.Frag) {ω : Type} (pre : α → β → γ → Prop) (m : α → β → γ → ω) (out : Hp → Hp → VK → XK → ω → Prop) : Sp := fun vs H Q E => ∃ F a b c va vb vc, vs = [va, vb, vc] ∧ Same F H ∧ rep K F va a ∧ rep K F vb b ∧ rep K F vc c ∧ pre a b c ∧ out F H Q E (m a b c)
def sp4 (K : PySem.W.Frag) {ω : Type} (pre : α → β → γ → δ → Prop) (m : α → β → γ → δ → ω) (out : Hp → Hp → VK → XK → ω → Prop) : Sp := fun vs H Q E => ∃ F a b c d va vb vc vd, vs = [va, vb, vc, vd] ∧ Same F H ∧ rep K F va a ∧ rep K F vb b ∧ rep K F vc c ∧ rep K F vd d ∧ pre a b c d ∧ out F H Q E (m a b c d)
def sp5 (K : PySem.W.Frag) {ω : Type} (pre : α → β → γ → δ → ε → Prop) (m : α → β → γ → δ → ε → ω) (out : Hp → Hp → VK → XK → ω → Prop) : Sp := fun vs H Q E => ∃ F a b c d e va vb vc vd ve, vs = [va, vb, vc, vd, ve] ∧ Same F H ∧ rep K F va a ∧ rep K F vb b ∧ rep K F vc c ∧ rep K F vd d ∧ rep K F ve e ∧ pre a b c d e ∧ out F H Q E (m a b c d e)
end
/-- a def of the text that keeps its promise -/
def Cal (P : Program) (w : World) (K : PySem.W.Frag) (mg : Str → Option Value) (base : Heap) (CX : CXT) (k : Nat) (x : Str) (ps : List Str) (sp : Sp) : Prop :=
  ∃ f fd, mg x = some (.ref f) ∧ PySem.W.keepIn K (.ref f) = true ∧ Binds K fd ps [] ∧ FnOk P w K mg base CX k f fd ps sp
theorem passX {X : Cx} : Passes (L2.CX X.prog X.w) X E0 := passL
section
variable {X : Cx} {σ : L2.St} {F H F' H' : Hp} {a b c d e x1 x2 : Expr} {pos p : Pos} {α β γ δ ε : Type} [Rep α] [Rep β] [Rep γ] [Rep δ] [Rep ε] {CX : CXT} {k : Nat} {x : Str} {ps : List Str}
theorem ew_call {es : List Expr} {P : Hp → List V → Prop} {sp : Sp} {E : XK} (C : Cal X.prog X.w X.K X.mg X.base CX k x ps sp) (hx : Passes CX X E) (hr : Room k X.A) (ha : EvA X σ F H (e :: es) P) {F1 H1 : Hp} (w : Wk F H F1 H1) (Q : VK)
    (hs : ∀ vs F2 H2, Wk F1 H1 F2 H2 → P F2 vs → sp vs H2 Q E)
    (hg : Gl X x := by rfl) (hdb : (x == ("__debug__" : Str)) = false := by decide) (he : starEach (e :: es) X.env = (false, eval e X.env) :: starEach es X.env := by rfl) (hpl : (backTo pos (starEach es X.env)).any (·.1) = false := by rfl) : EW X (.Call (.Name x p) (e :: es) [] pos) σ H1 Q := by
  obtain ⟨f, fd, hm, hk, hb, Fn⟩ := C
  refine ⟨_, pe_call Fn hr hg hm hk hb .nil hx aw_pa hdb he hpl, ?_⟩
  refine ha F1 H1 w _ fun vs F2 H2 w2 r => ?_
  rw [List.append_nil]
  exact hs vs F2 H2 w2 r
section
variable {ω : Type} [Rep ω] (hx : Passes CX X E0) (hr : Room k X.A)
include hx hr
theorem ev_call1 {pre : α → Prop} {m : α → ω} {u : α} (C : Cal X.prog X.w X.K X.mg X.base CX k x ps (sp1 X.K pre m (oF X.K))) (h1 : Ev X σ F H a u) (hp : pre u) (hg : Gl X x := by rfl) (hdb : (x == ("__debug__" : Str)) = false := by decide) (he : starEach [a] X.env = (false, eval a X.env) :: starEach [] X.env := by rfl) (hpl : (backTo pos (starEach [] X.env)).any (·.1) = false := by rfl) :
    Ev X σ F H (.Call (.Name x p) [a] [] pos) (m u) := fun F1 H1 w Q q => ew_call C hx hr (ea1 h1 he) w Q (fun vs F2 H2 w2 ⟨v, e, r⟩ => ⟨F2, u, v, e, w2.fh, r, hp, fun v F3 H3 w3 r3 => q v F3 H3 (w2.trans w3) r3⟩) hg hdb he hpl
theorem evn_call1 {pre : α → Prop} {m : α → List ω} {u : α} (C : Cal X.prog X.w X.K X.mg X.base CX k x ps (sp1 X.K pre m (oN X.K))) (h1 : Ev X σ F H a u) (hp : pre u) (hg : Gl X x := by rfl) (hdb : (x == ("__debug__" : Str)) = false := by decide) (he : starEach [a] X.env = (false, eval a X.env) :: starEach [] X.env := by rfl) (hpl : (backTo pos (starEach [] X.env)).any (·.1) = false := by rfl) :
    EvN X σ F H (.Call (.Name x p) [a] [] pos) (m u) := fun F1 H1 w Q q => ew_call C hx hr (ea1 h1 he) w Q (fun vs F2 H2 w2 ⟨v, e, r⟩ => ⟨F2, u, v, e, w2.fh, r, hp, fun p xs F3 H3 w3 r3 g1 g2 g3 g4 => q p xs F3 H3 (w2.trans w3) r3 g1 (w2.hfree g2) g3 g4⟩) hg hdb he hpl
theorem ev_call2 {pre : α → β → Prop} {m : α → β → ω} {u : α} {v : β} (C : Cal X.prog X.w X.K X.mg X.base CX k x ps (sp2 X.K pre m (oF X.K))) (h1 : Ev X σ F H a u) (h2 : Ev X σ F H b v) (hp : pre u v) (hg : Gl X x := by rfl) (hdb : (x == ("__debug__" : Str)) = false := by decide) (he : starEach [a, b] X.env = (false, eval a X.env) :: starEach [b] X.env := by rfl) (he2 : starEach [b] X.env = (false, eval b X.env) :: starEach [] X.env := by rfl) (hpl : (backTo pos (starEach [b] X.env)).any (·.1) = false := by rfl) :
    Ev X σ F H (.Call (.Name x p) [a, b] [] pos) (m u v) := fun F1 H1 w Q q => ew_call C hx hr (ea2 h1 h2 he he2) w Q (fun vs F2 H2 w2 ⟨v1, v2, e, r1, r2⟩ => ⟨F2, u, v, v1, v2, e, w2.fh, r1, r2, hp, fun v F3 H3 w3 r3 => q v F3 H3 (w2.trans w3) r3⟩) hg hdb he hpl
theorem evn_call2 {pre : α → β → Prop} {m : α → β → List ω} {u : α} {v : β} (C : Cal X.prog X.w X.K X.mg X.base CX k x ps (sp2 X.K pre m (oN X.K))) (h1 : Ev X σ F H a u) (h2 : Ev X σ F H b v) (hp : pre u v) (hg : Gl X x := by rfl) (hdb : (x == ("__debug__" : Str)) = false := by decide) (he : starEach [a, b] X.env = (false, eval a X.env) :: starEach [b] X.env := by rfl) (he2 : starEach [b] X.env = (false, eval b X.env) :: starEach [] X.env := by rfl) (hpl : (backTo pos (starEach [b] X.env)).any (·.1) = false := by rfl) :
    EvN X σ F H (.Call (.Name x p) [a, b] [] pos) (m u v) := fun F1 H1 w Q q => ew_call C hx hr (ea2 h1 h2 he he2) w Q (fun vs F2 H2 w2 ⟨v1, v2, e, r1, r2⟩ => ⟨F2, u, v, v1, v2, e, w2.fh, r1, r2, hp, fun p xs F3 H3 w3 r3 g1 g2 g3 g4 => q p xs F3 H3 (w2.trans w3) r3 g1 (w2.hfree g2) g3 g4⟩) hg hdb he hpl
theorem ev_call3 {pre : α → β → γ → Prop} {m : α → β → γ → ω} {u : α} {v : β} {z : γ} (C : Cal X.prog X.w X.K X.mg X.base CX k x ps (sp3 X.K pre m (oF X.K))) (h1 : Ev X σ F H a u) (h2 : Ev X σ F H b v) (h3 : Ev X σ F H c z) (hp : pre u v z) (hg : Gl X x := by rfl) (hdb : (x == ("__debug__" : Str)) = false := by decide) (he : starEach [a, b, c] X.env = (false, eval a X.env) :: starEach [b, c] X.env := by rfl) (he2 : starEach [b, c] X.env = (false, eval b X.env) :: starEach [c] X.env := by rfl) (he3 : starEach [c] X.env = (false, eval c X.env) :: starEach [] X.env := by rfl) (hpl : (backTo pos (starEach [b, c] X.env)).any (·.1) = false := by rfl) :
    Ev X σ F H (.Call (.Name x p) [a, b, c] [] pos) (m u v z) := fun F1 H1 w Q q => ew_call C hx hr (ea_cons h1 (ea2 h2 h3 he2 he3) he) w Q (fun vs F2 H2 w2 ⟨v1, us, e, r1, v2, v3, e2, r2, r3⟩ => ⟨F2, u, v, z, v1, v2, v3, by rw [e, e2], w2.fh, r1, r2, r3, hp, fun v F3 H3 w3 r3 => q v F3 H3 (w2.trans w3) r3⟩) hg hdb he hpl
theorem evn_call3 {pre : α → β → γ → Prop} {m : α → β → γ → List ω} {u : α} {v : β} {z : γ} (C : Cal X.prog X.w X.K X.mg X.base CX k x ps (sp3 X.K pre m (oN X.K))) (h1 : Ev X σ F H a u) (h2 : Ev X σ F H b v) (h3 : Ev X σ F H c z) (hp : pre u v z) (hg : Gl X x := by rfl) (hdb : (x == ("__debug__" : Str)) = false := by decide) (he : starEach [a, b, c] X.env = (false, eval a X.env) :: starEach [b, c] X.env := by rfl) (he2 : starEach [b, c] X.env = (false, eval b X.env) :: starEach [c] X.env := by rfl) (he3 : starEach [c] X.env = (false, eval c X.env) :: starEach [] X.env := by rfl) (hpl : (backTo pos (starEach [b, c] X.env)).any (·.1) = false := by rfl) :
    EvN X σ F H (.Call (.Name x p) [a, b, c] [] pos) (m u v z) := fun F1 H1 w Q q => ew_call C hx hr (ea_cons h1 (ea2 h2 h3 he2 he3) he) w Q (fun vs F2 H2 w2 ⟨v1, us, e, r1, v2, v3, e2, r2, r3⟩ => ⟨F2, u, v, z, v1, v2, v3, by rw [e, e2], w2.fh, r1, r2, r3, hp, fun p xs F3 H3 w3 r3 g1 g2 g3 g4 => q p xs F3 H3 (w2.trans w3) r3 g1 (w2.hfree g2) g3 g4⟩) hg hdb he hpl
theorem ev_call4 {pre : α → β → γ → δ → Prop} {m : α → β → γ → δ → ω} {u : α} {v : β} {z : γ} {y : δ} (C : Cal X.prog X.w X.K X.mg X.base CX k x ps (sp4 X.K pre m (oF X.K))) (h1 : Ev X σ F H a u) (h2 : Ev X σ F H b v) (h3 : Ev X σ F H c z) (h4 : Ev X σ F H d y) (hp : pre u v z y) (hg : Gl X x := by rfl) (hdb : (x == ("__debug__" : Str)) = false := by decide) (he : starEach [a, b, c, d] X.env = (false, eval a X.env) :: starEach [b, c, d] X.env := by rfl) (he2 : starEach [b, c, d] X.env = (false, eval b X.env) :: starEach [c, d] X.env := by rfl) (he3 : starEach [c, d] X.env = (false, eval c X.env) :: starEach [d] X.env := by rfl) (he4 : starEach [d] X.env = (false, eval d X.env) :: starEach [] X.env := by rfl) (hpl : (backTo pos (starEach [b, c, d] X.env)).any (·.1) = false := by rfl) :
    Ev X σ F H (.Call (.Name x p) [a, b, c, d] [] pos) (m u v z y) := fun F1 H1 w Q q => ew_call C hx hr (ea_cons h1 (ea_cons h2 (ea2 h3 h4 he3 he4) he2) he) w Q (fun vs F2 H2 w2 ⟨v1, us, e, r1, v2, us2, e2, r2, v3, v4, e3, r3, r4⟩ => ⟨F2, u, v, z, y, v1, v2, v3, v4, by rw [e, e2, e3], w2.fh, r1, r2, r3, r4, hp, fun v F3 H3 w3 r3 => q v F3 H3 (w2.trans w3) r3⟩) hg hdb he hpl
theorem ev_call5 {pre : α → β → γ → δ → ε → Prop} {m : α → β → γ → δ → ε → ω} {u : α} {v : β} {z : γ} {y : δ} {t : ε} (C : Cal X.prog X.w X.K X.mg X.base CX k x ps (sp5 X.K pre m (oF X.K))) (h1 : Ev X σ F H a u) (h2 : Ev X σ F H b v) (h3 : Ev X σ F H c z) (h4 : Ev X σ F H d y) (h5 : Ev X σ F H x1 t) (hp : pre u v z y t) (hg : Gl X x := by rfl) (hdb : (x == ("__debug__" : Str)) = false := by decide) (he : starEach [a, b, c, d, x1] X.env = (false, eval a X.env) :: starEach [b, c, d, x1] X.env := by rfl) (he2 : starEach [b, c, d, x1] X.env = (false, eval b X.env) :: starEach [c, d, x1] X.env := by rfl) (he3 : starEach [c, d, x1] X.env = (false, eval c X.env) :: starEach [d, x1] X.env := by rfl) (he4 : starEach [d, x1] X.env = (false, eval d X.env) :: starEach [x1] X.env := by rfl) (he5 : starEach [x1] X.env = (false, eval x1 X.env) :: starEach [] X.env := by rfl) (hpl : (backTo pos (starEach [b, c, d, x1] X.env)).any (·.1) = false := by rfl) :
    Ev X σ F H (.Call (.Name x p) [a, b, c, d, x1] [] pos) (m u v z y t) := fun F1 H1 w Q q => ew_call C hx hr (ea_cons h1 (ea_cons h2 (ea_cons h3 (ea2 h4 h5 he4 he5) he3) he2) he) w Q (fun vs F2 H2 w2 ⟨v1, us, e, r1, v2, us2, e2, r2, v3, us3, e3, r3, v4, v5, e4, r4, r5⟩ => ⟨F2, u, v, z, y, t, v1, v2, v3, v4, v5, by rw [e, e2, e3, e4], w2.fh, r1, r2, r3, r4, r5, hp, fun v F3 H3 w3 r3 => q v F3 H3 (w2.trans w3) r3⟩) hg hdb he hpl
end
end
/-- the built-ins stand -/
structure Bt (mg : Str → Option Value) : Prop where
  len : mg "len" = none
  range : mg "range" = none
  sorted : mg "sorted" = none
  list : mg "list" = none
  tuple : mg "tuple" = none
  max : mg "max" = none
  min : mg "min" = none
  sum : mg "sum" = none
  any : mg "any" = none
  all : mg "all" = none
  int : mg "int" = none
  bool : mg "bool" = none
  str : mg "str" = none
  isi : mg "isinstance" = none
theorem hu64 {A : Around} {k : Nat} (hr : Room k A) : A.units + 64 < cLine := hr.units
theorem hu65 {A : Around} {k : Nat} (hr : Room k A) : A.units + 65 < cLine := by have := hr.un; omega
end MP
namespace MP
open PySem PySem.Spec PyProof.Rows L2 Rep
def joinC {S R : Type} (f : S → R) (g : (S → R) → R) : R := g f
def insAt {α : Type} (xs : List α) (i : Int) (x : α) : List α := xs.take i.toNat ++ [x] ++ xs.drop i.toNat
theorem ins_len {xs : List V} {v : V} {n : Nat} (h : xs.length < sizeLine) : (xs.take n ++ [v] ++ xs.drop n).length ≤ sizeLine := by
  rw [List.length_append, List.length_append, List.length_take, List.length_drop, List.length_singleton]
  omega
theorem A2.erase {α : Type} {R : V → α → Prop} {xs : List V} {ds : List α} (h : A2 R xs ds) : ∀ n, A2 R (xs.eraseIdx n) (ds.eraseIdx n) := by
  induction h with
  | nil => intro n; exact .nil
  | cons r t ih =>
    intro n
    cases n with
    | zero => exact t
    | succ n => exact .cons r (ih n)
theorem off_new {F : Hp} {p q : Addr} {o : HO} (h : p ≠ q) (hF : F p = none) : upd F q o p = none := by
  rw [upd_ne h]
  exact hF
section
variable {X : Cx} {σ : L2.St} {F H F' H' : Hp} {a b c e : Expr} {pos p : Pos} {α β γ δ : Type} [Rep α] [Rep β] [Rep γ] [Rep δ] {D : Ends}
theorem s_join {S R : Type} {t u : List Stmt} {z : Bool} {r : R} {f : S → R} {g : (S → R) → R} (J : S → L2.St → Hp → Hp → Prop) (h : EvT X σ F H e z) (fh : Same F H) (hr : r = joinC f g)
    (h1 : z = true → ∀ F1 H1, Wk F H F1 H1 → ∀ kk : S → R, r = g kk → BW X t { D with nx := fun σ2 H2 => ∃ s F2, J s σ2 F2 H2 ∧ r = kk s } σ H1)
    (h2 : z = false → ∀ F1 H1, Wk F H F1 H1 → ∀ kk : S → R, r = g kk → BW X u { D with nx := fun σ2 H2 => ∃ s F2, J s σ2 F2 H2 ∧ r = kk s } σ H1)
    (k : ∀ s σ2 F2 H2, J s σ2 F2 H2 → r = f s → D.nx σ2 H2) : SW X (.If e t u pos) D σ H := by
  have up : ∀ {ts : List Stmt} {H1 : Hp}, BW X ts { D with nx := fun σ2 H2 => ∃ s F2, J s σ2 F2 H2 ∧ r = f s } σ H1 → BW X ts D σ H1 := by
    intro ts H1 ⟨T, p, hT⟩
    refine ⟨fun D' σ' H' => T { D' with nx := fun σ2 H2 => ∃ s F2, J s σ2 F2 H2 ∧ r = f s } σ' H' ∧ (∀ s σ2 F2 H2, J s σ2 F2 H2 → r = f s → D'.nx σ2 H2), ⟨fun pins s σ' H' D' I hh => ?_⟩, hT, k⟩
    refine thn (p.run pins s σ' H' _ I hh.1) fun fl s1 q => ?_
    cases fl with
    | next =>
      obtain ⟨σ2, H2, I2, st, F2, hJ, er⟩ := q
      exact ⟨σ2, H2, I2, hh.2 st σ2 F2 H2 hJ er⟩
    | ret v => exact q
    | brk => exact q
    | cont => exact q
  exact s_if h fh (fun hz F1 H1 w => up (h1 hz F1 H1 w f hr)) (fun hz F1 H1 w => up (h2 hz F1 H1 w f hr))
/-- name = [..] -/
theorem s_asgC (i : Nat) {x : Str} {pos' : Pos} {d : List α} (hN : X.N.Nodup) (h : EvC X σ F H e d) (fh : Same F H) (k : ∀ p xs F2 H2, Wk F H F2 H2 → reps X.K F2 xs d → F2 p = none → H p = none → H2 p = some (.lst xs) → xs.length ≤ sizeLine → D.nx (σ.set i (some (.ref p))) H2) (hc : X.calm = true := by rfl) (hi : X.N[i]? = some x := by rfl) (hx : L2.Loc X.env.scope x := by first | exact Or.inl rfl | exact Or.inr rfl)
    (hs : (swapsWith e (some (.Name x pos')) pos.line X.env = pure true ∧ X.env.scope.names.lookup x = some .local) ∨ swapsWith e (some (.Name x pos')) pos.line X.env = pure false := by first | exact .inl ⟨sw_true rfl rfl rfl (by decide +kernel), rfl⟩ | exact .inr rfl) (hf : X.fn x = true ∨ X.env.scope.names.lookup x = some .local := by first | exact .inl rfl | exact .inr rfl) : SW X (.Assign [.Name x pos'] e pos) D σ H := by
  obtain ⟨elt, tg, iter, ifs, scope, pos2, own, wi, g, tt, te, rfl, h1, h2, h3, h4, h5, h6, h7⟩ := h
  rcases hs with ⟨hs, hl⟩ | hs
  · exact ⟨_, ps_setLc hc hN hi hl hs h1 h2 h3 h4 h5 h6, h7 F H (.refl fh) _ k⟩
  · exact ⟨_, ps_set hN hi hx (pe_lc hc hN h1 h2 h3 h4 h5 h6) hs hf, h7 F H (.refl fh) _ k⟩
theorem s_asgCv (i : Nat) {x : Str} {pos' : Pos} {d : List α} (hN : X.N.Nodup) (h : EvC X σ F H e d) (fh : Same F H) (k : ∀ v F' H', Wk F H F' H' → rep X.K F' v d → D.nx (σ.set i (some v)) H') (hc : X.calm = true := by rfl) (hi : X.N[i]? = some x := by rfl) (hx : L2.Loc X.env.scope x := by first | exact Or.inl rfl | exact Or.inr rfl)
    (hs : (swapsWith e (some (.Name x pos')) pos.line X.env = pure true ∧ X.env.scope.names.lookup x = some .local) ∨ swapsWith e (some (.Name x pos')) pos.line X.env = pure false := by first | exact .inl ⟨sw_true rfl rfl rfl (by decide +kernel), rfl⟩ | exact .inr rfl) (hf : X.fn x = true ∨ X.env.scope.names.lookup x = some .local := by first | exact .inl rfl | exact .inr rfl) : SW X (.Assign [.Name x pos'] e pos) D σ H :=
  s_asgC i hN h fh (fun p xs F2 H2 w2 r h1 h2 h3 h4 => k (.ref p) (upd F2 p (.lst xs)) H2 (w2.tell h2 h1 h3) ⟨p, xs, rfl, upd_same, h4, reps_mono (same_new h1) r⟩) hc hi hx hs hf
/-- a, b = an item -/
theorem g_pair {i j : Nat} {x : α × β} {v : V} {Q : L2.St → Hp → Prop} (r : rep X.K F v x) (fh : Same F H) (k : ∀ va vb, rep X.K F va x.1 → rep X.K F vb x.2 → Q ((σ.set i (some va)).set j (some vb)) H) : gTup X.K 2 (gCons (gName i) (gCons (gName j) gNil)) v σ H Q := by
  obtain ⟨a, v1, v2, rfl, h1, r1, r2⟩ := r
  exact ⟨a, _, rfl, SqT.of (fh _ _ h1), rfl, v1, [v2], rfl, v2, [], rfl, rfl, k v1 v2 r1 r2⟩
theorem et_lst {xs : List α} (h : Ev X σ F H e xs) (he : ∀ whole, isTrue e X.env whole = (do let v ← whole; standAt e.pos; holding [v] (truthy v)) := by intro _; rfl) : EvT X σ F H e (!xs.isEmpty) := fun F1 H1 w Q q =>
  ⟨_, pt_truth ew_pe he, h F1 H1 w _ fun v F2 H2 w2 r => by
    obtain ⟨a, us, rfl, h1, l, r1⟩ := r
    refine ⟨!us.isEmpty, .inl ⟨us, SqL.of (w2.fh _ _ h1), rfl⟩, ?_⟩
    have : us.isEmpty = xs.isEmpty := by
      cases r1 with
      | nil => rfl
      | cons _ _ => rfl
    rw [this]
    exact q F2 H2 w2⟩
theorem rr_isN {d : Option α} (hn : ∀ F v d, rep X.K F v (d : α) → v ≠ .non) : RR X (fun x y H Q => y = .non ∧ Q (.bl (decide (x = .non))) H) d () d.isNone := fun vx vy F1 H1 s rx ry Q q => by
  refine ⟨ry, q _ F1 H1 (.refl s) ?_⟩
  cases d with
  | none =>
    obtain rfl : vx = .non := rx
    rfl
  | some d =>
    have := hn F1 vx d rx
    show V.bl _ = V.bl _
    simp [this]
theorem rr_notN {d : Option α} (hn : ∀ F v d, rep X.K F v (d : α) → v ≠ .non) : RR X (fun x y H Q => y = .non ∧ Q (.bl (!decide (x = .non))) H) d () (!d.isNone) := fun vx vy F1 H1 s rx ry Q q => by
  refine ⟨ry, q _ F1 H1 (.refl s) ?_⟩
  cases d with
  | none =>
    obtain rfl : vx = .non := rx
    rfl
  | some d =>
    have := hn F1 vx d rx
    show V.bl _ = V.bl _
    simp [this]
theorem ev_non_ {j} : Ev X σ F H (.Constant .none j pos) () := fun F1 H1 w Q q => ⟨_, pe_non, q _ F1 H1 (.refl w.fh) rfl⟩
theorem nn_list {K : PySem.W.Frag} {F : Hp} {v : V} {d : List α} (h : rep K F v d) : v ≠ .non := by
  obtain ⟨a, xs, rfl, _⟩ := h
  intro h
  cases h
theorem nn_pair {K : PySem.W.Frag} {F : Hp} {v : V} {d : α × β} (h : rep K F v d) : v ≠ .non := by
  obtain ⟨a, x, y, rfl, _⟩ := h
  intro h
  cases h
theorem nn_tri {K : PySem.W.Frag} {F : Hp} {v : V} {d : Tri α β γ} (h : rep K F v d) : v ≠ .non := by
  obtain ⟨a, x, y, z, rfl, _⟩ := h
  intro h
  cases h
theorem ty_int {K : PySem.W.Frag} {x : Int} : ∀ v F1 H1, Same F1 H1 → rep K F1 v x → TyX K H1 v (.type "int") := fun v F1 H1 s r => by
  obtain rfl : v = .int x := r
  exact .base (.int x)
theorem ty_bool {K : PySem.W.Frag} {x : Bool} : ∀ v F1 H1, Same F1 H1 → rep K F1 v x → TyX K H1 v (.type "bool") := fun v F1 H1 s r => by
  obtain rfl : v = .bl x := r
  exact .base (.bl x)
theorem ty_list {K : PySem.W.Frag} {x : List α} : ∀ v F1 H1, Same F1 H1 → rep K F1 v x → TyX K H1 v (.type "list") := fun v F1 H1 s r => by
  obtain ⟨a, xs, rfl, h1, _⟩ := r
  exact .base (.lst (s _ _ h1))
end
end MP
namespace MP
open PySem PySem.Spec PyProof.Rows L2 Rep
/-! ### the choices that are known: a dict with tuples as keys -/
structure Known where
  ks : List (List Int)
def keyL (k : List Int) : List Key := k.map Sum.inl
theorem keyL_inj {a b : List Int} (h : keyL a = keyL b) : a = b := by
  have e : (keyL a).map (fun k : Key => match k with | .inl i => i | .inr _ => 0) = (keyL b).map (fun k : Key => match k with | .inl i => i | .inr _ => 0) := by rw [h]
  unfold keyL at e
  rw [List.map_map, List.map_map] at e
  have i1 : ∀ xs : List Int, xs.map ((fun k : Key => match k with | .inl i => i | .inr _ => 0) ∘ Sum.inl) = xs := fun xs => by
    induction xs with
    | nil => rfl
    | cons x xs ih => rw [List.map_cons, ih]; rfl
  rw [i1, i1] at e
  exact e
theorem keyL_V (k : List Int) : (keyL k).map kV = k.map V.int := by
  unfold keyL
  rw [List.map_map]
  rfl
theorem addK_all {ks : List (List Int)} {k : List Int} {n : Nat} (h : ∀ k ∈ ks, k.length ≤ n) (hk : k.length ≤ n) : ∀ c ∈ (if inB k ks = true then ks else ks ++ [k]), c.length ≤ n := by
  split
  · exact h
  · intro c hc
    rcases List.mem_append.mp hc with q | q
    · exact h c q
    · rw [List.mem_singleton.mp q]
      exact hk
def KvOf (kvs : List (List Key × V)) (ks : List (List Int)) : Prop := kvs.map (·.1) = ks.map keyL
instance : Rep Known := ⟨fun K F v d => ∃ a kvs, v = .ref a ∧ F a = some (.dT kvs) ∧ KvOf kvs d.ks ∧ kvs.length ≤ sizeLine ∧ ∀ k ∈ d.ks, k.length ≤ sizeLine, fun h r => by
  obtain ⟨a, kvs, e, f, k, l⟩ := r
  exact ⟨a, kvs, e, h _ _ f, k, l⟩⟩
theorem val_known : ∀ {kvs : List (List Key × V)} {ks : List (List Int)} (k : List Int), KvOf kvs ks → (valV kvs (keyL k)).isSome = inB k ks
  | [], [], _, _ => by simp [valV, inB]
  | [], _ :: _, _, h => by simp [KvOf] at h
  | _ :: _, [], _, h => by simp [KvOf] at h
  | p :: kvs, q :: ks, k, h => by
    unfold KvOf at h
    rw [List.map_cons, List.map_cons, List.cons.injEq] at h
    by_cases e : p.1 = keyL k
    · rw [valV_pos e]
      have : q = k := keyL_inj (h.1.symm.trans e)
      simp [this, inB]
    · rw [valV_neg e, val_known k h.2]
      have : ¬ k = q := fun z => e (h.1.trans (by rw [z]))
      simp [this, inB]
/-- one more key -/
def addK (ks : List (List Int)) (k : List Int) : List (List Int) := if inB k ks = true then ks else ks ++ [k]
theorem put_known {kvs : List (List Key × V)} {ks : List (List Int)} (k : List Int) (v : V) (h : KvOf kvs ks) : KvOf (putK kvs (keyL k) v) (addK ks k) := by
  unfold addK
  have e := val_known k h
  by_cases hk : k ∈ ks
  · rw [if_pos (show inB k ks = true by rw [inB_t]; exact hk)]
    rw [show inB k ks = true by rw [inB_t]; exact hk] at e
    unfold putK
    rw [if_pos (by rw [valV_any]; exact e)]
    unfold KvOf
    rw [List.map_map, ← h]
    refine List.map_congr_left fun p _ => ?_
    show (if p.1 = keyL k then (p.1, v) else p).1 = p.1
    split <;> rfl
  · rw [if_neg (show ¬ inB k ks = true by rw [inB_t]; exact hk)]
    rw [show inB k ks = false by rw [inB_f]; exact hk] at e
    have en : valV kvs (keyL k) = none := by
      cases q : valV kvs (keyL k) with
      | none => rfl
      | some u => rw [q] at e; cases e
    rw [putK_new v en]
    unfold KvOf
    rw [List.map_append, List.map_append, h]
    rfl
/-- a tuple of numbers -/
structure Tup where
  ns : List Int
  deriving DecidableEq
instance : Rep Tup := ⟨fun K F v d => ∃ a, v = .ref a ∧ F a = some (.tup (d.ns.map V.int)) ∧ d.ns.length ≤ sizeLine, fun h r => by
  obtain ⟨a, e, f, l⟩ := r
  exact ⟨a, e, h _ _ f, l⟩⟩
section
variable {X : Cx} {σ : L2.St} {F H F' H' : Hp} {a b c e : Expr} {pos p : Pos} {α β γ δ : Type} [Rep α] [Rep β] [Rep γ] [Rep δ] {D : Ends}
theorem ev_tuple {xs : List Int} (hm : X.mg "tuple" = none) (ha : Ev X σ F H a xs) (hg : Gl X "tuple" := by rfl) (hs : starEach [a] X.env = (false, eval a X.env) :: starEach [] X.env := by rfl) (hpl : (backTo pos (starEach [] X.env)).any (·.1) = false := by rfl) : Ev X σ F H (.Call (.Name "tuple" p) [a] [] pos) (Tup.mk xs) :=
  ev_callTy call_tuple_of hm (by decide +kernel) (ea1 ha hs) (fun vs F1 H1 s ⟨v, e, r⟩ Q q => by
    obtain ⟨l, us, rfl, h1, l1, r1⟩ := r
    have e1 := reps_int r1
    subst e1
    exact ⟨l, _, e, .inl ⟨SqL.of (s _ _ h1), fun p hn => q (.ref p) (upd F1 p (.tup (xs.map V.int))) _ (.alloc s hn) ⟨p, rfl, upd_same, by rw [List.length_map] at l1; exact l1⟩⟩⟩) hg (by decide) (by decide) hs hpl
theorem evn_listT {xs : Tup} (hm : X.mg "list" = none) (ha : Ev X σ F H a xs) (hg : Gl X "list" := by rfl) (hs : starEach [a] X.env = (false, eval a X.env) :: starEach [] X.env := by rfl) (hpl : (backTo pos (starEach [] X.env)).any (·.1) = false := by rfl) : EvN X σ F H (.Call (.Name "list" p) [a] [] pos) xs.ns :=
  evn_callTy call_list_of hm (by decide +kernel) (ea1 ha hs) (fun vs F1 H1 s ⟨v, e, r⟩ Q q => by
    obtain ⟨l, rfl, h1, l1⟩ := r
    exact ⟨l, _, e, .inr (SqT.of (s _ _ h1)), fun p hn => q p _ F1 _ (.lay s hn) (reps_of_int _) (s.free hn) hn upd_same (by rw [List.length_map]; exact l1)⟩) hg (by decide) (by decide) hs hpl
theorem et_known {p2 : Pos} {xs : List Int} {kn : Known} (hu : X.A.units + 1 < cLine) (hm : X.mg "tuple" = none) (ha : Ev X σ F H a xs) (hb : Ev X σ F H b kn) (hg : Gl X "tuple" := by rfl) (hs : starEach [a] X.env = (false, eval a X.env) :: starEach [] X.env := by rfl) (hpl : (backTo p (starEach [] X.env)).any (·.1) = false := by rfl)
    (hbm : behindInMarks .In b = false := by rfl) : EvT X σ F H (.Compare (.Call (.Name "tuple" p2) [a] [] p) [.In] [b] pos) (inB xs kn.ks) := fun F1 H1 w Q q =>
  ⟨_, pt_cmp (pc_din hu ew_pe ew_pe) hbm, ev_tuple hm ha hg hs hpl F1 H1 w _ fun vt F2 H2 w2 rt => hb F2 H2 (w.trans w2) _ fun vb F3 H3 w3 rb => by
    obtain ⟨t, rfl, h1, l1⟩ := rt
    obtain ⟨d, kvs, rfl, h2, hk, l2, _⟩ := rb
    refine ⟨d, _, rfl, DGet.t (k := keyL xs) (w3.fh _ _ h2) (by rw [keyL_V]; exact w3.fh _ _ (w3.ff _ _ h1)), _, rfl, ?_⟩
    rw [val_known xs hk]
    exact q F3 H3 (w2.trans w3)⟩
/-- {} to be filled -/
theorem s_dnew (i : Nat) {x : Str} {pos' : Pos} (hN : X.N.Nodup) (fh : Same F H) (k : ∀ d, H d = none → D.nx (σ.set i (some (.ref d))) (upd H d (.dT []))) (hi : X.N[i]? = some x := by rfl) (hx : L2.Loc X.env.scope x := by first | exact Or.inl rfl | exact Or.inr rfl)
    (hs : swapsWith (.Dict [] [] p) (some (.Name x pos')) pos.line X.env = pure false := by rfl) (hf : X.fn x = true ∨ X.env.scope.names.lookup x = some .local := by first | exact .inl rfl | exact .inr rfl) : SW X (.Assign [.Name x pos'] (.Dict [] [] p) pos) D σ H :=
  ⟨_, ps_set hN hi hx pe_dnewT hs hf, k⟩
/-- known[tuple(choice)] = True -/
theorem s_dput {o : Expr} {d : Addr} {kvs : List (List Key × V)} {xs : List Int} {p1 p2 p3 p4 : Pos} {kk} (hu : X.A.units + 1 < cLine) (hm : X.mg "tuple" = none) (ho : EvR X σ F H o d) (ha : Ev X σ F H a xs) (fh : Same F H) (hd : H d = some (.dT kvs)) (hl : kvs.length < sizeLine)
    (k : ∀ F' H', Wk F H F' H' → D.nx σ (upd H' d (.dT (putK kvs (keyL xs) (.bl true))))) (hg : Gl X "tuple" := by rfl) (hsa : starEach [a] X.env = (false, eval a X.env) :: starEach [] X.env := by rfl) (hpl : (backTo p1 (starEach [] X.env)).any (·.1) = false := by rfl)
    (hs : swapsWith (.Constant (.bool true) kk p3) (some (.Subscript o (.Call (.Name "tuple" p2) [a] [] p1) p4)) pos.line X.env = pure false := by rfl) : SW X (.Assign [.Subscript o (.Call (.Name "tuple" p2) [a] [] p1) p4] (.Constant (.bool true) kk p3) pos) D σ H :=
  ⟨_, ps_dput hu ew_pe ew_pe pe_bl hs, ho F H (.refl fh) _ fun F1 H1 w1 => ev_tuple hm ha hg hsa hpl F1 H1 w1 _ fun vt F2 H2 w2 rt => by
    obtain ⟨t, rfl, h1, l1⟩ := rt
    exact ⟨d, _, rfl, DPut.t (k := keyL xs) (w2.hh _ _ (w1.hh _ _ hd)) (by rw [keyL_V]; exact w2.fh _ _ h1) hl, k F2 H2 (w1.trans w2)⟩⟩
end
end MP
namespace MP
open PySem PySem.Spec PyProof.Rows L2 Rep
/-! ### while, as a plain function with fuel -/
def whileC {S : Type} (p : S → Bool) (f : S → S) : Nat → S → S
  | 0, s => s
  | n + 1, s => if p s = true then whileC p f n (f s) else s
section
variable {X : Cx} {σ : L2.St} {F H F' H' : Hp} {a b c e : Expr} {pos p : Pos} {α β γ δ : Type} [Rep α] [Rep β] [Rep γ] [Rep δ] {D : Ends}
theorem s_while {S R : Type} {body : List Stmt} {pt : S → Bool} {f : S → S} {n0 : Nat} {k : S → R} {s0 : S} {r : R} (μ : S → Nat) (B : S → L2.St → Hp → Hp → Prop)
    (hp : PassesOwn (model X.prog X.w) X.A X.env X.xe) (fh : Same F H) (h0 : B s0 σ F H) (hr : r = bnd (whileC pt f n0 s0) k) (hn : μ s0 < n0) (hμ : ∀ s, pt s = true → μ (f s) < μ s)
    (test : ∀ s σ' F' H', B s σ' F' H' → EvT X σ' F' H' e (pt s) ∧ Same F' H')
    (turn : ∀ s σ' F' H', B s σ' F' H' → pt s = true → ∀ F1 H1, Wk F' H' F1 H1 → BW X body { nx := fun σ3 H3 => ∃ F3, B (f s) σ3 F3 H3, ct := fun σ3 H3 => ∃ F3, B (f s) σ3 F3 H3, bk := D.nx, rt := D.rt } σ' H1)
    (keep : ∀ s σ' F' H' F1 H1, B s σ' F' H' → Wk F' H' F1 H1 → B s σ' F1 H1)
    (done : ∀ s σ' F' H', B s σ' F' H' → r = k s → D.nx σ' H') : SW X (.While e body [] pos) D σ H := by
  refine ⟨_, ps_while hp tw_pt bw_pss, ?_⟩
  refine ⟨fun m σ' H' => ∃ s F', B s σ' F' H' ∧ r = k (whileC pt f m s) ∧ μ s < m, ⟨n0, s0, F, h0, hr, hn⟩, ?_⟩
  rintro m σ' H' ⟨s, F', hB, hr', hm⟩
  obtain ⟨ht, fh'⟩ := test s σ' F' H' hB
  refine ht F' H' (.refl fh') _ fun F1 H1 w1 => ?_
  obtain ⟨m', rfl⟩ : ∃ m', m = m' + 1 := ⟨m - 1, by omega⟩
  cases hz : pt s with
  | true =>
    refine iteT ⟨fun σ3 H3 => ∃ F3, B (f s) σ3 F3 H3, fun σ3 H3 ⟨F3, h⟩ => ⟨m', Nat.lt_succ_self _, f s, F3, h, ?_, ?_⟩, turn s σ' F' H' hB hz F1 H1 w1⟩
    · rw [hr']
      show k (if pt s = true then whileC pt f m' (f s) else s) = _
      rw [if_pos hz]
    · have := hμ s hz
      omega
  | false =>
    refine iteF (done s σ' F1 H1 (keep s σ' F' H' F1 H1 hB w1) ?_)
    rw [hr']
    show k (if pt s = true then whileC pt f m' (f s) else s) = _
    rw [if_neg (by rw [hz]; decide)]
end
/-- how many are not below -/
def whmu (xs : List Int) (s : Int) : Nat := (xs.filter fun y => decide (s ≤ y)).length
def whfuel (xs : List Int) (s : Int) : Nat := whmu xs s + 1
theorem whfuel_lt (xs : List Int) (s : Int) : whmu xs s < whfuel xs s := Nat.lt_succ_self _
theorem whmu_le (xs : List Int) (s : Int) : whmu xs (s + 1) ≤ whmu xs s := by
  unfold whmu
  rw [← List.countP_eq_length_filter, ← List.countP_eq_length_filter]
  exact List.countP_mono_left fun x _ h => by
    have := of_decide_eq_true h
    exact decide_eq_true (by omega)
theorem whmu_lt {xs : List Int} {s : Int} (h : inB s xs = true) : whmu xs (s + 1) < whmu xs s := by
  rw [inB_t] at h
  induction xs with
  | nil => cases h
  | cons y ys ih =>
    have hc : ∀ t, whmu (y :: ys) t = (if t ≤ y then 1 else 0) + whmu ys t := fun t => by
      unfold whmu
      rw [List.filter_cons]
      by_cases q : t ≤ y
      · rw [if_pos (decide_eq_true q), if_pos q, List.length_cons]
        omega
      · rw [if_neg (by simp [q]), if_neg q]
        omega
    rw [hc, hc]
    rcases List.mem_cons.mp h with e | h
    · subst e
      have := whmu_le ys s
      rw [if_neg (by omega), if_pos (Int.le_refl _)]
      omega
    · have := ih h
      split <;> split <;> omega
end MP
namespace MP
open PySem PySem.Spec PyProof.Rows L2 Rep

/-! ### sorted(range(n), key=f) -/
section
variable {prog : Program} {w : World} {A : Around} {E : Value → Shared → Prop} {s : Shared}
abbrev IxIs (v : Value) (i : Nat) : Prop := ∃ t, v = .int (i : Int) t
theorem each_range : ∀ (vs : List Value) (n k : Nat), vs.length = n → (∀ j v, vs[j]? = some v → IxIs v (k + j)) → PySem.W.EachIs IxIs vs (List.range' k n)
  | [], n, k, hl, h => by
    subst hl
    exact .nil
  | v :: vs, n, k, hl, h => by
    subst hl
    show PySem.W.EachIs IxIs (v :: vs) (k :: List.range' (k + 1) vs.length)
    refine .cons (h 0 v rfl) (each_range vs vs.length (k + 1) rfl fun j u e => ?_)
    have := h (j + 1) u e
    rw [show k + 1 + j = k + (j + 1) by omega]
    exact this
theorem sorted_range_key {r f : Addr} {n : Nat} {t u v : Tok} {ki : Nat → Int} {Q : Value → Shared → Prop} (hh : A.handled = none) (hr : IsRange s.heap r 0 (n : Int) 1 t u v) (hn : n ≤ 1000000) (hu : A.units + 2 < cLine)
    (turn : ∀ (i : Nat) (t : Tok), i < n → ∀ (h : Heap) (tk : Nat), (∀ b o, s.heap.get? b = some o → h.get? b = some o) →
      wpAny (model prog w) A.in1.in1 (call (.ref f) [.int (i : Int) t]) (PySem.W.KeyPure (.int (ki i)) { s with heap := h, toks := tk }) (fun _ _ => False) { s with heap := h, toks := tk })
    (h : ∀ (out : List Value) (l c : Nat) (h1 h' : Heap) (tk : Nat), (∀ b o, s.heap.get? b = some o → h1.get? b = some o) → (∀ b o, h1.get? b = some o → h'.get? b = some o) → h1.objs.size ≤ l → h'.get? l = some (seqObj "list" out.toArray c) →
      PySem.W.EachIs IxIs out ((List.range n).mergeSort fun a b => decide (ki a ≤ ki b)) → Q (.ref l) { s with heap := h', toks := tk }) :
    wpAny (model prog w) A (call (.builtin "sorted") [.ref r] [(Str.ofString "key", .ref f)]) Q E s := by
  refine call_function_entry_kw kind_sorted plain_sorted entry_sorted (ksk_s1 _ _) ?_
  unfold Builtin.«sorted»
  refine wpAny_bind (m := checkCount "sorted" 1 1 _) (wpAny_pure ?_)
  refine wpAny_bind (collect_range (A := A.in1) (n := n) hh hr (small_one (by omega) (by omega) (by omega) (by omega)) (by rw [rangeSize_nat]; omega) (by omega) fun h1 tk1 acc kp1 hacc => ?_)
  have hl : acc.toList.length = n := by rw [Array.length_toList]; exact hacc.1
  have hz : acc.toList.length ≤ sizeLine := by rw [hl, sizeLine_eq]; omega
  refine wpAny_bind (wpAny_newList ?_ hz)
  have hoL : (h1.push (seqObj "list" acc.toList.toArray 0)).get? h1.objs.size = some (seqObj "list" acc.toList.toArray 0) := Heap.get?_push_size _ rfl
  have kp2 : ∀ b o, h1.get? b = some o → b ≠ h1.objs.size ∧ (h1.push (seqObj "list" acc.toList.toArray 0)).get? b = some o := fun b o e =>
    ⟨Nat.ne_of_lt (Heap.lt_size e), Heap.get?_push_of_some _ e⟩
  refine wpAny_bind (wpAny_holding (wpAny_call_entry_kw slot_list_sort ⟨_, hoL, rfl⟩ entry_list_sort ?body (ksk_l1 _ _)))
  case body =>
    rw [ksk_t1]
    have eI : PySem.W.EachIs IxIs acc.toList (List.range n) := by
      rw [List.range_eq_range']
      refine each_range _ _ 0 hl fun j v e => ?_
      obtain ⟨t, ht⟩ := hacc.2 j v (by simpa using e)
      exact ⟨t, by rw [ht]; congr 1; omega⟩
    refine wpAny_mono (PySem.W.keyH_tree (P := fun f s' => f = .done (.ret .none) ∧ Q (.ref h1.objs.size) s') (s := { s with heap := h1.push (seqObj "list" acc.toList.toArray 0), toks := tk1 }) (kz := (List.range n).map fun i => PyData.int (ki i)) hoL (by rw [List.length_map, List.length_range, hl]) hz (PySem.W.AllAlike.of fun _ _ => by simp [PySem.W.alike]) (PySem.W.Sortable.others fun _ => ⟨(fun z => nomatch z), (fun _ z => nomatch z)⟩) (fun d hd => ?_)
      (PySem.W.keyH_turns (k := fun i => PyData.int (ki i)) (s := { s with heap := h1.push (seqObj "list" acc.toList.toArray 0), toks := tk1 }) eI fun v x hR hx h tk kp => ?_) fun h' tk out c kp hD ko => ⟨rfl, ?_⟩) (fun f s' hf => ?_) fun _ _ e => e
    · obtain ⟨i, _, rfl⟩ := List.mem_map.mp hd
      show A.units + 2 + _ < _
      simpa [PyData.depth] using hu
    · obtain ⟨t, rfl⟩ := hR
      exact turn x t (List.mem_range.mp hx) h tk fun b o e => kp b o (kp2 b o (kp1 b o e)).1 (kp2 b o (kp1 b o e)).2
    · refine h out _ c h1 h' tk kp1 (fun b o e => kp b o (kp2 b o e).1 (kp2 b o e).2) (Nat.le_refl _) hD ?_
      have := PySem.W.keyedOut_each (β := Nat) (fun i => PyData.int (ki i)) ko eI
      rw [PySem.W.dataLe_int] at this
      exact this
    · obtain ⟨rfl, hq⟩ := hf
      exact ⟨_, rfl, wpAny_pure ⟨_, rfl, hq⟩⟩
/-- the key's call: -weights[thing] -/
theorem lam_turn {f c' wc wa : Addr} {qual : Str} {params : Arguments} {scope : Scope} {cl : List (Str × Addr)} {pm ctv : Value} {its : List Value} {n : Nat} {wt : Nat → Int} {p1 p2 p3 p4 : Pos}
    (hf : s.heap.get? f = some (PySem.W.kla_obj "<lambda>" qual params (.UnaryOp .USub (.Subscript (.Name "weights" p1) (.Name "thing" p2) p3) p4) scope cl pm c' ctv))
    (hbind : ∀ v : Value, bindArgs (PySem.W.kla_fn "<lambda>" qual params (.UnaryOp .USub (.Subscript (.Name "weights" p1) (.Name "thing" p2) p3) p4) scope cl pm (.ref c') ctv) ⟨[v], []⟩ = pure [(("thing" : Str), v)])
    (hsc : scope.names = [(("thing" : Str), NameKind.local), (("weights" : Str), NameKind.free)]) (hk : scope.kind = .function) (hco : scope.isCoroutine = false) (hge : scope.isGenerator = false)
    (hcl : cl.lookup ("weights" : Str) = some wc) (hcell : s.heap.IsCell wc (some (.ref wa))) (hl : s.heap.IsList wa its.toArray) (hi : ∀ i, i < n → ∃ t, its[i]? = some (.int (wt i) t)) (hn : n ≤ 1000000)
    (hcode : s.heap.CodeRec (.ref c') qual) (lim : s.heap.NoLimit) (hroom : A.depth < recursionLimit) :
    ∀ (i : Nat) (t : Tok), i < n → ∀ (h : Heap) (tk : Nat), (∀ b o, s.heap.get? b = some o → h.get? b = some o) →
      wpAny (model prog w) A (call (.ref f) [.int (i : Int) t]) (PySem.W.KeyPure (.int (-(wt i))) { s with heap := h, toks := tk }) (fun _ _ => False) { s with heap := h, toks := tk } := by
  intro i t hin h tk kp
  obtain ⟨t2, ht2⟩ := hi i hin
  refine wpAny_call (PySem.W.kla_callFunE (s := { s with heap := h, toks := tk }) hroom (kp _ _ hf) rfl hco hge rfl (hcode.keeps kp) ?_)
  rw [hbind]
  refine wpAny_pure (wpAny_newFunctionEnv (fun x hx => ?_) (fun x hx => ?_) (fun h₁ hns hsb => ?_) hk)
  · rw [hsc] at hx
    rcases List.mem_cons.mp hx with rfl | hx
    · exact fun z => nomatch z
    · rcases List.mem_cons.mp hx with rfl | hx
      · exact fun z => nomatch z
      · cases hx
  · rcases List.mem_cons.mp hx with rfl | hx
    · rw [hsc]
      rfl
    · cases hx
  · have kp1 : ∀ b o, h.get? b = some o → h₁.get? b = some o := fun b o e => hsb.extBut b o (Nat.ne_of_lt (Heap.lt_size e)) (Heap.get?_push_of_some _ e)
    have kp2 : ∀ b o, s.heap.get? b = some o → h₁.get? b = some o := fun b o e => kp1 b o (kp b o e)
    refine ⟨lim.keeps kp2, PySem.W.kla_codeExpr (wpAny_UnaryOp (Subscript_ (wpAny_Name (wpAny_loadName_free (c := wc) (v := .ref wa) hk ?fr hcl (hcell.keeps kp2) (wpAny_Name (wpAny_loadName_local (v := .int (i : Int) t) hk ?lo hns rfl (item_listR (show h₁.IsList wa its.toArray from let ⟨o, e, r⟩ := hl; ⟨o, kp2 _ _ e, r⟩) (by omega) (by omega) (x := .int (wt i) t2) (by simpa using ht2) (neg_int ?fin))))))))⟩
    case fr =>
      show scope.names.lookup ("weights" : Str) = _
      rw [hsc]
      rfl
    case lo =>
      show scope.names.lookup ("thing" : Str) = _
      rw [hsc]
      rfl
    case fin => exact ⟨h₁, _, rfl, kp1, .int _ _⟩
end
/-! ### the lambda is made -/
section
variable {X : Cx} {pins : List (Addr × Obj)} {σ : L2.St} {H : Hp} {s : Shared}
theorem lam_new {c P : Addr} {params : Arguments} {body : Expr} {scope : Scope} {pos : Pos} {E Q : Value → Shared → Prop} (I : Inv X pins σ H s) (TB : LamX.TabB X.base X.mg c P) (hcode : X.env.code = .ref c) (hq : X.env.qual ++ "<lambda>" = q0)
    (hT : LamX.TabS H P q0) (hdef : defaultsOf params X.env = ([], [])) (hfree : ∀ y ∈ scope.names, y.2 = .free → ∃ c, X.env.cells.lookup y.1 = some c)
    (h : ∀ (f c' : Addr) (pm ctv : Value) (H1 : Hp) (s' : Shared), Inv X pins σ H1 s' → Kp H H1 → (∀ F : Hp, Same F H → F P = none → Same F H1) →
      s'.heap.get? f = some (PySem.W.kla_obj "<lambda>" q0 params body scope (cloFrom X.env.cells scope.names []) pm c' ctv) → s'.heap.CodeRec (.ref c') q0 → Q (.ref f) s') :
    wpAny (model X.prog X.w) X.A (eval (.Lambda params body scope pos) X.env) Q E s := by
  obtain ⟨ps, hP, ht, ha⟩ := hT
  refine PySem.W.kla_eval hdef ?_
  rw [hq]
  have rec_of : ∀ {H1 : Hp} {s' : Shared} {c' : Addr}, Inv X pins σ H1 s' → H1 c' = some (LamX.CodeO c' q0) → s'.heap.CodeRec (.ref c') q0 := fun {H1 s' c'} I1 e => by
    obtain ⟨⟨oc, vs, t, e1, e2, e3⟩, _, _⟩ := I1.hok c' _ e
    exact ⟨c', oc, vs, t, rfl, e1, e2, e3⟩
  cases found : codeAmong pos ps.toList with
  | none =>
    refine PySem.W.kla_makeFunction (mg := X.mg) (c := c) (P := P) (ps := ps) (closure_ok hfree) I.ok.glob (I.mod.glob.keeps I.bk) hcode (TB.code.keeps I.bk) (I.hok P _ hP) ht found TB.gP (TB.bm.keeps I.bk) fun c' ctv h' tk hx hge hlt hrec htb => ?_
    obtain ⟨_, ob, fs, tk2, z2, hob, hdat, hnm⟩ := hrec
    cases z2
    have newC : H c' = none := I.hok.fresh hge
    have I1 := LamX.inv_table (t' := tk) (more := #[rawInt pos.line, rawInt pos.col, .ref c']) (h' := h'.push (PySem.W.kla_obj "<lambda>" q0 params body scope (cloFrom X.env.cells scope.names []) ((X.mg "__name__").getD .none) c' ctv)) I hP
      (fun b o hb e => Heap.get?_push_of_some _ (hx b o hb e)) (Heap.get?_push_of_some _ htb) hge
      ⟨ob, fs, tk2, Heap.get?_push_of_some _ hob, hdat, hnm⟩
    have at_ : ∀ b o, b ≠ P → H b = some o → upd (upd H P (.tbl (ps ++ #[rawInt pos.line, rawInt pos.col, .ref c']))) c' (LamX.CodeO c' q0) b = some o := fun b o hb e => by
      rw [upd_ne (ne_of_none e newC), upd_ne hb]
      exact e
    have grown : (ps ++ #[rawInt pos.line, rawInt pos.col, .ref c']).toList = ps.toList ++ [rawInt pos.line, rawInt pos.col, .ref c'] := by simp
    have nPc : P ≠ c' := ne_of_none hP newC
    refine h h'.objs.size c' _ ctv _ _ I1 ⟨fun b o e n => at_ b o (fun z => n ps ?_) e, fun b e => ?_, fun P' t' => ?_, fun b qs e => ?_⟩ (fun F sF nF b o e => at_ b o (fun z => ?_) (sF b o e)) (Heap.get?_push_size _ rfl) (rec_of I1 upd_same)
    · rw [z, hP] at e
      exact (Option.some.inj e).symm
    · by_cases h1 : b = c'
      · rw [h1]
        exact newC
      · by_cases h2 : b = P
        · rw [h2, upd_ne nPc, upd_same] at e
          cases e
        · rw [upd_ne h1, upd_ne h2] at e
          exact e
    · obtain ⟨ps', a1, a2, a3⟩ := t'
      have cd : ∀ d, H d = some (LamX.CodeO d q0) → upd (upd H P (.tbl (ps ++ #[rawInt pos.line, rawInt pos.col, .ref c']))) c' (LamX.CodeO c' q0) d = some (LamX.CodeO d q0) := fun d e => at_ d _ (fun z => by
        rw [z, hP] at e
        exact LamX.codeO_ne ps (Option.some.inj e).symm) e
      by_cases hb : P' = P
      · rw [hb] at a1 ⊢
        refine ⟨_, by rw [upd_ne nPc, upd_same], by rw [grown]; exact PySem.TriplesOk_snoc _ _ _ _ ht, fun p' cv hcv => ?_⟩
        rw [grown] at hcv
        rcases LamX.among_app _ ht hcv with z | z
        · obtain ⟨d, g1, g2⟩ := ha p' cv z
          exact ⟨d, g1, cd _ g2⟩
        · exact ⟨c', z, upd_same⟩
      · refine ⟨ps', at_ _ _ hb a1, a2, fun p' cv hcv => ?_⟩
        obtain ⟨d, g1, g2⟩ := a3 p' cv hcv
        exact ⟨d, g1, cd _ g2⟩
    · by_cases hb : b = P
      · exact ⟨_, by rw [hb, upd_ne nPc, upd_same]⟩
      · exact ⟨qs, at_ _ _ hb e⟩
    · rw [z, nF] at e
      cases e
  | some cv =>
    obtain ⟨c', rfl, hco⟩ := ha pos cv found
    refine PySem.W.kla_makeFunctionHit (mg := X.mg) (c := c) (P := P) (ps := ps) (closure_ok hfree) I.ok.glob (I.mod.glob.keeps I.bk) hcode (TB.code.keeps I.bk) (I.hok P _ hP) ht found (TB.bm.keeps I.bk) fun ctv h' tk hx hsz => ?_
    have I1 : Inv X pins σ H { s with heap := h'.push (PySem.W.kla_obj "<lambda>" q0 params body scope (cloFrom X.env.cells scope.names []) ((X.mg "__name__").getD .none) c' ctv), toks := tk } := I.kept fun b o e => Heap.get?_push_of_some _ (hx b o e)
    exact h h'.objs.size c' _ ctv H _ I1 (Kp.refl H) (fun F sF _ => sF) (Heap.get?_push_size _ rfl) (rec_of I1 hco)
end
/-! ### sorted(range(n), key=lambda thing: -weights[thing]) -/
def ordL (ws : List Int) : List Int := ((List.range ws.length).mergeSort fun a b => decide (-(gi ws (a : Int)) ≤ -(gi ws (b : Int)))).map fun (i : Nat) => (i : Int)
theorem each_vals : ∀ {out : List Value} {is : List Nat}, PySem.W.EachIs IxIs out is → Vals ((is.map fun (i : Nat) => (i : Int)).map V.int) out
  | _, _, .nil => .nil
  | _, _, .cons (b := b) (a := a) ⟨t, e⟩ h => .cons (show RelV (V.int (b : Int)) a from ⟨t, e⟩) (each_vals h)
section
variable {X : Cx} {σ : L2.St} {F H : Hp} {a : Expr}
theorem ew_at {e : Expr} {H1 : Hp} {Q : VK} (h : ∀ (pins : List (Addr × Obj)) (s : Shared), Inv X pins σ H1 s → wpAny (model X.prog X.w) X.A (eval e X.env) (EP X pins σ Q) X.xe s) : EW X e σ H1 Q :=
  ⟨fun σ' H' Q' => σ' = σ ∧ H' = H1 ∧ Q' = Q, ⟨fun pins s σ' H' Q' I h' => by
    obtain ⟨rfl, rfl, rfl⟩ := h'
    exact h pins s I⟩, rfl, rfl, rfl⟩
theorem evn_order {k : Nat} {ws : List Int} {vw : V} {c P : Addr} {params : Arguments} {scope : Scope} {p p' pr p1 p2 p3 p4 lpos kpos pos : Pos} (i : Nat) (hs : σ[i]? = some (some vw)) (r : rep X.K F vw ws) (ha : Ev X σ F H a (ws.length : Int)) (hn : ws.length ≤ 1000000)
    (tc : TC P F H) (TB : LamX.TabB X.base X.mg c P) (hcode : X.env.code = .ref c) (hr : Room k X.A) (hmS : X.mg "sorted" = none) (hmR : X.mg "range" = none)
    (hN : X.N[i]? = some "weights" := by rfl) (hq : X.env.qual ++ "<lambda>" = q0 := by rfl) (hcell : X.env.scope.names.lookup ("weights" : Str) = some NameKind.cell := by rfl) (hg : Gl X "sorted" := by rfl) (hgR : Gl X "range" := by rfl)
    (hdef : defaultsOf params X.env = ([], []) := by rfl)
    (hbind : ∀ (q : Str) (cl : List (Str × Addr)) (pm cv ctv : Value) (v : Value), bindArgs (PySem.W.kla_fn "<lambda>" q params (.UnaryOp .USub (.Subscript (.Name "weights" p1) (.Name "thing" p2) p3) p4) scope cl pm cv ctv) ⟨[v], []⟩ = pure [(("thing" : Str), v)] := by intro _ _ _ _ _ _; rfl)
    (hsc : scope.names = [(("thing" : Str), NameKind.local), (("weights" : Str), NameKind.free)] := by rfl) (hk : scope.kind = .function := by rfl) (hco : scope.isCoroutine = false := by rfl) (hge : scope.isGenerator = false := by rfl)
    (na : starEach [a] X.env = (false, eval a X.env) :: starEach [] X.env := by rfl) (nr : starEach [.Call (.Name "range" p') [a] [] pr] X.env = (false, eval (.Call (.Name "range" p') [a] [] pr) X.env) :: starEach [] X.env := by rfl) :
    EvN X σ F H (.Call (.Name "sorted" p) [.Call (.Name "range" p') [a] [] pr] [⟨some "key", .Lambda params (.UnaryOp .USub (.Subscript (.Name "weights" p1) (.Name "thing" p2) p3) p4) scope lpos, kpos⟩] pos) (ordL ws) := fun F1 H1 w Q q => ew_at fun pins s I => by
  have hfree : ∀ y ∈ scope.names, y.2 = .free → ∃ c, X.env.cells.lookup y.1 = some c := fun y hy e => by
    rw [hsc] at hy
    rcases List.mem_cons.mp hy with rfl | hy
    · cases e
    · rcases List.mem_cons.mp hy with rfl | hy
      · exact I.ok.has _ (.inl hcell)
      · cases hy
  refine wpAny_Call_Name_kw (ld_blt I hg hmS rfl ?_)
  refine callWith_kw ?_ (by rw [nr]; rfl) (by rw [nr]; rfl) (by rfl) (by rfl)
  rw [nr]
  refine Calls.spliced_cons (Call_ (ld_blt I hgR hmR boot_range (PyProof.Rows.callWith_type1 (one_arg (R := fun x H2 => x = .int (ws.length : Int) ∧ ∃ F2, Wk F1 H1 F2 H2) ew_pe I ?arg (fun v s2 x H2 I2 r2 q2 => ?_) na) na)))
  case arg => exact ha F1 H1 w _ fun v F2 H2 w2 r2 => ⟨r2, F2, w2⟩
  obtain ⟨rfl, F2, w2⟩ := q2
  obtain ⟨tn, rfl⟩ := r2
  refine call_range_1 ?_
  have I2' : Inv X pins σ H2 { s2 with heap := s2.heap.push { cls := .type "range", data := .fields #[.int 0 s2.toks, .int (ws.length : Int) tn, .int 1 (s2.toks + 1)] }, toks := s2.toks + 1 + 1 } := I2.kept fun b u e => Heap.get?_push_of_some _ e
  have I2p := I2'.pins_of (pins' := (s2.heap.objs.size, { cls := .type "range", data := .fields #[.int 0 s2.toks, .int (ws.length : Int) tn, .int 1 (s2.toks + 1)] }) :: pins) (fun p hp => by
    rcases List.mem_cons.mp hp with rfl | hp
    · exact ⟨Heap.get?_push_size _ rfl, I2.hok.fresh (Nat.le_refl _), Nat.ne_of_gt I2.lt, I2.nofs (Nat.le_refl _), fun v z => nomatch z⟩
    · exact I2'.pin p (List.mem_append_right _ hp))
  show wpAny _ _ (spliced []) _ _ _
  refine Calls.spliced_nil ?_
  show wpAny _ _ (evalAll [do let v ← eval (.Lambda params (.UnaryOp .USub (.Subscript (.Name "weights" p1) (.Name "thing" p2) p3) p4) scope lpos) X.env; standAt pos; pure v]) _ _ _
  have tc2 := tc.wk (w.trans w2)
  refine wpAny_evalAll_cons (wpAny_bind (lam_new I2p TB hcode hq tc2.1 hdef hfree fun f c' pm ctv H3 s3 I3 k3 sF hf hcd => wpAny_bind (wpAny_standAt (wpAny_pure (wpAny_evalAll_nil ?_)))))
  have hrng : IsRange s3.heap s2.heap.objs.size 0 (ws.length : Int) 1 s2.toks tn (s2.toks + 1) := (I3.pin _ (List.mem_append_right _ (List.mem_cons_self))).1
  have w3 : Wk F2 H2 F2 H3 := ⟨Same.refl _, k3, sF F2 w2.fh tc2.2, fun _ _ e => .inl e⟩
  have w13 := w2.trans w3
  obtain ⟨wa, xs, rfl, hF, hlen, rxs⟩ := Rep.mono (w.trans w13).ff r
  obtain rfl := reps_int rxs
  obtain ⟨hz, its, nn, rv, hob⟩ := I3.hok wa _ (w13.fh _ _ hF)
  obtain ⟨m, hns, hl⟩ := I3.loc
  obtain ⟨u, ru, lk⟩ := hl i _ _ hN hs (.inr (.inl hcell))
  obtain rfl : u = .ref wa := ru
  obtain ⟨wc, hwc, hIs⟩ : ∃ c, X.env.cells.lookup ("weights" : Str) = some c ∧ s3.heap.IsCell c (some (.ref wa)) := by
    rcases lk with ⟨z, _⟩ | ⟨_, z⟩
    · have z' : X.env.scope.names.lookup ("weights" : Str) = some .local := z
      rw [hcell] at z'
      cases z'
    · exact z
  have hcl : (cloFrom X.env.cells scope.names []).lookup ("weights" : Str) = some wc := by
    rw [hsc]
    show some ((X.env.cells.lookup ("weights" : Str)).getD 0) = some wc
    rw [hwc]
    rfl
  have hd : X.A.handled = none := hr.hd
  have hu := hu64 hr
  show wpAny _ _ (call (.builtin "sorted") [.ref s2.heap.objs.size] [(Str.ofString "key", .ref f)]) _ _ _
  refine sorted_range_key (ki := fun j => -(gi ws (j : Int))) hd hrng hn (by omega) (lam_turn (wt := fun j => gi ws (j : Int)) (its := its) (n := ws.length) hf (hbind _ _ _ _ _) hsc hk hco hge hcl hIs ⟨_, hob, rfl, nn, rfl⟩ (fun j hj => ?it) hn hcd I3.nolimit ?rm) fun out l cc h1 h' tk kp1 kp2 hle hD eO => ?_
  case rm => exact hr.depth
  case it =>
    have e3 : (ws.map V.int)[j]? = some (.int (gi ws (j : Int))) := by
      have e4 : ws[j]? = some ws[j] := List.getElem?_eq_getElem hj
      unfold gi
      rw [atI_nat e4, List.getElem?_map, e4]
      rfl
    obtain ⟨u, g1, t, g2⟩ := rv.get e3
    exact ⟨t, by rw [g1, g2]⟩
  have I4 : Inv X _ σ H3 { s3 with heap := h1 } := I3.kept kp1
  have fl : H3 l = none := I4.hok.fresh hle
  have hlO : ((ordL ws).map V.int).length ≤ sizeLine := by
    unfold ordL
    rw [List.length_map, List.length_map, List.length_mergeSort, List.length_range]
    exact rep_len r
  have I5 := I4.laid (a := l) (o := .lst ((ordL ws).map V.int)) (t' := tk) kp2 hle ⟨hlO, out, cc, each_vals eO, hD⟩
  refine ⟨.ref l, _, I5.pins_of fun p hp => I5.pin p (List.mem_append_right _ (List.mem_cons_of_mem _ hp)), rfl, ?_⟩
  exact q l _ F2 _ (w13.trans (.lay w3.fh fl)) (reps_of_int _) (w3.fh.free fl) (w13.hfree fl) upd_same hlO
end
end MP
namespace MP
open PySem PySem.Spec PyProof.Rows L2 Rep
/-! ### promises of defs that make the lambda -/
def oFT (P : Addr) (K : PySem.W.Frag) {γ : Type} [Rep γ] (F H : Hp) (Q : VK) (E : XK) (d : γ) : Prop := TC P F H ∧ oF K F H Q E d
def oNT (P : Addr) (K : PySem.W.Frag) {γ : Type} [Rep γ] (F H : Hp) (Q : VK) (E : XK) (d : List γ) : Prop := TC P F H ∧ oN K F H Q E d
section
variable {X : Cx} {σ : L2.St} {F H F' H' : Hp} {a b c d e x1 x2 : Expr} {pos p : Pos} {α β γ δ ε : Type} [Rep α] [Rep β] [Rep γ] [Rep δ] [Rep ε] {CX : CXT} {k : Nat} {x : Str} {ps : List Str} {TP : Addr}
section
variable {ω : Type} [Rep ω] (hx : Passes CX X E0) (hr : Room k X.A)
include hx hr
theorem ev_call1T {pre : α → Prop} {m : α → ω} {u : α} (C : Cal X.prog X.w X.K X.mg X.base CX k x ps (sp1 X.K pre m (oFT TP X.K))) (h1 : Ev X σ F H a u) (hp : pre u) (tc : TC TP F H) (hg : Gl X x := by rfl) (hdb : (x == ("__debug__" : Str)) = false := by decide) (he : starEach [a] X.env = (false, eval a X.env) :: starEach [] X.env := by rfl) (hpl : (backTo pos (starEach [] X.env)).any (·.1) = false := by rfl) :
    Ev X σ F H (.Call (.Name x p) [a] [] pos) (m u) := fun F1 H1 w Q q => ew_call C hx hr (ea1 h1 he) w Q (fun vs F2 H2 w2 ⟨v, e, r⟩ => ⟨F2, u, v, e, w2.fh, r, hp, tc.wk (w.trans w2), fun v F3 H3 w3 r3 => q v F3 H3 (w2.trans w3) r3⟩) hg hdb he hpl
theorem evn_call1T {pre : α → Prop} {m : α → List ω} {u : α} (C : Cal X.prog X.w X.K X.mg X.base CX k x ps (sp1 X.K pre m (oNT TP X.K))) (h1 : Ev X σ F H a u) (hp : pre u) (tc : TC TP F H) (hg : Gl X x := by rfl) (hdb : (x == ("__debug__" : Str)) = false := by decide) (he : starEach [a] X.env = (false, eval a X.env) :: starEach [] X.env := by rfl) (hpl : (backTo pos (starEach [] X.env)).any (·.1) = false := by rfl) :
    EvN X σ F H (.Call (.Name x p) [a] [] pos) (m u) := fun F1 H1 w Q q => ew_call C hx hr (ea1 h1 he) w Q (fun vs F2 H2 w2 ⟨v, e, r⟩ => ⟨F2, u, v, e, w2.fh, r, hp, tc.wk (w.trans w2), fun p xs F3 H3 w3 r3 g1 g2 g3 g4 => q p xs F3 H3 (w2.trans w3) r3 g1 (w2.hfree g2) g3 g4⟩) hg hdb he hpl
theorem ev_call2T {pre : α → β → Prop} {m : α → β → ω} {u : α} {v : β} (C : Cal X.prog X.w X.K X.mg X.base CX k x ps (sp2 X.K pre m (oFT TP X.K))) (h1 : Ev X σ F H a u) (h2 : Ev X σ F H b v) (hp : pre u v) (tc : TC TP F H) (hg : Gl X x := by rfl) (hdb : (x == ("__debug__" : Str)) = false := by decide) (he : starEach [a, b] X.env = (false, eval a X.env) :: starEach [b] X.env := by rfl) (he2 : starEach [b] X.env = (false, eval b X.env) :: starEach [] X.env := by rfl) (hpl : (backTo pos (starEach [b] X.env)).any (·.1) = false := by rfl) :
    Ev X σ F H (.Call (.Name x p) [a, b] [] pos) (m u v) := fun F1 H1 w Q q => ew_call C hx hr (ea2 h1 h2 he he2) w Q (fun vs F2 H2 w2 ⟨v1, v2, e, r1, r2⟩ => ⟨F2, u, v, v1, v2, e, w2.fh, r1, r2, hp, tc.wk (w.trans w2), fun v F3 H3 w3 r3 => q v F3 H3 (w2.trans w3) r3⟩) hg hdb he hpl
theorem evn_call2T {pre : α → β → Prop} {m : α → β → List ω} {u : α} {v : β} (C : Cal X.prog X.w X.K X.mg X.base CX k x ps (sp2 X.K pre m (oNT TP X.K))) (h1 : Ev X σ F H a u) (h2 : Ev X σ F H b v) (hp : pre u v) (tc : TC TP F H) (hg : Gl X x := by rfl) (hdb : (x == ("__debug__" : Str)) = false := by decide) (he : starEach [a, b] X.env = (false, eval a X.env) :: starEach [b] X.env := by rfl) (he2 : starEach [b] X.env = (false, eval b X.env) :: starEach [] X.env := by rfl) (hpl : (backTo pos (starEach [b] X.env)).any (·.1) = false := by rfl) :
    EvN X σ F H (.Call (.Name x p) [a, b] [] pos) (m u v) := fun F1 H1 w Q q => ew_call C hx hr (ea2 h1 h2 he he2) w Q (fun vs F2 H2 w2 ⟨v1, v2, e, r1, r2⟩ => ⟨F2, u, v, v1, v2, e, w2.fh, r1, r2, hp, tc.wk (w.trans w2), fun p xs F3 H3 w3 r3 g1 g2 g3 g4 => q p xs F3 H3 (w2.trans w3) r3 g1 (w2.hfree g2) g3 g4⟩) hg hdb he hpl
theorem ev_call3T {pre : α → β → γ → Prop} {m : α → β → γ → ω} {u : α} {v : β} {z : γ} (C : Cal X.prog X.w X.K X.mg X.base CX k x ps (sp3 X.K pre m (oFT TP X.K))) (h1 : Ev X σ F H a u) (h2 : Ev X σ F H b v) (h3 : Ev X σ F H c z) (hp : pre u v z) (tc : TC TP F H) (hg : Gl X x := by rfl) (hdb : (x == ("__debug__" : Str)) = false := by decide) (he : starEach [a, b, c] X.env = (false, eval a X.env) :: starEach [b, c] X.env := by rfl) (he2 : starEach [b, c] X.env = (false, eval b X.env) :: starEach [c] X.env := by rfl) (he3 : starEach [c] X.env = (false, eval c X.env) :: starEach [] X.env := by rfl) (hpl : (backTo pos (starEach [b, c] X.env)).any (·.1) = false := by rfl) :
    Ev X σ F H (.Call (.Name x p) [a, b, c] [] pos) (m u v z) := fun F1 H1 w Q q => ew_call C hx hr (ea_cons h1 (ea2 h2 h3 he2 he3) he) w Q (fun vs F2 H2 w2 ⟨v1, us, e, r1, v2, v3, e2, r2, r3⟩ => ⟨F2, u, v, z, v1, v2, v3, by rw [e, e2], w2.fh, r1, r2, r3, hp, tc.wk (w.trans w2), fun v F3 H3 w3 r3 => q v F3 H3 (w2.trans w3) r3⟩) hg hdb he hpl
theorem evn_call3T {pre : α → β → γ → Prop} {m : α → β → γ → List ω} {u : α} {v : β} {z : γ} (C : Cal X.prog X.w X.K X.mg X.base CX k x ps (sp3 X.K pre m (oNT TP X.K))) (h1 : Ev X σ F H a u) (h2 : Ev X σ F H b v) (h3 : Ev X σ F H c z) (hp : pre u v z) (tc : TC TP F H) (hg : Gl X x := by rfl) (hdb : (x == ("__debug__" : Str)) = false := by decide) (he : starEach [a, b, c] X.env = (false, eval a X.env) :: starEach [b, c] X.env := by rfl) (he2 : starEach [b, c] X.env = (false, eval b X.env) :: starEach [c] X.env := by rfl) (he3 : starEach [c] X.env = (false, eval c X.env) :: starEach [] X.env := by rfl) (hpl : (backTo pos (starEach [b, c] X.env)).any (·.1) = false := by rfl) :
    EvN X σ F H (.Call (.Name x p) [a, b, c] [] pos) (m u v z) := fun F1 H1 w Q q => ew_call C hx hr (ea_cons h1 (ea2 h2 h3 he2 he3) he) w Q (fun vs F2 H2 w2 ⟨v1, us, e, r1, v2, v3, e2, r2, r3⟩ => ⟨F2, u, v, z, v1, v2, v3, by rw [e, e2], w2.fh, r1, r2, r3, hp, tc.wk (w.trans w2), fun p xs F3 H3 w3 r3 g1 g2 g3 g4 => q p xs F3 H3 (w2.trans w3) r3 g1 (w2.hfree g2) g3 g4⟩) hg hdb he hpl
theorem ev_call4T {pre : α → β → γ → δ → Prop} {m : α → β → γ → δ → ω} {u : α} {v : β} {z : γ} {y : δ} (C : Cal X.prog X.w X.K X.mg X.base CX k x ps (sp4 X.K pre m (oFT TP X.K))) (h1 : Ev X σ F H a u) (h2 : Ev X σ F H b v) (h3 : Ev X σ F H c z) (h4 : Ev X σ F H d y) (hp : pre u v z y) (tc : TC TP F H) (hg : Gl X x := by rfl) (hdb : (x == ("__debug__" : Str)) = false := by decide) (he : starEach [a, b, c, d] X.env = (false, eval a X.env) :: starEach [b, c, d] X.env := by rfl) (he2 : starEach [b, c, d] X.env = (false, eval b X.env) :: starEach [c, d] X.env := by rfl) (he3 : starEach [c, d] X.env = (false, eval c X.env) :: starEach [d] X.env := by rfl) (he4 : starEach [d] X.env = (false, eval d X.env) :: starEach [] X.env := by rfl) (hpl : (backTo pos (starEach [b, c, d] X.env)).any (·.1) = false := by rfl) :
    Ev X σ F H (.Call (.Name x p) [a, b, c, d] [] pos) (m u v z y) := fun F1 H1 w Q q => ew_call C hx hr (ea_cons h1 (ea_cons h2 (ea2 h3 h4 he3 he4) he2) he) w Q (fun vs F2 H2 w2 ⟨v1, us, e, r1, v2, us2, e2, r2, v3, v4, e3, r3, r4⟩ => ⟨F2, u, v, z, y, v1, v2, v3, v4, by rw [e, e2, e3], w2.fh, r1, r2, r3, r4, hp, tc.wk (w.trans w2), fun v F3 H3 w3 r3 => q v F3 H3 (w2.trans w3) r3⟩) hg hdb he hpl
theorem ev_call5T {pre : α → β → γ → δ → ε → Prop} {m : α → β → γ → δ → ε → ω} {u : α} {v : β} {z : γ} {y : δ} {t : ε} (C : Cal X.prog X.w X.K X.mg X.base CX k x ps (sp5 X.K pre m (oFT TP X.K))) (h1 : Ev X σ F H a u) (h2 : Ev X σ F H b v) (h3 : Ev X σ F H c z) (h4 : Ev X σ F H d y) (h5 : Ev X σ F H x1 t) (hp : pre u v z y t) (tc : TC TP F H) (hg : Gl X x := by rfl) (hdb : (x == ("__debug__" : Str)) = false := by decide) (he : starEach [a, b, c, d, x1] X.env = (false, eval a X.env) :: starEach [b, c, d, x1] X.env := by rfl) (he2 : starEach [b, c, d, x1] X.env = (false, eval b X.env) :: starEach [c, d, x1] X.env := by rfl) (he3 : starEach [c, d, x1] X.env = (false, eval c X.env) :: starEach [d, x1] X.env := by rfl) (he4 : starEach [d, x1] X.env = (false, eval d X.env) :: starEach [x1] X.env := by rfl) (he5 : starEach [x1] X.env = (false, eval x1 X.env) :: starEach [] X.env := by rfl) (hpl : (backTo pos (starEach [b, c, d, x1] X.env)).any (·.1) = false := by rfl) :
    Ev X σ F H (.Call (.Name x p) [a, b, c, d, x1] [] pos) (m u v z y t) := fun F1 H1 w Q q => ew_call C hx hr (ea_cons h1 (ea_cons h2 (ea_cons h3 (ea2 h4 h5 he4 he5) he3) he2) he) w Q (fun vs F2 H2 w2 ⟨v1, us, e, r1, v2, us2, e2, r2, v3, us3, e3, r3, v4, v5, e4, r4, r5⟩ => ⟨F2, u, v, z, y, t, v1, v2, v3, v4, v5, by rw [e, e2, e3, e4], w2.fh, r1, r2, r3, r4, r5, hp, tc.wk (w.trans w2), fun v F3 H3 w3 r3 => q v F3 H3 (w2.trans w3) r3⟩) hg hdb he hpl
end
end
section
variable {X : Cx} {σ : L2.St} {F H F' H' : Hp} {pos : Pos} {α : Type} [Rep α] {D : Ends}
/-- a loop over a list that is not told yet -/
theorem s_forO {S R : Type} {xs : List α} {us : List V} {q : Addr} {tg iter : Expr} {body : List Stmt} {bodyM : α → S → (S → R) → R} {k : S → R} {s0 : S} {r : R} {g : TG} (B : Nat → S → L2.St → Hp → Hp → Prop)
    (hp : PassesOwn (model X.prog X.w) X.A X.env X.xe) (hc : X.calm = true) (ho : EvR X σ F H iter q) (hq : H q = some (.lst us)) (ru : reps X.K F us xs) (fh : Same F H) (hg : PG X tg g)
    (h0 : ∀ F1 H1, Wk F H F1 H1 → B 0 s0 σ F1 H1) (hopen : ∀ i s σ F' H', B i s σ F' H' → H' q = some (.lst us)) (hr : r = forC bodyM xs s0 k)
    (turn : ∀ i x s σ' F' H' v K, xs[i]? = some x → B i s σ' F' H' → rep X.K F' v x → r = bodyM x s K →
      g v σ' H' fun σ2 H2 => BW X body { nx := fun σ3 H3 => ∃ s3 F3, Same F' F3 ∧ B (i + 1) s3 σ3 F3 H3 ∧ r = K s3, ct := fun σ3 H3 => ∃ s3 F3, Same F' F3 ∧ B (i + 1) s3 σ3 F3 H3 ∧ r = K s3, bk := D.nx, rt := D.rt } σ2 H2)
    (done : ∀ s σ' F' H', B xs.length s σ' F' H' → r = k s → D.nx σ' H')
    (hs : ∀ x, foldedSetIterable iter X.env x = pure x := by intro _; rfl) : SW X (.For tg iter body [] pos) D σ H := by
  refine ⟨_, ps_for hp hc (pi_list ew_pe) hg bw_pss hs, ho F H (.refl fh) _ fun F2 H2 w2 => ⟨q, rfl, ⟨us, SqL.of (w2.hh _ _ hq)⟩, ?_⟩⟩
  have rl := ru.len
  refine ⟨fun n m σ' H' => m = xs.length - n ∧ n ≤ xs.length ∧ ∃ s F', Same F2 F' ∧ B n s σ' F' H' ∧ r = forC bodyM (xs.drop n) s k, ⟨xs.length, rfl, Nat.zero_le _, s0, F2, Same.refl _, h0 F2 H2 w2, hr⟩, ?_⟩
  rintro n m σ' H' ⟨rfl, hn, s, F', sf, hB, hr'⟩
  have hqn := hopen _ _ _ _ _ hB
  by_cases hlt : n < xs.length
  · have hlu : n < us.length := by omega
    refine .inr ⟨⟨us, us[n], SqL.of hqn, List.getElem?_eq_getElem hlu⟩, fun σ3 H3 => ∃ s3 F3, Same F' F3 ∧ B (n + 1) s3 σ3 F3 H3 ∧ r = forC bodyM (xs.drop (n + 1)) s3 k, fun σ3 H3 ⟨s3, F3, h1, h2, h3⟩ => ⟨xs.length - (n + 1), by omega, rfl, hlt, s3, F3, sf.trans h1, h2, h3⟩, fun x H'' y => ?_⟩
    obtain ⟨e1, y⟩ := y
    subst e1
    have hd : xs[n]? = some xs[n] := List.getElem?_eq_getElem hlt
    obtain ⟨u, hu, rx⟩ := ru.get' hd
    have e2 := (y us (SqL.of hqn)).symm.trans hu
    cases e2
    refine turn n xs[n] s σ' F' H'' x (fun s3 => forC bodyM (xs.drop (n + 1)) s3 k) hd hB (Rep.mono (w2.ff.trans sf) rx) ?_
    rw [hr', List.drop_eq_getElem_cons hlt]
    rfl
  · have e : n = xs.length := by omega
    subst e
    refine .inl ⟨⟨us, SqL.of hqn, by rw [rl]; exact Nat.le_refl _⟩, done s σ' F' H' hB ?_⟩
    rw [hr', List.drop_length]
    rfl
end
/-- a def as the top has left it, its code object told -/
structure FunC (K : PySem.W.Frag) (x qual : Str) (st : Stmt) (c : Addr) (f : Addr) (fd : FuncData) : Prop where
  ex : ∃ (oc : Value) (od : Option Addr) (kV doc pm : Value) (an : Option Addr) (ct : Value) (osl : Array (Option Value)),
    fd = PySem.W.fnOf x qual (defArgs st) (defBody st) (defScope st) .none kV doc pm an (.ref c) ct ∧ K.lookup f = some ⟨oc, od, .func fd, osl⟩ ∧ PySem.W.codeIn K (.ref c) qual = true
  kp : PySem.W.keepIn K (.ref f) = true
section
variable {P : Program} {w : World} {K : PySem.W.Frag} {mg : Str → Option Value} {base : Heap}
theorem FunC.fn {x qual : Str} {st : Stmt} {c f : Addr} {fd : FuncData} (F : FunC K x qual st c f fd) : Fun K x qual st f fd := by
  obtain ⟨oc, od, kV, doc, pm, an, ct, osl, e, lk, hcd⟩ := F.ex
  exact ⟨⟨oc, od, kV, doc, pm, an, _, ct, osl, e, lk, hcd⟩, F.kp⟩
theorem FunC.ok {x qual : Str} {st : Stmt} {c f : Addr} {fd : FuncData} {N ps : List Str} {k : Nat} {sp : Sp} (F : FunC K x qual st c f fd) (S : FnScope N ps (defScope st)) (len : ∀ vs H Q E, sp vs H Q E → vs.length = ps.length)
    (hbody : ∀ (A : Around) (outer : List Env) (s : Shared) (H : Hp) (vs : List V) (Q : VK) (E : XK), Room k (A.deeper (envOfC qual (defScope st) s.heap.objs.size f (.ref c))) → sp vs H Q E →
      ∃ t, PSs (cxOf CX0 P w K mg base N qual (defScope st) f (.ref c) A outer s H E).nox (defBody st) t ∧ t { nx := fun _ H' => Q .non H', rt := Q } (start N vs) H) : FnOk P w K mg base CX0 (k + 1) f fd ps sp := by
  obtain ⟨oc, od, kV, doc, pm, an, ct, osl, rfl, lk, hcd⟩ := F.ex
  refine fn_of lk hcd S len fun A outer s H vs Q E hr hsp => ?_
  obtain ⟨t, h, q⟩ := hbody A outer s H vs Q E hr hsp
  exact ⟨t, h.nox, q⟩
end
/-- a def as the top has left it -/
def Df (K : PySem.W.Frag) (x : Str) (st : Stmt) : Prop := ∃ (f : Addr) (fd : FuncData), PySem.W.nsIn K mainGlobals x = some (some (.ref f)) ∧ Fun K x x st f fd
theorem df_mk {K : PySem.W.Frag} {x : Str} {st : Stmt} {f : Addr} {oc : Value} {od an : Option Addr} {osl : Array (Option Value)} {kV doc pm cdv ct : Value} (a : PySem.W.nsIn K mainGlobals x = some (some (.ref f))) (l : K.lookup f = some ⟨oc, od, .func (PySem.W.fnOf x x (defArgs st) (defBody st) (defScope st) .none kV doc pm an cdv ct), osl⟩)
    (c : PySem.W.codeIn K cdv x = true) (k : PySem.W.keepIn K (.ref f) = true) : Df K x st := ⟨f, _, a, fun_mk (st := st) l c k⟩
def DfC (K : PySem.W.Frag) (x : Str) (st : Stmt) (c : Addr) : Prop := ∃ (f : Addr) (fd : FuncData), PySem.W.nsIn K mainGlobals x = some (some (.ref f)) ∧ FunC K x x st c f fd
theorem dfc_mk {K : PySem.W.Frag} {x : Str} {st : Stmt} {f cd : Addr} {oc : Value} {od an : Option Addr} {osl : Array (Option Value)} {kV doc pm ct : Value} (a : PySem.W.nsIn K mainGlobals x = some (some (.ref f))) (l : K.lookup f = some ⟨oc, od, .func (PySem.W.fnOf x x (defArgs st) (defBody st) (defScope st) .none kV doc pm an (.ref cd) ct), osl⟩)
    (c : PySem.W.codeIn K (.ref cd) x = true) (k : PySem.W.keepIn K (.ref f) = true) : DfC K x st cd := ⟨f, _, a, ⟨oc, od, kV, doc, pm, an, ct, osl, rfl, l, c⟩, k⟩
/-- all but the table -/
def hideP (H : Hp) (P : Addr) : Hp := fun b => if b = P then none else H b
theorem hideP_same {H : Hp} {P : Addr} : Same (hideP H P) H := fun b o e => by
  unfold hideP at e
  split at e
  · cases e
  · exact e
theorem hideP_tc {H : Hp} {P : Addr} (h : H P = some (.tbl #[])) : TC P (hideP H P) H := ⟨LamX.TabS.nil h, if_pos rfl⟩
theorem hideP_sq {K : PySem.W.Frag} {H : Hp} {P a : Addr} {ps : Array Value} {xs : List V} (h : H P = some (.tbl ps)) (s : SqL K H a xs) : SqL K (hideP H P) a xs := by
  have ne : ∀ o, H a = some o → (∀ q, o ≠ .tbl q) → hideP H P a = some o := fun o e n => by
    unfold hideP
    rw [if_neg fun z => ?_]
    · exact e
    · rw [z, h] at e
      exact n ps (Option.some.inj e).symm
  rcases s with (s | ⟨o, s⟩) | s
  · exact .inl (.inl (ne _ s fun q z => nomatch z))
  · exact .inl (.inr ⟨o, ne _ s fun q z => nomatch z⟩)
  · exact .inr s
theorem law_endT {K : PySem.W.Frag} {H : Hp} {a P : Addr} {ns : List Int} {E : XK} {m : Scr → Bool} (hm : ∀ x, m x = true) (hl : ns.length ≤ 63) (hH : H P = some (.tbl #[])) (hS : SqL K H a (ns.map V.int)) : sp1 K (fun _ => True) m (oFT P K) [.ref a] H (fun v _ => v = .bl true) E :=
  ⟨hideP H P, Scr.mk ns, .ref a, rfl, hideP_same, ⟨a, rfl, hideP_sq hH hS, hl⟩, trivial, hideP_tc hH, fun v F' H' w r => (show v = .bl (m (Scr.mk ns)) from r).trans (congrArg V.bl (hm _))⟩
end MP
namespace MP
open PySem PySem.Spec PyProof.Rows L2 Rep

/-! ### refusals -/
inductive Exn where
  | thing | choice | exchange | weights | rule
  deriving DecidableEq
def Exn.nm : Exn → Str
  | .thing => "NoThing"
  | .choice => "NoChoice"
  | .exchange => "NoExchange"
  | .weights => "NoWeights"
  | .rule => "NoRule"
/-- a class of refusals, as the top has left it -/
structure Ex1 (K : PySem.W.Frag) (mg : Str → Option Value) (x : Str) (C : Addr) : Prop where
  g : mg x = some (.ref C)
  q : PySem.W.excIn K C [.type "ValueError", .type "Exception", .type "BaseException", .type "object"] "ValueError.__new__" = true
  k : PySem.W.keepIn K (.ref C) = true
  b : PySem.W.subIn K (.ref C) (.type "BaseException") = some true
  t : PySem.W.typeIn K (.ref C) = some (.type "type")
def oX (ec : Exn → Addr) {γ : Type} (o : Hp → Hp → VK → XK → γ → Prop) (F H : Hp) (Q : VK) (E : XK) (r : Except Exn γ) : Prop :=
  (∀ d, r = .ok d → o F H Q E d) ∧ ∀ x, r = .error x → ∀ F' H', Wk F H F' H' → E (.ref (ec x)) none H'
def oT (P : Addr) {γ : Type} (o : Hp → Hp → VK → XK → γ → Prop) (F H : Hp) (Q : VK) (E : XK) (r : γ) : Prop := TC P F H ∧ o F H Q E r
def bindX {α β : Type} (r : Except Exn α) (k : α → Except Exn β) : Except Exn β :=
  match r with
  | .ok d => k d
  | .error x => .error x
theorem bindX_ok {α β : Type} {r : Except Exn α} {k : α → Except Exn β} {m : Except Exn β} {d : α} (e : m = bindX r k) (h : r = .ok d) : m = k d := by
  subst h
  exact e
theorem bindX_err {α β : Type} {r : Except Exn α} {k : α → Except Exn β} {m : Except Exn β} {x : Exn} (e : m = bindX r k) (h : r = .error x) : m = .error x := by
  subst h
  exact e
def tryX {α R : Type} (r : Except Exn α) (k : α → R) (h : Exn → R) : R :=
  match r with
  | .ok d => k d
  | .error x => h x
theorem tryX_ok {α R : Type} {r : Except Exn α} {k : α → R} {h : Exn → R} {m : R} {d : α} (e : m = tryX r k h) (q : r = .ok d) : m = k d := by
  subst q
  exact e
theorem tryX_err {α R : Type} {r : Except Exn α} {k : α → R} {h : Exn → R} {m : R} {x : Exn} (e : m = tryX r k h) (q : r = .error x) : m = h x := by
  subst q
  exact e
def okv {α : Type} [Inhabited α] (r : Except Exn α) : α :=
  match r with
  | .ok d => d
  | .error _ => default
def isOk {α : Type} (r : Except Exn α) : Prop := ∃ d, r = .ok d
theorem okv_eq {α : Type} [Inhabited α] {r : Except Exn α} (h : isOk r) : r = .ok (okv r) := by
  obtain ⟨d, rfl⟩ := h
  rfl

/-! ### calls, by what they promise -/
def EvP (X : Cx) (σ : L2.St) (F H : Hp) (e : Expr) {ω : Type} (out : Hp → Hp → VK → XK → ω → Prop) (E : XK) (d : ω) : Prop :=
  ∀ F1 H1, Wk F H F1 H1 → ∀ Q : VK, (∀ F2 H2, Wk F1 H1 F2 H2 → out F2 H2 Q E d) → EW X e σ H1 Q
section
variable {X : Cx} {σ : L2.St} {F H : Hp} {e : Expr} {ω : Type} {E : XK} {ec : Exn → Addr} {P : Addr}
theorem EvP.ev [Rep ω] {d : ω} (h : EvP X σ F H e (oF X.K) E d) : Ev X σ F H e d := fun F1 H1 w Q q => h F1 H1 w Q fun F2 H2 w2 v F3 H3 w3 r => q v F3 H3 (w2.trans w3) r
theorem EvP.evn [Rep ω] {d : List ω} (h : EvP X σ F H e (oN X.K) E d) : EvN X σ F H e d := fun F1 H1 w Q q => h F1 H1 w Q fun F2 H2 w2 p xs F3 H3 w3 r f1 f2 f3 l => q p xs F3 H3 (w2.trans w3) r f1 (w2.hfree f2) f3 l
theorem EvP.ok [Inhabited ω] {o : Hp → Hp → VK → XK → ω → Prop} {r : Except Exn ω} (h : EvP X σ F H e (oX ec o) E r) (hr : isOk r) : EvP X σ F H e o E (okv r) := fun F1 H1 w Q q => h F1 H1 w Q fun F2 H2 w2 => ⟨fun d hd => by
  rw [hd] at q
  exact q F2 H2 w2, fun x hx => by
  obtain ⟨d, hd⟩ := hr
  rw [hd] at hx
  cases hx⟩
theorem EvP.tab {o : Hp → Hp → VK → XK → ω → Prop} {d : ω} (tc : TC P F H) (h : EvP X σ F H e (oT P o) E d) : EvP X σ F H e o E d := fun F1 H1 w Q q => h F1 H1 w Q fun F2 H2 w2 => ⟨tc.wk (w.trans w2), q F2 H2 w2⟩
theorem EvP.at {o : Hp → Hp → VK → XK → ω → Prop} {F' H' : Hp} {d : ω} (h : EvP X σ F H e o E d) (w : Wk F H F' H') : EvP X σ F' H' e o E d := fun F1 H1 w1 Q q => h F1 H1 (w.trans w1) Q q
end
/-- how what a callee raises is passed on -/
theorem at0 {X : Cx} {σ : L2.St} {E : XK} : PassesAt CX0 X σ E := fun _ _ _ _ _ _ h => h.elim
theorem atX0 {X : Cx} {σ : L2.St} : PassesAt (L2.CX X.prog X.w) X σ E0 := fun pins H s e s' I h => passL pins σ H s e s' I h
theorem atX {X : Cx} {W : WX} (tk : Takes X W) {σ : L2.St} : PassesAt (L2.CX X.prog X.w) X σ (fun cls d H => W cls d σ H) := passAt tk σ
section
variable {X : Cx} {σ : L2.St} {F H : Hp} {a b c d e o x1 x2 : Expr} {pos p apos : Pos} {α β γ δ ε ω : Type} [Rep α] [Rep β] [Rep γ] [Rep δ] [Rep ε] {CX : CXT} {k : Nat} {x m : Str} {ps : List Str} {out : Hp → Hp → VK → XK → ω → Prop} {E : XK}
theorem ew_callE {es : List Expr} {Pr : Hp → List V → Prop} {sp : Sp} (C : Cal X.prog X.w X.K X.mg X.base CX k x ps sp) (hx : PassesAt CX X σ E) (hr : Room k X.A) (ha : EvA X σ F H (e :: es) Pr) {F1 H1 : Hp} (w : Wk F H F1 H1) (Q : VK)
    (hs : ∀ vs F2 H2, Wk F1 H1 F2 H2 → Pr F2 vs → sp vs H2 Q E)
    (hg : Gl X x := by rfl) (hdb : (x == ("__debug__" : Str)) = false := by decide) (he : starEach (e :: es) X.env = (false, eval e X.env) :: starEach es X.env := by rfl) (hpl : (backTo pos (starEach es X.env)).any (·.1) = false := by rfl) : EW X (.Call (.Name x p) (e :: es) [] pos) σ H1 Q := by
  obtain ⟨f, fd, hm, hk, hb, Fn⟩ := C
  refine ew_at fun pins s I => wpAny_Call_Name_kw (ld_glob I hg hm ?_ hdb)
  refine PySem.W.callWith_K (h₀ := X.base) I.ok.mod.kin hk (thn (aw_pa.run pos pins s σ H1 (fun vs H2 => sp vs H2 Q E) I (ha F1 H1 w _ fun vs F2 H2 w2 r => hs vs F2 H2 w2 r)) fun us s2 ⟨vs, H2, I2, rv, q2⟩ => ⟨I2.kIn, ?_⟩) he hpl
  exact run_fnS (E := fun _ => E) Fn hr hb hx I2 rv q2
/-- a method as the top has left it -/
def MCal (P : Program) (w : World) (K : PySem.W.Frag) (mg : Str → Option Value) (base : Heap) (CX : CXT) (k : Nat) (C : Addr) (m : Str) (ps : List Str) (sp : Sp) : Prop :=
  ∃ f fd, Meth K C m f ∧ Binds K fd ps [] ∧ FnOk P w K mg base CX k f fd ps sp
end
/-! ### the rule -/
structure RuleD where
  count : Int
  full : List (List Int)
  size : Int
  deriving DecidableEq, Inhabited
instance : Rep RuleD := ⟨fun K F v d => ∃ a C dx fv, v = .ref a ∧ PySem.W.nsIn K mainGlobals "Rule" = some (some (.ref C)) ∧ F a = some (.ins C dx [("count", .int d.count), ("full", fv), ("size", .int d.size)]) ∧ rep K F fv d.full,
  fun h r => by
    obtain ⟨a, C, dx, fv, e, n, g, r⟩ := r
    exact ⟨a, C, dx, fv, e, n, h _ _ g, Rep.mono h r⟩⟩
structure RuleB (K : PySem.W.Frag) (mg : Str → Option Value) (C : Addr) : Prop where
  g : mg "Rule" = some (.ref C)
  ns : PySem.W.nsIn K mainGlobals "Rule" = some (some (.ref C))
  c : Cls K C
  n1 : NoAttr K C "count"
  n2 : NoAttr K C "full"
  n3 : NoAttr K C "size"
section
variable {X : Cx} {σ : L2.St} {F H : Hp} {a b c d e o x1 x2 : Expr} {pos p apos : Pos} {α β γ δ ε ω : Type} [Rep α] [Rep β] [Rep γ] [Rep δ] [Rep ε] {CX : CXT} {k : Nat} {x m : Str} {ps : List Str} {out : Hp → Hp → VK → XK → ω → Prop} {E : XK} {C : Addr}
theorem ew_methE {es : List Expr} {Pr : Hp → List V → Prop} {sp : Sp} {r : RuleD} (R : RuleB X.K X.mg C) (M : MCal X.prog X.w X.K X.mg X.base CX k C m ps sp) (hn : m ≠ "count" ∧ m ≠ "full" ∧ m ≠ "size") (hx : PassesAt CX X σ E) (hr : Room k X.A) (ho : Ev X σ F H o r) (ha : EvA X σ F H (e :: es) Pr) {F1 H1 : Hp} (w : Wk F H F1 H1) (Q : VK)
    (hs : ∀ v vs F2 H2, Wk F1 H1 F2 H2 → rep X.K F2 v r → Pr F2 vs → sp (v :: vs) H2 Q E) {pl : Sem Bool}
    (ht : eval (.Call (.Attribute o m apos) (e :: es) [] pos) X.env = (do
      let ov ← eval o X.env
      standAt apos.atName
      let (f, first) ← holding [ov] (getMethod ov m pl)
      callWith pos f first (backTo pos (starEach (e :: es) X.env)) (backToKw pos (keywordEach [] X.env))) := by rfl)
    (he : starEach (e :: es) X.env = (false, eval e X.env) :: starEach es X.env := by rfl) (hpl : (backTo pos (starEach es X.env)).any (·.1) = false := by rfl) : EW X (.Call (.Attribute o m apos) (e :: es) [] pos) σ H1 Q := by
  obtain ⟨f, fd, hm, hb, Fn⟩ := M
  refine ew_at fun pins s I => PySem.W.methodCall_KW (pl := pl) (thn (ew_pe.run pins s σ H1 (fun v H2 => ∃ F2, Wk F1 H1 F2 H2 ∧ rep X.K F2 v r) I (ho F1 H1 w _ fun v F2 H2 w2 r2 => ⟨F2, w2, r2⟩)) fun u s1 ⟨v, H2, I2, rv, F2, w2, r2⟩ => ?_) ht
  obtain ⟨q, C', dx, fv, rfl, hns, hF, hfull⟩ := r2
  have hC : C' = C := by
    have := hns.symm.trans R.ns
    cases this
    rfl
  subst hC
  obtain rfl : u = Value.ref q := rv
  have hl : List.lookup m [(("count" : Str), V.int r.count), (("full" : Str), fv), (("size" : Str), V.int r.size)] = none := by
    have g1 : (m == ("count" : Str)) = false := beq_eq_false_iff_ne.mpr hn.1
    have g2 : (m == ("full" : Str)) = false := beq_eq_false_iff_ne.mpr hn.2.1
    have g3 : (m == ("size" : Str)) = false := beq_eq_false_iff_ne.mpr hn.2.2
    simp only [List.lookup_cons, g1, g2, g3, List.lookup_nil]
  refine getmeth_ok I2 (w2.fh _ _ hF) R.c hm hl ?_
  refine PySem.W.callWith_K (first := [.ref q]) (h₀ := X.base) I.ok.mod.kin hm.kp (thn (aw_pa.run pos pins s1 σ H2 (fun vs H3 => sp (.ref q :: vs) H3 Q E) I2 (ha F2 H2 (w.trans w2) _ fun vs F3 H3 w3 r3 => hs _ vs F3 H3 (w2.trans w3) (Rep.mono w3.ff (show rep X.K F2 (V.ref q) r from ⟨q, _, dx, fv, rfl, hns, hF, hfull⟩)) r3)) fun us s2 ⟨vs, H3, I3, rvs, q3⟩ => ⟨I3.kIn, ?_⟩) he hpl
  exact run_fnS (us := .ref q :: us) (vs := .ref q :: vs) (E := fun _ => E) Fn hr hb hx I3 (.cons rfl rvs) q3
end
end MP
namespace MP
open PySem PySem.Spec PyProof.Rows L2 Rep
section
variable {X : Cx} {σ : L2.St} {F H : Hp} {a b c d e o x1 x2 : Expr} {pos p apos : Pos} {α β γ δ ε : Type} [Rep α] [Rep β] [Rep γ] [Rep δ] [Rep ε] {CX : CXT} {k : Nat} {x m : Str} {ps : List Str} {E : XK} {C : Addr}
section
variable {ω : Type} {out : Hp → Hp → VK → XK → ω → Prop} (hx : PassesAt CX X σ E) (hr : Room k X.A)
include hx hr
theorem pcal1 {pre : α → Prop} {m : α → ω} {u : α} (C : Cal X.prog X.w X.K X.mg X.base CX k x ps (sp1 X.K pre m out)) (h1 : Ev X σ F H a u) (hp : pre u) (hg : Gl X x := by rfl) (hdb : (x == ("__debug__" : Str)) = false := by decide) (he : starEach [a] X.env = (false, eval a X.env) :: starEach [] X.env := by rfl) (hpl : (backTo pos (starEach [] X.env)).any (·.1) = false := by rfl) :
    EvP X σ F H (.Call (.Name x p) [a] [] pos) out E (m u) := fun F1 H1 w Q q => ew_callE C hx hr (ea1 h1 he) w Q (fun vs F2 H2 w2 ⟨v, e, r⟩ => ⟨F2, u, v, e, w2.fh, r, hp, q F2 H2 w2⟩) hg hdb he hpl
theorem pcal2 {pre : α → β → Prop} {m : α → β → ω} {u : α} {v : β} (C : Cal X.prog X.w X.K X.mg X.base CX k x ps (sp2 X.K pre m out)) (h1 : Ev X σ F H a u) (h2 : Ev X σ F H b v) (hp : pre u v) (hg : Gl X x := by rfl) (hdb : (x == ("__debug__" : Str)) = false := by decide) (he : starEach [a, b] X.env = (false, eval a X.env) :: starEach [b] X.env := by rfl) (he2 : starEach [b] X.env = (false, eval b X.env) :: starEach [] X.env := by rfl) (hpl : (backTo pos (starEach [b] X.env)).any (·.1) = false := by rfl) :
    EvP X σ F H (.Call (.Name x p) [a, b] [] pos) out E (m u v) := fun F1 H1 w Q q => ew_callE C hx hr (ea2 h1 h2 he he2) w Q (fun vs F2 H2 w2 ⟨v1, v2, e, r1, r2⟩ => ⟨F2, u, v, v1, v2, e, w2.fh, r1, r2, hp, q F2 H2 w2⟩) hg hdb he hpl
theorem pcal3 {pre : α → β → γ → Prop} {m : α → β → γ → ω} {u : α} {v : β} {z : γ} (C : Cal X.prog X.w X.K X.mg X.base CX k x ps (sp3 X.K pre m out)) (h1 : Ev X σ F H a u) (h2 : Ev X σ F H b v) (h3 : Ev X σ F H c z) (hp : pre u v z) (hg : Gl X x := by rfl) (hdb : (x == ("__debug__" : Str)) = false := by decide) (he : starEach [a, b, c] X.env = (false, eval a X.env) :: starEach [b, c] X.env := by rfl) (he2 : starEach [b, c] X.env = (false, eval b X.env) :: starEach [c] X.env := by rfl) (he3 : starEach [c] X.env = (false, eval c X.env) :: starEach [] X.env := by rfl) (hpl : (backTo pos (starEach [b, c] X.env)).any (·.1) = false := by rfl) :
    EvP X σ F H (.Call (.Name x p) [a, b, c] [] pos) out E (m u v z) := fun F1 H1 w Q q => ew_callE C hx hr (ea_cons h1 (ea2 h2 h3 he2 he3) he) w Q (fun vs F2 H2 w2 ⟨v1, us, e, r1, v2, v3, e2, r2, r3⟩ => ⟨F2, u, v, z, v1, v2, v3, by rw [e, e2], w2.fh, r1, r2, r3, hp, q F2 H2 w2⟩) hg hdb he hpl
theorem pcal4 {pre : α → β → γ → δ → Prop} {m : α → β → γ → δ → ω} {u : α} {v : β} {z : γ} {y : δ} (C : Cal X.prog X.w X.K X.mg X.base CX k x ps (sp4 X.K pre m out)) (h1 : Ev X σ F H a u) (h2 : Ev X σ F H b v) (h3 : Ev X σ F H c z) (h4 : Ev X σ F H d y) (hp : pre u v z y) (hg : Gl X x := by rfl) (hdb : (x == ("__debug__" : Str)) = false := by decide) (he : starEach [a, b, c, d] X.env = (false, eval a X.env) :: starEach [b, c, d] X.env := by rfl) (he2 : starEach [b, c, d] X.env = (false, eval b X.env) :: starEach [c, d] X.env := by rfl) (he3 : starEach [c, d] X.env = (false, eval c X.env) :: starEach [d] X.env := by rfl) (he4 : starEach [d] X.env = (false, eval d X.env) :: starEach [] X.env := by rfl) (hpl : (backTo pos (starEach [b, c, d] X.env)).any (·.1) = false := by rfl) :
    EvP X σ F H (.Call (.Name x p) [a, b, c, d] [] pos) out E (m u v z y) := fun F1 H1 w Q q => ew_callE C hx hr (ea_cons h1 (ea_cons h2 (ea2 h3 h4 he3 he4) he2) he) w Q (fun vs F2 H2 w2 ⟨v1, us, e, r1, v2, us2, e2, r2, v3, v4, e3, r3, r4⟩ => ⟨F2, u, v, z, y, v1, v2, v3, v4, by rw [e, e2, e3], w2.fh, r1, r2, r3, r4, hp, q F2 H2 w2⟩) hg hdb he hpl
/-- a method with one argument -/
theorem pmth1 {pre : RuleD → α → Prop} {m' : RuleD → α → ω} {r : RuleD} {u : α} (R : RuleB X.K X.mg C) (M : MCal X.prog X.w X.K X.mg X.base CX k C m ps (sp2 X.K pre m' out)) (ho : Ev X σ F H o r) (h1 : Ev X σ F H a u) (hp : pre r u) (hn : m ≠ "count" ∧ m ≠ "full" ∧ m ≠ "size" := by decide) {pl : Sem Bool}
    (ht : eval (.Call (.Attribute o m apos) [a] [] pos) X.env = (do
      let ov ← eval o X.env
      standAt apos.atName
      let (f, first) ← holding [ov] (getMethod ov m pl)
      callWith pos f first (backTo pos (starEach [a] X.env)) (backToKw pos (keywordEach [] X.env))) := by rfl)
    (he : starEach [a] X.env = (false, eval a X.env) :: starEach [] X.env := by rfl) (hpl : (backTo pos (starEach [] X.env)).any (·.1) = false := by rfl) :
    EvP X σ F H (.Call (.Attribute o m apos) [a] [] pos) out E (m' r u) := fun F1 H1 w Q q => ew_methE R M hn hx hr ho (ea1 h1 he) w Q (fun v vs F2 H2 w2 rv ⟨v1, e, r1⟩ => ⟨F2, r, u, v, v1, by rw [e], w2.fh, rv, r1, hp, q F2 H2 w2⟩) ht he hpl
/-- .. with two -/
theorem pmth2 {pre : RuleD → α → β → Prop} {m' : RuleD → α → β → ω} {r : RuleD} {u : α} {v : β} (R : RuleB X.K X.mg C) (M : MCal X.prog X.w X.K X.mg X.base CX k C m ps (sp3 X.K pre m' out)) (ho : Ev X σ F H o r) (h1 : Ev X σ F H a u) (h2 : Ev X σ F H b v) (hp : pre r u v) (hn : m ≠ "count" ∧ m ≠ "full" ∧ m ≠ "size" := by decide) {pl : Sem Bool}
    (ht : eval (.Call (.Attribute o m apos) [a, b] [] pos) X.env = (do
      let ov ← eval o X.env
      standAt apos.atName
      let (f, first) ← holding [ov] (getMethod ov m pl)
      callWith pos f first (backTo pos (starEach [a, b] X.env)) (backToKw pos (keywordEach [] X.env))) := by rfl)
    (he : starEach [a, b] X.env = (false, eval a X.env) :: starEach [b] X.env := by rfl) (he2 : starEach [b] X.env = (false, eval b X.env) :: starEach [] X.env := by rfl) (hpl : (backTo pos (starEach [b] X.env)).any (·.1) = false := by rfl) :
    EvP X σ F H (.Call (.Attribute o m apos) [a, b] [] pos) out E (m' r u v) := fun F1 H1 w Q q => ew_methE R M hn hx hr ho (ea2 h1 h2 he he2) w Q (fun v' vs F2 H2 w2 rv ⟨v1, v2, e, r1, r2⟩ => ⟨F2, r, u, v, v', v1, v2, by rw [e], w2.fh, rv, r1, r2, hp, q F2 H2 w2⟩) ht he hpl
end
/-! ### fields -/
theorem ev_fld {f : Str} {r : RuleD} (R : RuleB X.K X.mg C) (n : NoAttr X.K C f) (ho : Ev X σ F H e r) (hb : attributeBase e f X.env (eval e X.env) = eval e X.env) {d : α}
    (hf : ∀ F' fv, rep X.K F' fv r.full → ∃ v, List.lookup f [(("count" : Str), V.int r.count), (("full" : Str), fv), (("size" : Str), V.int r.size)] = some v ∧ rep X.K F' v d) : Ev X σ F H (.Attribute e f pos) d := fun F1 H1 w Q q =>
  ⟨_, pe_fld ew_pe hb, ho F1 H1 w _ fun v F2 H2 w2 r2 => by
    obtain ⟨a, C', dx, fv, rfl, hns, hF, hfull⟩ := r2
    have hC : C' = C := by
      have := hns.symm.trans R.ns
      cases this
      rfl
    subst hC
    obtain ⟨v, h1, h2⟩ := hf F2 fv hfull
    exact ⟨a, C', dx, _, v, rfl, w2.fh _ _ hF, R.c, n, h1, q v F2 H2 w2 h2⟩⟩
theorem ev_count {r : RuleD} (R : RuleB X.K X.mg C) (ho : Ev X σ F H e r) (hb : attributeBase e "count" X.env (eval e X.env) = eval e X.env := by rfl) : Ev X σ F H (.Attribute e "count" pos) r.count := ev_fld R R.n1 ho hb fun F' fv h => ⟨_, rfl, rfl⟩
theorem ev_full {r : RuleD} (R : RuleB X.K X.mg C) (ho : Ev X σ F H e r) (hb : attributeBase e "full" X.env (eval e X.env) = eval e X.env := by rfl) : Ev X σ F H (.Attribute e "full" pos) r.full := ev_fld R R.n2 ho hb fun F' fv h => ⟨fv, rfl, h⟩
theorem ev_size {r : RuleD} (R : RuleB X.K X.mg C) (ho : Ev X σ F H e r) (hb : attributeBase e "size" X.env (eval e X.env) = eval e X.env := by rfl) : Ev X σ F H (.Attribute e "size" pos) r.size := ev_fld R R.n3 ho hb fun F' fv h => ⟨_, rfl, rfl⟩
/-! ### statements that may raise -/
variable {D : Ends} {ec : Exn → Addr} {ω : Type} [Rep ω]
theorem s_asgX (i : Nat) {x : Str} {pos' : Pos} {r : Except Exn ω} (hN : X.N.Nodup) (h : EvP X σ F H e (oX ec (oF X.K)) E r) (fh : Same F H) (k : ∀ d, r = .ok d → ∀ v F' H', Wk F H F' H' → rep X.K F' v d → D.nx (σ.set i (some v)) H') (kx : ∀ x, r = .error x → ∀ F' H', Wk F H F' H' → E (.ref (ec x)) none H')
    (hi : X.N[i]? = some x := by rfl) (hx : Loc X.env.scope x := by first | exact Or.inl rfl | exact Or.inr rfl)
    (hs : swapsWith e (some (.Name x pos')) pos.line X.env = pure false := by rfl) (hf : X.fn x = true ∨ X.env.scope.names.lookup x = some .local := by first | exact .inl rfl | exact .inr rfl) : SW X (.Assign [.Name x pos'] e pos) D σ H :=
  ⟨_, ps_set hN hi hx ew_pe hs hf, h F H (.refl fh) _ fun F2 H2 w2 => ⟨fun d hd v F3 H3 w3 r3 => k d hd v F3 H3 (w2.trans w3) r3, fun x hx F3 H3 w3 => kx x hx F3 H3 (w2.trans w3)⟩⟩
theorem s_retX {r : Except Exn ω} (h : EvP X σ F H e (oX ec (oF X.K)) E r) (fh : Same F H) (k : ∀ d, r = .ok d → ∀ v F' H', Wk F H F' H' → rep X.K F' v d → D.rt v H') (kx : ∀ x, r = .error x → ∀ F' H', Wk F H F' H' → E (.ref (ec x)) none H') : SW X (.Return (some e) pos) D σ H :=
  ⟨_, ps_ret ew_pe, h F H (.refl fh) _ fun F2 H2 w2 => ⟨fun d hd v F3 H3 w3 r3 => k d hd v F3 H3 (w2.trans w3) r3, fun x hx F3 H3 w3 => kx x hx F3 H3 (w2.trans w3)⟩⟩
theorem s_exprX {r : Except Exn ω} (h : EvP X σ F H e (oX ec (oF X.K)) E r) (fh : Same F H) (k : ∀ d, r = .ok d → ∀ v F' H', Wk F H F' H' → rep X.K F' v d → D.nx σ H') (kx : ∀ x, r = .error x → ∀ F' H', Wk F H F' H' → E (.ref (ec x)) none H')
    (hs : swapsWith e none pos.line X.env = pure false := by rfl) : SW X (.Expr e pos) D σ H :=
  ⟨_, ps_expr ew_pe hs, h F H (.refl fh) _ fun F2 H2 w2 => ⟨fun d hd v F3 H3 w3 r3 => k d hd v F3 H3 (w2.trans w3) r3, fun x hx F3 H3 w3 => kx x hx F3 H3 (w2.trans w3)⟩⟩
theorem s_raise {W : WX} {nm msg : Str} {j : Nat} {p2 pos' : Pos} {C : Addr} (tk : Takes X W) (B : Ex1 X.K X.mg nm C) (h : W (.ref C) none σ H) (hc : X.calm = true := by rfl) (hg : Gl X nm := by rfl) (hdb : (nm == ("__debug__" : Str)) = false := by decide) :
    SW X (.Raise (some (.Call (.Name nm p) [.Constant (.str msg) j p2] [] pos)) none pos') D σ H :=
  ⟨_, ps_raise hc tk (pmk_own PySem.F.excBase_ValueError B.q B.g B.k (raises_own B.b B.t) hg hdb), h⟩
/-! ### a rule is made -/
def spI (K : PySem.W.Frag) (ec : Exn → Addr) (RC : Addr) (pre : Int → List (List Int) → Prop) (m : Int → List (List Int) → Except Exn RuleD) : Sp := fun vs H Q E =>
  ∃ F H0 x dx c t vc vt, vs = [.ref x, vc, vt] ∧ Same F H0 ∧ H0 x = none ∧ H0 dx = none ∧ dx ≠ x ∧ H = upd (upd H0 dx (.own x)) x (.ins RC dx []) ∧ rep K F vc c ∧ rep K F vt t ∧ pre c t ∧
    oX ec (fun F H0 Q _ d => ∀ F' H', Wk F H0 F' H' → rep K F' (.ref x) d → Q .non H') F H0 Q E (m c t)
structure MkB (P : Program) (w : World) (K : PySem.W.Frag) (mg : Str → Option Value) (base : Heap) (k : Nat) (C : Addr) (ps : List Str) (sp : Sp) : Prop where
  ex : ∃ f fd, Mk K C f ∧ Binds K fd ps [] ∧ FnOk P w K mg base (L2.CX P w) k f fd ps sp
theorem pmake {pre : Int → List (List Int) → Prop} {m' : Int → List (List Int) → Except Exn RuleD} {u : Int} {v : List (List Int)} (R : RuleB X.K X.mg C) (M : MkB X.prog X.w X.K X.mg X.base k C ps (spI X.K ec C pre m')) (hx : Passes (L2.CX X.prog X.w) X E) (hr : Room (k + 1) X.A) (h1 : Ev X σ F H a u) (h2 : Ev X σ F H b v) (hp : pre u v)
    (hg : Gl X "Rule" := by rfl) (he : starEach [a, b] X.env = (false, eval a X.env) :: starEach [b] X.env := by rfl) (he2 : starEach [b] X.env = (false, eval b X.env) :: starEach [] X.env := by rfl) (hpl : (backTo pos (starEach [b] X.env)).any (·.1) = false := by rfl) :
    EvP X σ F H (.Call (.Name "Rule" p) [a, b] [] pos) (oX ec (oF X.K)) E (m' u v) := fun F1 H1 w Q q => by
  obtain ⟨f, fd, hm, hb, Fn⟩ := M.ex
  refine ⟨_, pe_make hm Fn hr hg R.g hb .nil hx aw_pa (by decide) he hpl, ?_⟩
  refine ea2 h1 h2 he he2 F1 H1 w _ fun vs F2 H2 w2 ⟨v1, v2, e, r1, r2⟩ => fun x dx nx ndx ne => ?_
  refine ⟨F2, H2, x, dx, u, v, v1, v2, by rw [e]; rfl, w2.fh, nx, ndx, ne, rfl, r1, r2, hp, ?_, ?_⟩
  · intro d hd F' H' w3 r3
    exact ⟨rfl, (q F2 H2 w2).1 d hd _ F' H' w3 r3⟩
  · exact fun x hx F' H' w3 => (q F2 H2 w2).2 x hx F' H' w3
end
/-! ### list(known), sorted tuples -/
section
variable {X : Cx} {σ : L2.St} {F H : Hp} {a : Expr} {pos p : Pos}
theorem keys_reps {H : Hp} {K : PySem.W.Frag} {F : Hp} : ∀ {kvs : List (List Key × V)} {bs : List Addr} {ks : List (List Int)}, IsKeys H kvs bs → KvOf kvs ks → (∀ k ∈ ks, k.length ≤ sizeLine) → (∀ b ∈ bs, F b = H b) → reps K F (bs.map V.ref) (ks.map Tup.mk)
  | [], _, [], .nil, _, _, _ => .nil
  | [], _, _ :: _, .nil, h, _, _ => by simp [KvOf] at h
  | _ :: _, _, [], .cons _ _, h, _, _ => by simp [KvOf] at h
  | p :: kvs, _, k :: ks, .cons (b := b) (l₂ := bs) h t, hk, hl, hF => by
    unfold KvOf at hk
    rw [List.map_cons, List.map_cons, List.cons.injEq] at hk
    refine .cons ⟨b, rfl, ?_, hl k List.mem_cons_self⟩ (keys_reps t hk.2 (fun k hk => hl k (List.mem_cons_of_mem _ hk)) fun b hb => hF b (List.mem_cons_of_mem _ hb))
    rw [hF b List.mem_cons_self, h, hk.1, keyL_V]
theorem keys_tup {H : Hp} : ∀ {kvs : List (List Key × V)} {bs : List Addr}, IsKeys H kvs bs → ∀ b ∈ bs, ∃ xs, H b = some (.tup xs)
  | _, _, .nil => fun _ z => nomatch z
  | _, _, .cons h t => fun b hb => by
    rcases List.mem_cons.mp hb with rfl | hb
    · exact ⟨_, h⟩
    · exact keys_tup t b hb
theorem keys_len {kvs : List (List Key × V)} {ks : List (List Int)} (h : KvOf kvs ks) : ks.length = kvs.length := by
  have e := congrArg List.length h
  rw [List.length_map, List.length_map] at e
  exact e.symm
/-- tuples that stand are told -/
def toldT (cs : List Addr) (F H : Hp) : Hp := fun b => if b ∈ cs then H b else F b
theorem toldT_at {cs : List Addr} {F H : Hp} : ∀ b ∈ cs, toldT cs F H b = H b := fun b hb => if_pos hb
theorem Wk.tups {F H : Hp} {cs : List Addr} (s : Same F H) (tp : ∀ b ∈ cs, ∃ xs, H b = some (.tup xs)) : Wk F H (toldT cs F H) H := by
  refine ⟨fun b o e => ?_, Kp.refl _, fun b o e => ?_, fun b o e => ?_⟩
  · show (if b ∈ cs then H b else F b) = _
    split
    · exact s _ _ e
    · exact e
  · have e : (if b ∈ cs then H b else F b) = _ := e
    split at e
    · exact e
    · exact s _ _ e
  · have e : (if b ∈ cs then H b else F b) = _ := e
    split at e
    · rename_i hm
      exact .inr (.inr (tp b hm))
    · exact .inl e
theorem evn_listK {d : Known} (hc : X.calm = true) (hm : X.mg "list" = none) (ha : Ev X σ F H a d) (hg : Gl X "list" := by rfl) (hs : starEach [a] X.env = (false, eval a X.env) :: starEach [] X.env := by rfl) (hpl : (backTo pos (starEach [] X.env)).any (·.1) = false := by rfl) :
    EvN X σ F H (.Call (.Name "list" p) [a] [] pos) (d.ks.map Tup.mk) :=
  evn_callTy (call_list_dT hc) hm (by decide +kernel) (ea1 ha hs) (fun vs F1 H1 s ⟨v, e, r⟩ Q q => by
    obtain ⟨l, kvs, rfl, h1, hk, l1, hz⟩ := r
    refine ⟨l, kvs, e, .inl (s _ _ h1), fun p bs hn hb => ?_⟩
    have w1 := Wk.tups s (keys_tup hb)
    have rr := keys_reps (K := X.K) (F := toldT bs F1 H1) hb hk hz toldT_at
    exact q p _ _ _ (w1.trans (.lay w1.fh hn)) rr (w1.fh.free hn) hn upd_same (by rw [rr.len, List.length_map, keys_len hk]; exact l1)) hg (by decide) (by decide) hs hpl
theorem dp_ints {K : PySem.W.Frag} {H : Hp} (ns : List Int) : DpAll K H (ns.map V.int) (ns.map PyData.int) := dp_all (α := Int) (H := H) (K := K) (reps_of_int ns)
instance : Pyd Tup where
  py := fun d => .tuple (d.ns.map .int)
  dp := fun h => by
    obtain ⟨a, rfl, h1, l⟩ := h
    exact .tup (SqT.of h1) (dp_ints _)
  lay := fun d => by simp only [PyData.canLay0]; exact lay_all (α := Int) d.ns
  dep := 1
  depth := fun d => by
    have : PyData.depthAll (d.ns.map .int) ≤ 0 := depth_all (α := Int) d.ns
    simp only [PyData.depth]
    omega
  eqv := fun a b => by
    have : PyData.eqvAll (a.ns.map .int) (b.ns.map .int) = decide (a.ns = b.ns) := eqv_all (α := Int) a.ns b.ns
    simp only [PyData.eqv, this]
    cases a
    cases b
    simp
/-- tuples in order -/
def srtT (ts : List Tup) : List Tup := ts.mergeSort fun a b => decide (a.ns ≤ b.ns)
def encT (t : Tup) : PyData := .tuple (t.ns.map .int)
theorem leT : PySem.W.dataLe false encT = fun a b => decide (a.ns ≤ b.ns) := (show PySem.W.dataLe false encT = PySem.W.dataLe false (fun t : Tup => PyData.list (t.ns.map .int)) from rfl).trans (PySem.W.dataLe_rows fun t : Tup => t.ns)
def TupAt (H : Hp) (v : Value) (t : Tup) : Prop := ∃ b, v = .ref b ∧ H b = some (.tup (t.ns.map V.int))
theorem depth_ints : ∀ ns : List Int, PyData.depthAll (ns.map .int) = 0
  | [] => by simp [PyData.depthAll]
  | n :: ns => by simp [PyData.depthAll, PyData.depth, depth_ints ns]
theorem each_refs {R : Value → Tup → Prop} {R' : Addr → Tup → Prop} (h : ∀ b t, R' b t → R (.ref b) t) : ∀ {bs : List Addr} {ts : List Tup}, PySem.W.EachIs R' bs ts → PySem.W.EachIs R (bs.map Value.ref) ts
  | _, _, .nil => .nil
  | _, _, .cons r t => .cons (h _ _ r) (each_refs h t)
theorem each_back : ∀ {out : List Value} {ts : List Tup}, PySem.W.EachIs (TupAt H) out ts → ∃ cs : List Addr, out = cs.map Value.ref ∧ PySem.W.EachIs (fun b (t : Tup) => H b = some (.tup (t.ns.map V.int))) cs ts
  | _, _, .nil => ⟨[], rfl, .nil⟩
  | _, _, .cons ⟨b, e, h⟩ t => by
    obtain ⟨cs, e2, r⟩ := each_back t
    exact ⟨b :: cs, by rw [e, e2]; rfl, .cons h r⟩
theorem vals_ref_of : ∀ {bs : List Addr} {us : List Value}, Vals (bs.map V.ref) us → us = bs.map Value.ref
  | [], _, .nil => rfl
  | b :: bs, _, .cons r t => by
    rw [vals_ref_of t]
    obtain rfl := r
    rfl
theorem run_sortedT {pins : List (Addr × Obj)} {s : Shared} {l : Addr} {bs : List Addr} {ts : List Tup} {Q : VK} (hu : X.A.units + 64 < cLine) (I : Inv X pins σ H s) (hl : SqL X.K H l (bs.map V.ref)) (hb : PySem.W.EachIs (fun b (t : Tup) => H b = some (.tup (t.ns.map V.int))) bs ts) (hne : ts.length ≤ 1 ∨ ∀ t ∈ ts, t.ns ≠ [])
    (q : ∀ (p : Addr) (cs : List Addr), H p = none → PySem.W.EachIs (fun b (t : Tup) => H b = some (.tup (t.ns.map V.int))) cs (srtT ts) → Q (.ref p) (upd H p (.lst (cs.map V.ref)))) :
    wpAny (model X.prog X.w) X.A (call (.builtin "sorted") [.ref l]) (EP X pins σ Q) X.xe s := by
  obtain ⟨its, rv, pl, hz⟩ := I.list hl
  obtain rfl := vals_ref_of rv
  have hlen : bs.length = ts.length := hb.length
  have hz' : bs.length ≤ sizeLine := by rw [List.length_map] at hz; exact hz
  have done : ∀ (out : Array Value) (cs : List Addr), out.toList = cs.map Value.ref → cs.length = bs.length → PySem.W.EachIs (fun b (t : Tup) => H b = some (.tup (t.ns.map V.int))) cs (srtT ts) → EP X pins σ Q (.ref (s.heap.objs.size + 1)) { s with heap := sortedAll s.heap (bs.map Value.ref) out } := fun out cs e hl2 hc => by
    obtain ⟨ep, he⟩ := PyProof.Rows.sortedAll_at s.heap (bs.map Value.ref) out
    have ea : (cs.map Value.ref).toArray = out := by rw [← e, Array.toArray_toList]
    refine ⟨.ref _, upd H (s.heap.objs.size + 1) (.lst (cs.map V.ref)), I.laid (t' := s.toks) (fun _ _ => PyProof.Rows.sortedAll_old) (Nat.le_succ _) ⟨by rw [List.length_map, hl2]; exact hz', cs.map Value.ref, ep, vals_refs cs, by rw [ea]; exact he⟩, rfl, q _ _ (I.hok.fresh (Nat.le_succ _)) hc⟩
  by_cases h1 : ts.length ≤ 1
  · refine SrtO.sorted_ord (ltv := fun _ _ => false) ⟨fun _ _ h => (nomatch h), fun _ _ _ _ _ => rfl⟩ pl.isList (by rw [List.length_map]; exact hz') (fun h2 => ?_) fun out _ hb2 => ?_
    · rw [List.length_map] at h2
      omega
    · have ho : out = bs.map Value.ref := by
        have hp := hb2.perm
        cases bs with
        | nil => exact hp.eq_nil
        | cons b r =>
          cases r with
          | nil => exact List.perm_singleton.mp hp
          | cons c r =>
            simp only [List.length_cons] at hlen
            omega
      have hs : srtT ts = ts := by
        unfold srtT
        cases ts with
        | nil => simp
        | cons t r =>
          cases r with
          | nil => exact List.mergeSort_singleton _
          | cons c r => simp at h1
      rw [ho]
      exact done _ bs (by simp) rfl (by rw [hs]; exact hb)
  · have hne' : ∀ t ∈ ts, t.ns ≠ [] := hne.resolve_left h1
    have eR : PySem.W.EachIs (TupAt H) (bs.map Value.ref) ts := each_refs (fun b t h => ⟨b, rfl, h⟩) hb
    have eX : PySem.W.EachIs (fun v (t : Tup) => ∃ as, Reads s.heap v (encT t) as) (bs.map Value.ref) ts := each_refs (fun b t h => by
      obtain ⟨_, its2, r2, o, ho, hc, n, hd⟩ := I.hok _ _ h
      exact ⟨[], .tuple ho hc hd (by simpa using PyProof.Rows.IntsAre.reads s.heap r2.ints)⟩) hb
    have al : PySem.W.AllAlike (ts.map encT) := PySem.W.AllAlike.of (fun a b => by
      unfold encT
      simp only [PySem.W.alike]
      exact PySem.W.alike_ints _ _)
    have so : PySem.W.Sortable (ts.map encT) := Or.inl (fun d hd => by
      obtain ⟨t, ht, rfl⟩ := List.mem_map.mp hd
      cases hc : t.ns with
      | nil => exact absurd hc (hne' t ht)
      | cons x r => exact ⟨.int x, r.map .int, by unfold encT; rw [hc]; rfl⟩)
    have dp : ∀ t : Tup, t ∈ ts → X.A.units + 2 + (encT t).depth < cLine := fun t _ => by
      have hd : (encT t).depth = 1 := by
        unfold encT
        simp [PyData.depth, depth_ints]
      omega
    refine PySem.W.sorted_data (enc := encT) pl.isList eR eX al so (by rw [← hlen]; exact hz') dp fun out hl2 hout => ?_
    rw [leT] at hout
    obtain ⟨cs, rfl, hc⟩ := each_back hout
    refine done _ cs (by simp) ?_ hc
    rw [List.length_map] at hl2
    rw [hl2, hlen]
theorem cr_sortedT (hu : X.A.units + 64 < cLine) : CallR X (.builtin "sorted") (fun xs H Q => ∃ l bs ts, xs = [V.ref l] ∧ SqL X.K H l (bs.map V.ref) ∧ PySem.W.EachIs (fun b (t : Tup) => H b = some (.tup (t.ns.map V.int))) bs ts ∧ (ts.length ≤ 1 ∨ ∀ t ∈ ts, t.ns ≠ []) ∧
    ∀ (p : Addr) (cs : List Addr), H p = none → PySem.W.EachIs (fun b (t : Tup) => H b = some (.tup (t.ns.map V.int))) cs (srtT ts) → Q (.ref p) (upd H p (.lst (cs.map V.ref)))) := by
  intro pins s σ H xs us Q I r h
  obtain ⟨l, bs, ts, rfl, hl, hb, hne, q⟩ := h
  obtain rfl := Vals.ref1 r
  exact run_sortedT hu I hl hb hne q
theorem reps_tup {K : PySem.W.Frag} {F : Hp} : ∀ {xs : List V} {ts : List Tup}, reps K F xs ts → ∃ bs : List Addr, xs = bs.map V.ref ∧ PySem.W.EachIs (fun b (t : Tup) => F b = some (.tup (t.ns.map V.int))) bs ts ∧ ∀ t ∈ ts, t.ns.length ≤ sizeLine
  | _, _, .nil => ⟨[], rfl, .nil, fun _ z => nomatch z⟩
  | _, _, .cons ⟨b, e, h, l⟩ t => by
    obtain ⟨bs, e2, r, l2⟩ := reps_tup t
    refine ⟨b :: bs, by rw [e, e2]; rfl, .cons h r, fun t ht => ?_⟩
    rcases List.mem_cons.mp ht with rfl | ht
    · exact l
    · exact l2 t ht
theorem tup_reps {K : PySem.W.Frag} {F : Hp} : ∀ {bs : List Addr} {ts : List Tup}, PySem.W.EachIs (fun b (t : Tup) => F b = some (.tup (t.ns.map V.int))) bs ts → (∀ t ∈ ts, t.ns.length ≤ sizeLine) → reps K F (bs.map V.ref) ts
  | _, _, .nil, _ => .nil
  | _, _, .cons h r, l => .cons ⟨_, rfl, h, l _ List.mem_cons_self⟩ (tup_reps r fun t ht => l t (List.mem_cons_of_mem _ ht))
theorem each_imp {R R' : Addr → Tup → Prop} (h : ∀ b t, R b t → R' b t) : ∀ {bs : List Addr} {ts : List Tup}, PySem.W.EachIs R bs ts → PySem.W.EachIs R' bs ts
  | _, _, .nil => .nil
  | _, _, .cons r t => .cons (h _ _ r) (each_imp h t)
theorem each_told {F H : Hp} : ∀ {cs : List Addr} {ts : List Tup} (ds : List Addr), (∀ b ∈ cs, b ∈ ds) → PySem.W.EachIs (fun b (t : Tup) => H b = some (.tup (t.ns.map V.int))) cs ts → PySem.W.EachIs (fun b (t : Tup) => toldT ds F H b = some (.tup (t.ns.map V.int))) cs ts
  | _, _, _, _, .nil => .nil
  | _, _, ds, hd, .cons h t => .cons ((toldT_at _ (hd _ List.mem_cons_self)).trans h) (each_told ds (fun b hb => hd b (List.mem_cons_of_mem _ hb)) t)
theorem each_tup {H : Hp} : ∀ {cs : List Addr} {ts : List Tup}, PySem.W.EachIs (fun b (t : Tup) => H b = some (.tup (t.ns.map V.int))) cs ts → ∀ b ∈ cs, ∃ xs, H b = some (.tup xs)
  | _, _, .nil => fun _ z => nomatch z
  | _, _, .cons h t => fun b hb => by
    rcases List.mem_cons.mp hb with rfl | hb
    · exact ⟨_, h⟩
    · exact each_tup t b hb
theorem evn_sortedT {ts : List Tup} {k : Nat} (hr : Room k X.A) (hm : X.mg "sorted" = none) (ha : Ev X σ F H a ts) (hne : ts.length ≤ 1 ∨ ∀ t ∈ ts, t.ns ≠ []) (hg : Gl X "sorted" := by rfl) (hs : starEach [a] X.env = (false, eval a X.env) :: starEach [] X.env := by rfl) (hpl : (backTo pos (starEach [] X.env)).any (·.1) = false := by rfl) :
    EvN X σ F H (.Call (.Name "sorted" p) [a] [] pos) (srtT ts) :=
  evn_callB (cr_sortedT (hu64 hr)) hm (by decide +kernel) (ea1 ha hs) (fun vs F1 H1 s ⟨v, e, r⟩ Q q => by
    obtain ⟨l, us, rfl, h1, l1, r1⟩ := r
    obtain ⟨bs, rfl, hb, hl⟩ := reps_tup r1
    refine ⟨l, bs, ts, e, SqL.of (s _ _ h1), each_imp (fun b t h => s _ _ h) hb, hne, fun p cs hn hc => ?_⟩
    have w1 := Wk.tups (cs := cs) s (each_tup hc)
    have rr := tup_reps (K := X.K) (each_told (F := F1) cs (fun _ h => h) hc) (fun t ht => hl t (List.mem_mergeSort.mp ht))
    exact q p _ _ _ (w1.trans (.lay w1.fh hn)) rr (w1.fh.free hn) hn upd_same (by
      rw [rr.len]
      unfold srtT
      rw [List.length_mergeSort, ← r1.len]
      exact l1)) hg (by decide) (by decide) hs hpl
/-! ### an object that is being made -/
variable {C : Addr} {o e : Expr} {α : Type} [Rep α] {D : Ends}
theorem s_fld {f : Str} {x dx : Addr} {fs : List (Str × V)} {d : α} {p' : Pos} (c : Cls X.K C) (n : NoAttr X.K C f) (ho : EvR X σ F H o x) (h : Ev X σ F H e d) (fh : Same F H) (hx : H x = some (.ins C dx fs)) (hl : fs.length < 1000)
    (k : ∀ v F' H', Wk F H F' H' → rep X.K F' v d → D.nx σ (upd H' x (.ins C dx (putF f v fs)))) (hs : swapsWith e (some (.Attribute o f p')) pos.line X.env = pure false := by rfl) : SW X (.Assign [.Attribute o f p'] e pos) D σ H :=
  ⟨_, ps_fld ew_pe ew_pe hs, h F H (.refl fh) _ fun v F1 H1 w1 r => ho F1 H1 w1 _ fun F2 H2 w2 => ⟨x, C, dx, fs, rfl, (w1.trans w2).hh _ _ hx, c, n, hl, k v F2 H2 (w1.trans w2) (Rep.mono w2.ff r)⟩⟩
theorem ev_fldO {f : Str} {x dx : Addr} {fs : List (Str × V)} {v : V} {d : α} (c : Cls X.K C) (n : NoAttr X.K C f) (ho : EvR X σ F H o x) (hx : H x = some (.ins C dx fs)) (l : fs.lookup f = some v) (r : rep X.K F v d) (hb : attributeBase o f X.env (eval o X.env) = eval o X.env := by rfl) : Ev X σ F H (.Attribute o f pos) d := fun F1 H1 w Q q =>
  ⟨_, pe_fld ew_pe hb, ho F1 H1 w _ fun F2 H2 w2 => ⟨x, C, dx, fs, v, rfl, (w.trans w2).hh _ _ hx, c, n, l, q v F2 H2 w2 (Rep.mono (w.ff.trans w2.ff) r)⟩⟩
def clsBody : Stmt → List Stmt
  | .ClassDef (body := b) .. => b
  | _ => []
/-! ### try -/
def tsOf (X : Cx) (suite : List Stmt) : Addr → Value → Option Addr → TS := fun a cls d D σ H => ∀ (oe : Obj) (pn : List (Addr × Obj)), Zc cls d oe → (∃ vs, oe.data = .fields vs) → BW (X.suite a ((a, oe) :: pn)) suite D σ H
theorem hds_nil : HdsOk X [] [] := .nil
theorem hds_cons {x : Str} {c : Value} {b₀ : Stmt} {suite : List Stmt} {np pos' : Pos} {hds : List ExceptHandler} {l : List (Value × (Addr → Value → Option Addr → TS))} (hc : Names X x c) (r : HdsOk X hds l) :
    HdsOk X (.ExceptHandler (some (.Name x np)) none (b₀ :: suite) pos' :: hds) ((c, tsOf X (b₀ :: suite)) :: l) :=
  .cons hc (fun a oe cls d pn hz hf => ⟨fun pins s σ H D I h => bw_pss.run pins s σ H D I (h oe pn hz hf)⟩) r
theorem s_try {body : List Stmt} {h₀ : ExceptHandler} {hds : List ExceptHandler} {l : List (Value × (Addr → Value → Option Addr → TS))} (hh : HdsOk X (h₀ :: hds) l)
    (hb : ∀ (pn : List (Addr × Obj)) (xe : Value → Shared → Prop), Takes (X.tr pn xe) (wMany X.K (fun _ _ _ _ => False) D l) → BW (X.tr pn xe) body D σ H) (hs : X.stack = X.env :: X.outer := by rfl) (hf : X.env.frame = some X.env.locals := by rfl) : SW X (.Try body (h₀ :: hds) [] [] pos) D σ H :=
  ⟨_, ps_try_many (tb := fun W D σ H => ∀ (pn : List (Addr × Obj)) (xe : Value → Shared → Prop), Takes (X.tr pn xe) W → BW (X.tr pn xe) body D σ H) hs hf L2.takes0 (fun W pn xe tk _ => ⟨fun pins s σ H D I h => bw_pss.run pins s σ H D I (h pn xe tk)⟩) hh, hb⟩
theorem exm_yes {K : PySem.W.Frag} {Wout : WX} {c cls : Value} {ts : Addr → Value → Option Addr → TS} {l : List (Value × (Addr → Value → Option Addr → TS))} {b : Bool} (h : PySem.W.exmOne K cls c = some b) (hb : b = true) (k : ∀ a, H a = none → ts a cls none D σ H) : wMany K Wout D ((c, ts) :: l) cls none σ H :=
  ⟨b, h, fun _ => k, fun z => by rw [hb] at z; cases z⟩
theorem exm_no {K : PySem.W.Frag} {Wout : WX} {c cls : Value} {ts : Addr → Value → Option Addr → TS} {l : List (Value × (Addr → Value → Option Addr → TS))} {b : Bool} (h : PySem.W.exmOne K cls c = some b) (hb : b = false) (k : wMany K Wout D l cls none σ H) : wMany K Wout D ((c, ts) :: l) cls none σ H :=
  ⟨b, h, fun z => (by rw [hb] at z; cases z), fun _ => k⟩
end
/-! ### what the top has left -/
def DfM (K : PySem.W.Frag) (RC : Addr) (m qual : Str) (st : Stmt) : Prop := ∃ (f : Addr) (fd : FuncData), Meth K RC m f ∧ Fun K m qual st f fd
theorem dfm_mk {K : PySem.W.Frag} {RC : Addr} {m qual : Str} {st : Stmt} {f : Addr} {oc : Value} {od an : Option Addr} {osl : Array (Option Value)} {kV doc pm cdv ct : Value} (a : PySem.W.findIn K (.ref RC) m = some (some (.ref f))) (i : PySem.W.isFn K (.ref f) = true)
    (l : K.lookup f = some ⟨oc, od, .func (PySem.W.fnOf m qual (defArgs st) (defBody st) (defScope st) .none kV doc pm an cdv ct), osl⟩) (c : PySem.W.codeIn K cdv qual = true) (k : PySem.W.keepIn K (.ref f) = true) : DfM K RC m qual st := ⟨f, _, ⟨a, i, k⟩, fun_mk (st := st) l c k⟩
def DfI (K : PySem.W.Frag) (RC : Addr) (st : Stmt) : Prop := ∃ (f : Addr) (fd : FuncData), Mk K RC f ∧ Fun K "__init__" "Rule.__init__" st f fd
theorem dfi_mk {K : PySem.W.Frag} {RC : Addr} {st : Stmt} {f : Addr} {oc : Value} {od an : Option Addr} {osl : Array (Option Value)} {kV doc pm cdv ct : Value} (a : PySem.W.findIn K (.ref RC) "__init__" = some (some (.ref f))) (i : PySem.W.isFn K (.ref f) = true)
    (l : K.lookup f = some ⟨oc, od, .func (PySem.W.fnOf "__init__" "Rule.__init__" (defArgs st) (defBody st) (defScope st) .none kV doc pm an cdv ct), osl⟩) (c : PySem.W.codeIn K cdv "Rule.__init__" = true) (k : PySem.W.keepIn K (.ref f) = true) (mk : PySem.W.makesIn K RC = true) (kc : PySem.W.keepIn K (.ref RC) = true) : DfI K RC st := ⟨f, _, ⟨mk, a, i, kc⟩, fun_mk (st := st) l c k⟩
structure ExK (K : PySem.W.Frag) (x : Str) (C : Addr) : Prop where
  g : PySem.W.nsIn K mainGlobals x = some (some (.ref C))
  q : PySem.W.excIn K C [.type "ValueError", .type "Exception", .type "BaseException", .type "object"] "ValueError.__new__" = true
  k : PySem.W.keepIn K (.ref C) = true
  b : PySem.W.subIn K (.ref C) (.type "BaseException") = some true
  t : PySem.W.typeIn K (.ref C) = some (.type "type")
theorem ExK.ex {K : PySem.W.Frag} {h : Heap} {mg : Str → Option Value} {x : Str} {C : Addr} (e : ExK K x C) (X : K.In h) (G : h.Ns mainGlobals mg) : Ex1 K mg x C := ⟨PySem.W.mg_of X G e.g, e.q, e.k, e.b, e.t⟩
structure RuleK (K : PySem.W.Frag) (C : Addr) : Prop where
  g : PySem.W.nsIn K mainGlobals "Rule" = some (some (.ref C))
  pg : PySem.W.plainGet K C Str.empty = true
  hd : PySem.W.hasDictIn K C = true
  po : PySem.W.plainOver K C = true
  sa : PySem.W.findIn K (.ref C) "__setattr__" = some (some (.builtin "object.__setattr__"))
  n1 : PySem.W.findIn K (.ref C) "count" = some none
  n2 : PySem.W.findIn K (.ref C) "full" = some none
  n3 : PySem.W.findIn K (.ref C) "size" = some none
theorem RuleK.r {K : PySem.W.Frag} {h : Heap} {mg : Str → Option Value} {C : Addr} (e : RuleK K C) (X : K.In h) (G : h.Ns mainGlobals mg) : RuleB K mg C := ⟨PySem.W.mg_of X G e.g, e.g, ⟨e.pg, e.hd, e.po, e.sa⟩, e.n1, e.n2, e.n3⟩
end MP
namespace MP
open PySem PySem.Spec PyProof.Rows L2 Rep
section
variable {X : Cx} {σ : L2.St} {F H : Hp} {pos p p1 p2 : Pos} {D : Ends}
/-- isinstance(e, C), e the refusal that the suite holds -/
theorem ev_isE {a dc C : Addr} {oe : Obj} {pn : List (Addr × Obj)} {en cn : Str} {b : Bool} (i : Nat) (hm : X.mg "isinstance" = none) (hc : X.mg cn = some (.ref C)) (hC : ExcC X.K dc) (hz : Zc (.ref dc) none oe) (hf : ∃ vs, oe.data = .fields vs) (hk : PySem.W.kitOne X.K (.ref dc) (.ref C) = some b)
    (hs : σ[i]? = some (some (.ref a))) (hN : X.N[i]? = some en := by rfl) (hv : Vis X.env.scope en := by first | exact Or.inl rfl | exact Or.inr (Or.inl rfl) | exact Or.inr (Or.inr rfl)) (hd : (en == ("__debug__" : Str)) = false := by decide)
    (hcd : (en == ("__classdict__" : Str)) = false := by decide) (hg : Gl X "isinstance" := by rfl) (hgC : Gl X cn := by rfl) (hdc : (cn == ("__debug__" : Str)) = false := by decide)
    (s1 : starEach [.Name en p1, .Name cn p2] X.env = (false, eval (.Name en p1) X.env) :: starEach [.Name cn p2] X.env := by rfl) (s2 : starEach [.Name cn p2] X.env = (false, eval (.Name cn p2) X.env) :: starEach [] X.env := by rfl) (hpl : (backTo pos (starEach [.Name cn p2] X.env)).any (·.1) = false := by rfl) :
    Ev (X.suite a ((a, oe) :: pn)) σ F H (.Call (.Name "isinstance" p) [.Name en p1, .Name cn p2] [] pos) b := fun F1 H1 w Q q =>
  ⟨_, pe_callB (X := X.suite a ((a, oe) :: pn)) (call_isE hC hz hf) hg hm (by decide +kernel) (pa_cons (pe_var (X := X.suite a ((a, oe) :: pn)) hN hv hd hcd) (pa_cons (pe_glob (X := X.suite a ((a, oe) :: pn)) (v := .ref C) hgC hc rfl hdc) pa_nil s2) s1) (by decide) (by decide) s1 hpl,
    .ref a, hs, .ref C, .ref C, b, rfl, (fun u h => h), hk, q _ F1 H1 (.refl w.fh) rfl⟩
/-- .. of a class of the built-ins -/
theorem ev_isEB {a dc : Addr} {oe : Obj} {pn : List (Addr × Obj)} {en cn : Str} {T : String} {b : Bool} (i : Nat) (hm : X.mg "isinstance" = none) (hc : X.mg cn = none) (hT : bootBuiltins cn = some (.type T)) (hC : ExcC X.K dc) (hz : Zc (.ref dc) none oe) (hf : ∃ vs, oe.data = .fields vs) (hk : PySem.W.kitOne X.K (.ref dc) (.type T) = some b)
    (hs : σ[i]? = some (some (.ref a))) (hN : X.N[i]? = some en := by rfl) (hv : Vis X.env.scope en := by first | exact Or.inl rfl | exact Or.inr (Or.inl rfl) | exact Or.inr (Or.inr rfl)) (hd : (en == ("__debug__" : Str)) = false := by decide)
    (hcd : (en == ("__classdict__" : Str)) = false := by decide) (hg : Gl X "isinstance" := by rfl) (hgC : Gl X cn := by rfl) (hnn : cn ≠ "__name__" := by decide) (hdc : (cn == ("__debug__" : Str)) = false := by decide)
    (s1 : starEach [.Name en p1, .Name cn p2] X.env = (false, eval (.Name en p1) X.env) :: starEach [.Name cn p2] X.env := by rfl) (s2 : starEach [.Name cn p2] X.env = (false, eval (.Name cn p2) X.env) :: starEach [] X.env := by rfl) (hpl : (backTo pos (starEach [.Name cn p2] X.env)).any (·.1) = false := by rfl) :
    Ev (X.suite a ((a, oe) :: pn)) σ F H (.Call (.Name "isinstance" p) [.Name en p1, .Name cn p2] [] pos) b := fun F1 H1 w Q q =>
  ⟨_, pe_callB (X := X.suite a ((a, oe) :: pn)) (call_isE hC hz hf) hg hm (by decide +kernel) (pa_cons (pe_var (X := X.suite a ((a, oe) :: pn)) hN hv hd hcd) (pa_cons (pe_bltn (X := X.suite a ((a, oe) :: pn)) (v := .ty T) hgC hc hT rfl hnn hdc) pa_nil s2) s1) (by decide) (by decide) s1 hpl,
    .ref a, hs, .ty T, .type T, b, rfl, (fun u h => h), hk, q _ F1 H1 (.refl w.fh) rfl⟩
theorem s_tryAs (i : Nat) {x n : Str} {c : Value} {body suite : List Stmt} {b₀ : Stmt} {np pos' : Pos} (hN : X.N.Nodup) (hc : Names X x c)
    (hb : ∀ (pn : List (Addr × Obj)) (xe : Value → Shared → Prop), Takes (X.tr pn xe) (wAs X.K c i (tsOf X (b₀ :: suite)) (fun _ _ _ _ => False) D) → BW (X.tr pn xe) body D σ H) (hi : X.N[i]? = some n := by rfl) (hln : X.env.kindOf n = some .local := by rfl)
    (hs : X.stack = X.env :: X.outer := by rfl) (hf : X.env.frame = some X.env.locals := by rfl) : SW X (.Try body [.ExceptHandler (some (.Name x np)) (some n) (b₀ :: suite) pos'] [] [] pos) D σ H :=
  ⟨_, ps_try_as (tb := fun W D σ H => ∀ (pn : List (Addr × Obj)) (xe : Value → Shared → Prop), Takes (X.tr pn xe) W → BW (X.tr pn xe) body D σ H) hs hf hN hi hln hc L2.takes0 (fun W pn xe tk _ => ⟨fun pins s σ H D I h => bw_pss.run pins s σ H D I (h pn xe tk)⟩)
    (fun a oe cls d pn hz hf => ⟨fun pins s σ H D I h => bw_pss.run pins s σ H D I (h oe pn hz hf)⟩), hb⟩
theorem as_yes {K : PySem.W.Frag} {Wout : WX} {c cls : Value} {ts : Addr → Value → Option Addr → TS} {i : Nat} {b : Bool} (h : PySem.W.exmOne K cls c = some b) (hb : b = true)
    (k : ∀ a, H a = none → ts a cls none { nx := fun σ' H' => D.nx (σ'.set i none) H', rt := D.rt, bk := fun σ' H' => D.bk (σ'.set i none) H', ct := fun σ' H' => D.ct (σ'.set i none) H' } (σ.set i (some (.ref a))) H) : wAs K c i ts Wout D cls none σ H :=
  ⟨b, h, fun _ => k, fun z => by rw [hb] at z; cases z⟩
end
theorem EvP.toF {X : Cx} {σ : L2.St} {F H : Hp} {e : Expr} {ω : Type} [Rep ω] {E : XK} {ec : Exn → Addr} {r : Except Exn (List ω)} (h : EvP X σ F H e (oX ec (oN X.K)) E r) : EvP X σ F H e (oX ec (oF X.K)) E r := fun F1 H1 w Q q => h F1 H1 w Q fun F2 H2 w2 =>
  ⟨fun d hd p xs F3 H3 w3 rx f1 f2 f3 l => (q F2 H2 w2).1 d hd _ _ H3 (w3.tell f2 f1 f3) (rep_openG f1 l rx), (q F2 H2 w2).2⟩
section
variable {X : Cx} {σ : L2.St} {F H : Hp} {a : Expr} {p pos : Pos} {α β γ : Type} [Rep α] [Rep β] [Rep γ]
/-- list(x), x a list that is not told yet -/
theorem evn_listO {q : Addr} {us : List V} {xs : List α} (hm : X.mg "list" = none) (ho : EvR X σ F H a q) (hq : H q = some (.lst us)) (ru : reps X.K F us xs) (hl : us.length ≤ sizeLine) (hg : Gl X "list" := by rfl) (hs : starEach [a] X.env = (false, eval a X.env) :: starEach [] X.env := by rfl) (hpl : (backTo pos (starEach [] X.env)).any (·.1) = false := by rfl) :
    EvN X σ F H (.Call (.Name "list" p) [a] [] pos) xs := fun F1 H1 w Q k =>
  ⟨_, pe_callTy call_list_of hg hm (by decide +kernel) (pa_cons ew_pe pa_nil hs) (by decide) (by decide) hs hpl, ho F1 H1 w _ fun F2 H2 w2 => ⟨q, us, rfl, .inl (SqL.of ((w.trans w2).hh _ _ hq)), fun p hn => k p us F2 _ (w2.trans (.lay w2.fh hn)) (reps_mono (w.ff.trans w2.ff) ru) (w2.fh.free hn) (w2.hfree hn) upd_same hl⟩⟩
theorem ty_tuple {K : PySem.W.Frag} {x : α × β} : ∀ v F1 H1, Same F1 H1 → rep K F1 v x → TyX K H1 v (.type "tuple") := fun v F1 H1 s r => by
  obtain ⟨a, _, _, rfl, h1, _⟩ := r
  exact .base (.tup (s _ _ h1))
theorem ty_tuple3 {K : PySem.W.Frag} {x : Tri α β γ} : ∀ v F1 H1, Same F1 H1 → rep K F1 v x → TyX K H1 v (.type "tuple") := fun v F1 H1 s r => by
  obtain ⟨a, _, _, _, rfl, h1, _⟩ := r
  exact .base (.tup (s _ _ h1))
end
structure ExcK (K : PySem.W.Frag) (D : Addr) : Prop where
  c : ExcC K D
end MP
namespace MP
open PySem PySem.Spec PyProof.Rows L2 Rep

/-! ### two worlds in one -/
def mrg (F G : Hp) : Hp := fun a => match F a with
  | some o => some o
  | none => G a
theorem mrg_l {F G : Hp} : Same F (mrg F G) := fun a o e => by
  unfold mrg
  rw [e]
theorem mrg_h {F G H : Hp} (hF : Same F H) (hG : Same G H) : Same (mrg F G) H := fun a o e => by
  unfold mrg at e
  cases z : F a with
  | some u =>
    rw [z] at e
    cases e
    exact hF _ _ z
  | none =>
    rw [z] at e
    exact hG _ _ e
theorem mrg_r {F G H : Hp} (hF : Same F H) (hG : Same G H) : Same G (mrg F G) := fun a o e => by
  unfold mrg
  cases z : F a with
  | some u =>
    have h1 := hF _ _ z
    rw [hG _ _ e] at h1
    exact h1.symm
  | none => exact e
/-- no tables in it -/
def NoT (G : Hp) : Prop := ∀ a ps, G a ≠ some (.tbl ps)
theorem NoT.ne {G : Hp} (h : NoT G) {a : Addr} {o : HO} (e : G a = some o) : ∀ ps, o ≠ .tbl ps := fun ps z => by
  rw [z] at e
  exact h a ps e
def nt (F : Hp) : Hp := fun a => match F a with
  | some (.tbl _) => none
  | o => o
theorem nt_not (F : Hp) : NoT (nt F) := fun a ps e => by
  unfold nt at e
  split at e
  · cases e
  · rename_i h
    exact h ps e
theorem nt_sub {F : Hp} : Same (nt F) F := fun a o e => by
  unfold nt at e
  split at e
  · cases e
  · exact e
theorem nt_at {F : Hp} {a : Addr} {o : HO} (e : F a = some o) (hn : ∀ ps, o ≠ .tbl ps) : nt F a = some o := by
  unfold nt
  split
  · rename_i ps h
    rw [e] at h
    cases h
    exact absurd rfl (hn ps)
  · exact e
theorem same_wk {F H F1 H1 G : Hp} (w : Wk F H F1 H1) (hG : Same G H) (nG : NoT G) : Same G H1 := fun a o e => w.kp.ext a o (hG a o e) (nG.ne e)
theorem Wk.mrg {F H F1 H1 G : Hp} (w : Wk F H F1 H1) (hF : Same F H) (hG : Same G H) (nG : NoT G) : Wk (MP.mrg F G) H (MP.mrg F1 G) H1 :=
  ⟨fun a o e => by
    unfold MP.mrg at e ⊢
    cases z : F a with
    | some u =>
      rw [z] at e
      cases e
      rw [w.ff _ _ z]
    | none =>
      rw [z] at e
      cases z1 : F1 a with
      | some u =>
        have h1 := w.fh _ _ z1
        have e : G a = some o := e
        rw [same_wk w hG nG _ _ e] at h1
        exact h1.symm
      | none => exact e, w.kp, mrg_h w.fh (same_wk w hG nG), fun q o e => by
    unfold MP.mrg at e ⊢
    cases z1 : F1 q with
    | some u =>
      rw [z1] at e
      cases e
      rcases w.nw _ _ z1 with h | h | h
      · rw [h]; exact .inl rfl
      · exact .inr (.inl h)
      · exact .inr (.inr h)
    | none =>
      rw [z1] at e
      have : F q = none := w.ff.free z1
      rw [this]
      exact .inl e⟩
theorem Wk.drop {F H F1 H1 : Hp} (w : Wk F H F1 H1) : Wk F H F H1 := ⟨Same.refl _, w.kp, w.ff.trans w.fh, fun _ _ e => .inl e⟩
theorem TC.mrg {P : Addr} {F H G : Hp} (t : TC P F H) (hG : Same G H) (nG : NoT G) : TC P (MP.mrg F G) H := by
  refine ⟨t.1, ?_⟩
  unfold MP.mrg
  rw [t.2]
  obtain ⟨ps, e, _⟩ := t.1
  cases z : G P with
  | none => rfl
  | some u =>
    have := hG _ _ z
    rw [e] at this
    cases this
    exact absurd z (nG P ps)
section
variable {X : Cx} {σ : L2.St} {F H G : Hp} {e : Expr} {α : Type} [Rep α] [Flat α]
theorem ev_grp {d : α} (hF : Same F H) (hG : Same G H) (nG : NoT G) (h : Ev X σ (MP.mrg F G) H e d) : Ev X σ F H e d := fun F1 H1 w Q q =>
  h _ H1 (w.mrg hF hG nG) Q fun v F2 H2 w2 r => q v F1 H2 (w.still mrg_l w2) (Flat.flat r)
theorem et_grp {d : Bool} (hF : Same F H) (hG : Same G H) (nG : NoT G) (h : EvT X σ (MP.mrg F G) H e d) : EvT X σ F H e d := fun F1 H1 w Q q =>
  h _ H1 (w.mrg hF hG nG) Q fun F2 H2 w2 => q F1 H2 (w.still mrg_l w2)
theorem evn_grp {ds : List α} (hF : Same F H) (hG : Same G H) (nG : NoT G) (h : EvN X σ (MP.mrg F G) H e ds) : EvN X σ F H e ds := fun F1 H1 w Q q =>
  h _ H1 (w.mrg hF hG nG) Q fun q' xs F2 H2 w2 r h1 h2 h3 h4 => q q' xs F1 H2 (w.still mrg_l w2) (r.imp fun _ _ => Flat.flat) (w.fh.free h2) h2 h3 h4
end

/-! ### lists of one's own -/
structure OwnL (N : Addr → Prop) (α : Type) where
  ds : List α
instance {N : Addr → Prop} {α : Type} [Rep α] : Rep (OwnL N α) := ⟨fun K F v d => rep K F v d.ds ∧ ∀ a, v = .ref a → N a, fun h r => ⟨Rep.mono h r.1, r.2⟩⟩
abbrev owns (N : Addr → Prop) (T : List (List Int)) : List (OwnL N Int) := T.map OwnL.mk
theorem own_rows {K : PySem.W.Frag} {F : Hp} {N : Addr → Prop} : ∀ {xs : List V} {T : List (List Int)}, reps K F xs (owns N T) → reps K F xs T
  | _, [], .nil => .nil
  | _, _ :: _, .cons r t => .cons r.1 (own_rows t)
theorem own_rep {K : PySem.W.Frag} {F : Hp} {N : Addr → Prop} {v : V} {T : List (List Int)} (r : rep K F v (owns N T)) : rep K F v T := by
  obtain ⟨a, xs, e, f, l, r⟩ := r
  exact ⟨a, xs, e, f, l, own_rows r⟩
theorem owns_mono {K : PySem.W.Frag} {F : Hp} {N N' : Addr → Prop} (hN : ∀ a, N a → N' a) : ∀ {xs : List V} {T : List (List Int)}, reps K F xs (owns N T) → reps K F xs (owns N' T)
  | _, [], .nil => .nil
  | _, _ :: _, .cons r t => .cons ⟨r.1, fun a e => hN a (r.2 a e)⟩ (owns_mono hN t)
theorem EvN.own {X : Cx} {σ : L2.St} {F H : Hp} {e : Expr} {α : Type} [Rep α] {N : Addr → Prop} {ds : List α} (hN : ∀ a, H a = none → N a) (h : EvN X σ F H e ds) : Ev X σ F H e (OwnL.mk ds : OwnL N α) := fun F1 H1 w Q q =>
  h F1 H1 w Q fun p xs F2 H2 w2 r hF hH h2 hl => q (.ref p) (upd F2 p (.lst xs)) H2 (w2.tell hH hF h2) ⟨⟨p, xs, rfl, upd_same, hl, reps_mono (same_new hF) r⟩, fun a z => by
    cases z
    exact hN _ (w.hfree hH)⟩
/-- a rule with lists of its own -/
structure RuleO (N : Addr → Prop) where
  d : RuleD
instance {N : Addr → Prop} : Rep (RuleO N) := ⟨fun K F v d => ∃ a C dx p, v = .ref a ∧ PySem.W.nsIn K mainGlobals "Rule" = some (some (.ref C)) ∧ F a = some (.ins C dx [("count", .int d.d.count), ("full", .ref p), ("size", .int d.d.size)]) ∧ N a ∧ N p ∧ rep K F (.ref p) (owns N d.d.full),
  fun h r => by
    obtain ⟨a, C, dx, p, e, n, g, na, np, r⟩ := r
    exact ⟨a, C, dx, p, e, n, h _ _ g, na, np, Rep.mono h r⟩⟩
theorem RuleO.plain {K : PySem.W.Frag} {F : Hp} {N : Addr → Prop} {v : V} {d : RuleD} (r : rep K F v (RuleO.mk d : RuleO N)) : rep K F v d := by
  obtain ⟨a, C, dx, p, e, n, g, na, np, r⟩ := r
  exact ⟨a, C, dx, .ref p, e, n, g, own_rep r⟩
theorem RuleO.mono {K : PySem.W.Frag} {F : Hp} {N N' : Addr → Prop} {v : V} {d : RuleD} (hN : ∀ a, N a → N' a) (r : rep K F v (RuleO.mk d : RuleO N)) : rep K F v (RuleO.mk d : RuleO N') := by
  obtain ⟨a, C, dx, p, e, n, g, na, np, q, xs, e2, f2, l, r⟩ := r
  exact ⟨a, C, dx, p, e, n, g, hN a na, hN p np, q, xs, e2, f2, l, owns_mono hN r⟩

/-! ### what bears no tables -/
class RepN (α : Type) [Rep α] : Prop where
  ntb : ∀ {K : PySem.W.Frag} {F : Hp} {v : V} {d : α}, rep K F v d → rep K (nt F) v d
instance : RepN Int := ⟨fun h => h⟩
instance {α : Type} [Rep α] [RepN α] : RepN (List α) := ⟨fun h => by
  obtain ⟨a, xs, e, f, l, r⟩ := h
  exact ⟨a, xs, e, nt_at f (by intro ps z; cases z), l, r.imp fun _ _ => RepN.ntb⟩⟩
instance {N : Addr → Prop} {α : Type} [Rep α] [RepN α] : RepN (OwnL N α) := ⟨fun h => ⟨RepN.ntb h.1, h.2⟩⟩
instance {α β : Type} [Rep α] [Rep β] [RepN α] [RepN β] : RepN (α × β) := ⟨fun h => by
  obtain ⟨a, x, y, e, f, r1, r2⟩ := h
  exact ⟨a, x, y, e, nt_at f (by intro ps z; cases z), RepN.ntb r1, RepN.ntb r2⟩⟩
instance {α β γ : Type} [Rep α] [Rep β] [Rep γ] [RepN α] [RepN β] [RepN γ] : RepN (Tri α β γ) := ⟨fun h => by
  obtain ⟨a, x, y, z, e, f, r1, r2, r3⟩ := h
  exact ⟨a, x, y, z, e, nt_at f (by intro ps z; cases z), RepN.ntb r1, RepN.ntb r2, RepN.ntb r3⟩⟩
instance {α : Type} [Rep α] [RepN α] : RepN (Option α) := ⟨fun {K F v d} h => by
  cases d with
  | none => exact h
  | some d => exact RepN.ntb (d := d) h⟩
instance {N : Addr → Prop} : RepN (RuleO N) := ⟨fun h => by
  obtain ⟨a, C, dx, p, e, n, g, na, np, r⟩ := h
  exact ⟨a, C, dx, p, e, n, nt_at g (by intro ps z; cases z), na, np, RepN.ntb r⟩⟩
/-- what is held aside: it may change -/
structure Grp (N : Addr → Prop) (G F H : Hp) : Prop where
  nt : NoT G
  h : Same G H
  off : ∀ a o, N a → G a = some o → ntup o = true → F a = none
theorem Grp.wk {N : Addr → Prop} {G F H F1 H1 : Hp} (g : Grp N G F H) (w : Wk F H F1 H1) : Grp N G F1 H1 :=
  ⟨g.nt, same_wk w g.h g.nt, fun a o n e t => w.off (g.off a o n e t) (g.h a o e) t⟩
theorem Grp.new {F H F1 H1 : Hp} (fh : Same F H) (w : Wk F H F1 H1) : Grp (fun a => H a = none) (MP.nt F1) F H1 :=
  ⟨nt_not F1, nt_sub.trans w.fh, fun a o n _ _ => fh.free n⟩
theorem Grp.mut {N : Addr → Prop} {G F H : Hp} {q : Addr} {o : HO} (g : Grp N G F H) (hF : F q = none) (hp : plainO o = true) : Grp N (upd G q o) F (upd H q o) :=
  ⟨fun a ps e => by
    by_cases h : a = q
    · subst h
      rw [upd_same] at e
      cases e
      cases hp
    · rw [upd_ne h] at e
      exact g.nt a ps e, fun a x e => by
    by_cases h : a = q
    · subst h
      rw [upd_same] at e ⊢
      exact e
    · rw [upd_ne h] at e ⊢
      exact g.h a x e, fun a x n e t => by
    by_cases h : a = q
    · subst h
      exact hF
    · rw [upd_ne h] at e
      exact g.off a x n e t⟩
/-- another one changes -/
theorem Grp.put {N : Addr → Prop} {G F H : Hp} {q : Addr} {o : HO} (g : Grp N G F H) (hG : G q = none) : Grp N G F (upd H q o) :=
  ⟨g.nt, fun a x e => by
    rw [upd_ne (ne_of_none e hG)]
    exact g.h a x e, g.off⟩
theorem Grp.tell {N : Addr → Prop} {G F H : Hp} {q : Addr} {o : HO} (g : Grp N G F H) (hG : G q = none) : Grp N G (upd F q o) H :=
  ⟨g.nt, g.h, fun a x n e t => by
    rw [upd_ne (ne_of_none e hG)]
    exact g.off a x n e t⟩
theorem nt_none {F : Hp} {a : Addr} (h : F a = none) : nt F a = none := by
  unfold nt
  rw [h]

/-! ### where something stands -/
structure Pt where
  v : V
instance : Inhabited Pt := ⟨⟨.non⟩⟩
instance : Rep Pt := ⟨fun _ _ v d => v = d.v, fun _ h => h⟩
instance : Flat Pt := ⟨fun h => h⟩
theorem pt_reps {K : PySem.W.Frag} {F : Hp} : ∀ (xs : List V), reps K F xs (xs.map Pt.mk)
  | [] => .nil
  | _ :: xs => .cons rfl (pt_reps xs)
section
variable {X : Cx} {σ : L2.St} {F H : Hp} {o idx : Expr} {pos : Pos} {C : Addr}
theorem er_of {e : Expr} {q : Addr} (h : Ev X σ F H e (Pt.mk (.ref q))) : EvR X σ F H e q := fun F1 H1 w Q k => h F1 H1 w Q fun v F2 H2 w2 r => by
  rw [show v = .ref q from r]
  exact k F2 H2 w2
theorem er_fld {f : Str} {x dx : Addr} {fs : List (Str × V)} {p : Addr} (c : Cls X.K C) (n : NoAttr X.K C f) (ho : EvR X σ F H o x) (hx : H x = some (.ins C dx fs)) (l : fs.lookup f = some (.ref p)) (hb : attributeBase o f X.env (eval o X.env) = eval o X.env := by rfl) : EvR X σ F H (.Attribute o f pos) p :=
  er_of (ev_fldO c n ho hx l rfl hb)
def ntbl : HO → Bool
  | .tbl _ => false
  | _ => true
theorem noT_one {p : Addr} {o : HO} (h : ntbl o = true) : NoT (upd (fun _ => none) p o) := fun a ps e => by
  by_cases z : a = p
  · subst z
    rw [upd_same] at e
    cases e
    cases h
  · rw [upd_ne z] at e
    cases e
theorem same_one {p : Addr} {o : HO} (h : H p = some o) : Same (upd (fun _ => none) p o) H := fun a x e => by
  by_cases z : a = p
  · subst z
    rw [upd_same] at e
    cases e
    exact h
  · rw [upd_ne z] at e
    cases e
theorem er_at {G : Hp} {q : Addr} (ho : ∀ F, Same F H → EvR X σ F H o q) (fh : Same G H) : Ev X σ G H o (Pt.mk (.ref q)) := fun F1 H1 w Q k => ho G fh F1 H1 w Q fun F2 H2 w2 => k _ F2 H2 w2 rfl
theorem at_nat {α : Type} {xs : List α} {i : Int} {v : α} (h0 : 0 ≤ i) (hx : xs[i.toNat]? = some v) : atI xs i = some v := by
  have hlt := (List.getElem?_eq_some_iff.mp hx).1
  unfold atI ixN
  rw [if_pos h0, if_pos (by omega)]
  exact hx
theorem gi_pt {xs : List V} {i : Int} {v : V} (h0 : 0 ≤ i) (hx : xs[i.toNat]? = some v) : gi (xs.map Pt.mk) i = Pt.mk v := by
  unfold gi
  rw [at_nat (v := Pt.mk v) h0 (by rw [List.getElem?_map, hx]; rfl)]
  rfl
theorem ev_ixP {p : Addr} {xs : List V} {i : Int} {v : V} (ho : ∀ F, Same F H → EvR X σ F H o p) (fh : Same F H) (hp : H p = some (.lst xs)) (hl : xs.length ≤ sizeLine) (hi : ∀ F, Ev X σ F H idx i) (h0 : 0 ≤ i) (hx : xs[i.toNat]? = some v) (hs : PlainIx idx := by exact fun _ _ => rfl) : Ev X σ F H (.Subscript o idx pos) (Pt.mk v) := by
  refine ev_grp (G := upd (fun _ => none) p (.lst xs)) fh (same_one hp) (noT_one rfl) ?_
  have hm := mrg_h fh (same_one hp)
  have h1 : Ev X σ (mrg F (upd (fun _ => none) p (.lst xs))) H o (xs.map Pt.mk) := fun F1 H1 w Q k => ho _ hm F1 H1 w Q fun F2 H2 w2 => k _ F2 H2 w2 ⟨p, xs, rfl, (w.ff.trans w2.ff) _ _ (mrg_r fh (same_one hp) _ _ upd_same), hl, pt_reps xs⟩
  have hlt := (List.getElem?_eq_some_iff.mp hx).1
  exact (ev_ixL h1 (hi _) ⟨by rw [List.length_map]; omega, by rw [List.length_map]; omega⟩ hs).eq (gi_pt h0 hx)
theorem er_ix {p q : Addr} {xs : List V} {i : Int} (ho : ∀ F, Same F H → EvR X σ F H o p) (fh : Same F H) (hp : H p = some (.lst xs)) (hl : xs.length ≤ sizeLine) (hi : ∀ F, Ev X σ F H idx i) (h0 : 0 ≤ i) (hx : xs[i.toNat]? = some (.ref q)) (hs : PlainIx idx := by exact fun _ _ => rfl) : EvR X σ F H (.Subscript o idx pos) q := er_of (ev_ixP ho fh hp hl hi h0 hx hs)
end

/-! ### rules with lists of their own: what makes them -/
def oR (K : PySem.W.Frag) (F H : Hp) (Q : VK) (_ : XK) (d : RuleD) : Prop := ∀ v F' H', Wk F H F' H' → rep K F' v (RuleO.mk d : RuleO (fun a => H a = none)) → Q v H'
section
variable {X : Cx} {σ : L2.St} {F H : Hp} {a b e : Expr} {pos p : Pos} {ec : Exn → Addr} {E : XK} {C : Addr} {k : Nat} {ps : List Str} {D : Ends}
theorem EvP.rF {r : Except Exn RuleD} (h : EvP X σ F H e (oX ec (oR X.K)) E r) : EvP X σ F H e (oX ec (oF X.K)) E r := fun F1 H1 w Q q => h F1 H1 w Q fun F2 H2 w2 =>
  ⟨fun d hd v F3 H3 w3 r3 => (q F2 H2 w2).1 d hd v F3 H3 w3 (RuleO.plain r3), (q F2 H2 w2).2⟩
theorem EvP.okR {N : Addr → Prop} {r : Except Exn RuleD} (h : EvP X σ F H e (oX ec (oR X.K)) E r) (hr : isOk r) (hN : ∀ a, H a = none → N a) : Ev X σ F H e (RuleO.mk (okv r) : RuleO N) := fun F1 H1 w Q q => h F1 H1 w Q fun F2 H2 w2 =>
  ⟨fun d hd v F3 H3 w3 r3 => q v F3 H3 (w2.trans w3) (by
    have : MP.okv r = d := by rw [hd]; rfl
    rw [this]
    exact RuleO.mono (fun a z => hN a (w.hfree (w2.hfree z))) r3), fun x hx => by
    obtain ⟨d, hd⟩ := hr
    rw [hd] at hx
    cases hx⟩
theorem s_retR {r : Except Exn RuleD} (h : EvP X σ F H e (oX ec (oR X.K)) E r) (fh : Same F H) (k : ∀ d, r = .ok d → ∀ v F' H', Wk F H F' H' → rep X.K F' v (RuleO.mk d : RuleO (fun a => H a = none)) → D.rt v H') (kx : ∀ x, r = .error x → ∀ F' H', Wk F H F' H' → E (.ref (ec x)) none H') : SW X (.Return (some e) pos) D σ H :=
  ⟨_, ps_ret ew_pe, h F H (.refl fh) _ fun F2 H2 w2 => ⟨fun d hd v F3 H3 w3 r3 => k d hd v F3 H3 (w2.trans w3) (RuleO.mono (fun a z => w2.hfree z) r3), fun x hx F3 H3 w3 => kx x hx F3 H3 (w2.trans w3)⟩⟩
def spO (K : PySem.W.Frag) (ec : Exn → Addr) (RC : Addr) (pre : Int → List (List Int) → Prop) (m : Int → List (List Int) → Except Exn RuleD) : Sp := fun vs H Q E =>
  ∃ F H0 x dx c t vc vt, vs = [.ref x, vc, vt] ∧ Same F H0 ∧ H0 x = none ∧ H0 dx = none ∧ dx ≠ x ∧ H = upd (upd H0 dx (.own x)) x (.ins RC dx []) ∧ rep K F vc c ∧ rep K F vt t ∧ pre c t ∧
    oX ec (fun F H0 Q _ d => ∀ F' H', Wk F H0 F' H' → rep K F' (.ref x) (RuleO.mk d : RuleO (fun a => H0 a = none)) → Q .non H') F H0 Q E (m c t)
theorem pmakeO {pre : Int → List (List Int) → Prop} {m' : Int → List (List Int) → Except Exn RuleD} {u : Int} {v : List (List Int)} (R : RuleB X.K X.mg C) (M : MkB X.prog X.w X.K X.mg X.base k C ps (spO X.K ec C pre m')) (hx : Passes (L2.CX X.prog X.w) X E) (hr : Room (k + 1) X.A) (h1 : Ev X σ F H a u) (h2 : Ev X σ F H b v) (hp : pre u v)
    (hg : Gl X "Rule" := by rfl) (he : starEach [a, b] X.env = (false, eval a X.env) :: starEach [b] X.env := by rfl) (he2 : starEach [b] X.env = (false, eval b X.env) :: starEach [] X.env := by rfl) (hpl : (backTo pos (starEach [b] X.env)).any (·.1) = false := by rfl) :
    EvP X σ F H (.Call (.Name "Rule" p) [a, b] [] pos) (oX ec (oR X.K)) E (m' u v) := fun F1 H1 w Q q => by
  obtain ⟨f, fd, hm, hb, Fn⟩ := M.ex
  refine ⟨_, pe_make hm Fn hr hg R.g hb .nil hx aw_pa (by decide) he hpl, ?_⟩
  refine ea2 h1 h2 he he2 F1 H1 w _ fun vs F2 H2 w2 ⟨v1, v2, e, r1, r2⟩ => fun x dx nx ndx ne => ?_
  refine ⟨F2, H2, x, dx, u, v, v1, v2, by rw [e]; rfl, w2.fh, nx, ndx, ne, rfl, r1, r2, hp, ?_, ?_⟩
  · intro d hd F' H' w3 r3
    exact ⟨rfl, (q F2 H2 w2).1 d hd _ F' H' w3 r3⟩
  · exact fun x hx F' H' w3 => (q F2 H2 w2).2 x hx F' H' w3
end
/-- the parts of a rule with lists of its own -/
theorem ro_parts {K : PySem.W.Frag} {F : Hp} {N : Addr → Prop} {v : V} {d : RuleD} (r : rep K F v (RuleO.mk d : RuleO N)) (hne : d.full ≠ []) : ∃ a C dx p xs q ys, v = .ref a ∧ PySem.W.nsIn K mainGlobals "Rule" = some (some (.ref C)) ∧ F a = some (.ins C dx [("count", .int d.count), ("full", .ref p), ("size", .int d.size)]) ∧ N p ∧ F p = some (.lst xs) ∧ xs.length ≤ sizeLine ∧ xs.length = d.full.length ∧ xs[(0 : Int).toNat]? = some (.ref q) ∧ N q ∧ F q = some (.lst ys) ∧ ys.length = (gi d.full 0).length ∧ p ≠ q := by
  obtain ⟨a, C, dx, p, e, n, g, na, np, p', xs, e2, f2, l, r⟩ := r
  cases e2
  cases hf : d.full with
  | nil => exact absurd hf hne
  | cons row rows =>
    rw [hf] at r
    cases r with
    | @cons v0 _ vs _ r0 rt =>
      obtain ⟨⟨q, ys, e3, f3, l3, r3⟩, nq⟩ := r0
      subst e3
      refine ⟨a, C, dx, p, .ref q :: vs, q, ys, e, n, g, np, f2, l, by rw [List.length_cons, rt.len, List.length_map, List.length_cons], rfl, nq _ rfl, f3, ?_, fun z => ?_⟩
      · rw [r3.len]
        have : gi (row :: rows) 0 = row := by
          unfold gi
          rw [at_nat (v := row) (Int.le_refl 0) rfl]
          rfl
        rw [this]
      · subst z
        rw [f2] at f3
        cases f3
        have := reps_int r3
        cases hr : row with
        | nil => rw [show (OwnL.mk row : OwnL N Int).ds = row from rfl, hr] at this; cases this
        | cons i is =>
          rw [show (OwnL.mk row : OwnL N Int).ds = row from rfl, hr] at this
          cases this
theorem Wk.dropm {F F' H F1 H1 : Hp} (s : Same F F') (w : Wk F' H F1 H1) : Wk F H F H1 := ⟨Same.refl _, w.kp, (s.trans w.ff).trans w.fh, fun _ _ e => .inl e⟩
theorem own_cut {K : PySem.W.Frag} {F F' : Hp} {N : Addr → Prop} (h : ∀ a o, N a → F a = some o → F' a = some o) : ∀ {xs : List V} {T : List (List Int)}, reps K F xs (owns N T) → reps K F' xs (owns N T)
  | _, [], .nil => .nil
  | _, t :: _, .cons (v := v) r ts => by
    obtain ⟨⟨q, ys, e, f, l, r3⟩, nq⟩ := r
    have r3 : reps K F' ys t := r3
    exact .cons ⟨⟨q, ys, e, h _ _ (nq q e) f, l, r3⟩, nq⟩ (own_cut h ts)
theorem RuleO.cut {K : PySem.W.Frag} {F F' : Hp} {N : Addr → Prop} {v : V} {d : RuleD} (h : ∀ a o, N a → F a = some o → F' a = some o) (r : rep K F v (RuleO.mk d : RuleO N)) : rep K F' v (RuleO.mk d : RuleO N) := by
  obtain ⟨a, C, dx, p, e, n, g, na, np, q, xs, e2, f2, l, r⟩ := r
  cases e2
  exact ⟨a, C, dx, p, e, n, h _ _ na g, na, np, p, xs, rfl, h _ _ np f2, l, own_cut h r⟩
/-- what is new -/
def newOf (H F : Hp) : Hp := fun a => match H a with
  | some _ => none
  | none => F a
theorem newOf_at {H F : Hp} {a : Addr} (h : H a = none) : newOf H F a = F a := by
  unfold newOf
  rw [h]
theorem newOf_old {H F : Hp} {a : Addr} {o : HO} (h : H a = some o) : newOf H F a = none := by
  unfold newOf
  rw [h]
theorem newOf_sub {H F : Hp} : Same (newOf H F) F := fun a o e => by
  unfold newOf at e
  split at e
  · cases e
  · exact e
theorem RuleO.grp {K : PySem.W.Frag} {F0 H0 F H F1 H1 : Hp} {v : V} {d : RuleD} (W : Wk F0 H0 F H) (w : Same F1 H1) (r : rep K F1 v (RuleO.mk d : RuleO (fun a => H a = none))) :
    ∃ (N : Addr → Prop) (G : Hp), Grp N G F H1 ∧ rep K G v (RuleO.mk d : RuleO N) ∧ (∀ a, N a → H0 a = none) ∧ (∀ a, N a → H a = none) ∧ ∀ a o, H a = some o → G a = none :=
  ⟨_, newOf H (nt F1), ⟨fun a ps e => nt_not F1 a ps (newOf_sub _ _ e), newOf_sub.trans (nt_sub.trans w), fun a o n _ _ => W.fh.free n⟩, RuleO.cut (fun a o n e => by rw [newOf_at n]; exact e) (RepN.ntb r), fun a z => W.hfree z, fun a z => z, fun a o z => newOf_old z⟩

/-! ### rows in order -/
def srtL (ts : List (List Int)) : List (List Int) := ts.mergeSort fun a b => decide (a ≤ b)
section
variable {X : Cx} {σ : L2.St} {F H : Hp} {a : Expr} {pos p : Pos}
def RowAt (R : Addr → List Int → Prop) (v : Value) (t : List Int) : Prop := ∃ b, v = .ref b ∧ R b t
theorem each_refsL {R : Value → List Int → Prop} {R' : Addr → List Int → Prop} (h : ∀ b t, R' b t → R (.ref b) t) : ∀ {bs : List Addr} {ts : List (List Int)}, PySem.W.EachIs R' bs ts → PySem.W.EachIs R (bs.map Value.ref) ts
  | _, _, .nil => .nil
  | _, _, .cons r t => .cons (h _ _ r) (each_refsL h t)
theorem each_backL {R : Addr → List Int → Prop} : ∀ {out : List Value} {ts : List (List Int)}, PySem.W.EachIs (RowAt R) out ts → ∃ cs : List Addr, out = cs.map Value.ref ∧ PySem.W.EachIs R cs ts
  | _, _, .nil => ⟨[], rfl, .nil⟩
  | _, _, .cons ⟨b, e, h⟩ t => by
    obtain ⟨cs, e2, r⟩ := each_backL t
    exact ⟨b :: cs, by rw [e, e2]; rfl, .cons h r⟩
theorem run_sortedL {R : Addr → List Int → Prop} {pins : List (Addr × Obj)} {s : Shared} {l : Addr} {bs : List Addr} {ts : List (List Int)} {Q : VK} (hu : X.A.units + 64 < cLine) (I : Inv X pins σ H s) (hl : SqL X.K H l (bs.map V.ref)) (hb : PySem.W.EachIs R bs ts) (hR : ∀ b t, R b t → H b = some (.lst (t.map V.int)))
    (q : ∀ (p : Addr) (cs : List Addr), H p = none → PySem.W.EachIs R cs (srtL ts) → Q (.ref p) (upd H p (.lst (cs.map V.ref)))) :
    wpAny (model X.prog X.w) X.A (call (.builtin "sorted") [.ref l]) (EP X pins σ Q) X.xe s := by
  obtain ⟨its, rv, pl, hz⟩ := I.list hl
  obtain rfl := vals_ref_of rv
  have hlen : bs.length = ts.length := hb.length
  have hz' : bs.length ≤ sizeLine := by rw [List.length_map] at hz; exact hz
  have eR : PySem.W.EachIs (RowAt R) (bs.map Value.ref) ts := each_refsL (fun b t h => ⟨b, rfl, h⟩) hb
  have eX : PySem.W.EachIs (fun v (t : List Int) => ∃ as, Reads s.heap v (PyData.list (t.map .int)) as) (bs.map Value.ref) ts := each_refsL (fun b t h => by
    obtain ⟨its2, r2, ⟨o, n, ho, hc, _, hd⟩, hz2⟩ := I.list (SqL.of (K := X.K) (hR b t h))
    exact ⟨_, .list ho hc hd (by simpa using PyProof.Rows.IntsAre.reads s.heap r2.ints)⟩) hb
  have al : PySem.W.AllAlike (ts.map fun t : List Int => PyData.list (t.map .int)) := PySem.W.AllAlike.of (fun a b => by
    simp only [PySem.W.alike]
    exact PySem.W.alike_ints _ _)
  have so : PySem.W.Sortable (ts.map fun t : List Int => PyData.list (t.map .int)) := Or.inr (fun d hd => by
    obtain ⟨t, ht, rfl⟩ := List.mem_map.mp hd
    exact ⟨fun z => (by cases z), fun xs z => (by cases z)⟩)
  have dp : ∀ t : List Int, t ∈ ts → X.A.units + 2 + (PyData.list (t.map .int)).depth < cLine := fun t _ => by
    have hd : (PyData.list (t.map .int)).depth = 1 := by
      simp [PyData.depth, depth_ints]
    omega
  refine PySem.W.sorted_data (enc := fun t : List Int => PyData.list (t.map .int)) pl.isList eR eX al so (by rw [← hlen]; exact hz') dp fun out hl2 hout => ?_
  rw [PySem.W.dataLe_rows fun t : List Int => t] at hout
  obtain ⟨cs, rfl, hc⟩ := each_backL hout
  obtain ⟨ep, he⟩ := PyProof.Rows.sortedAll_at s.heap (bs.map Value.ref) (cs.map Value.ref).toArray
  rw [List.length_map] at hl2
  refine ⟨.ref _, upd H (s.heap.objs.size + 1) (.lst (cs.map V.ref)), I.laid (t' := s.toks) (fun _ _ => PyProof.Rows.sortedAll_old) (Nat.le_succ _) ⟨by rw [List.length_map, hl2, ← hlen]; exact hz', cs.map Value.ref, ep, vals_refs cs, he⟩, rfl, q _ _ (I.hok.fresh (Nat.le_succ _)) hc⟩
theorem cr_sortedL (hu : X.A.units + 64 < cLine) : CallR X (.builtin "sorted") (fun xs H Q => ∃ l bs ts R, xs = [V.ref l] ∧ SqL X.K H l (bs.map V.ref) ∧ PySem.W.EachIs R bs ts ∧ (∀ b (t : List Int), R b t → H b = some (.lst (t.map V.int))) ∧
    ∀ (p : Addr) (cs : List Addr), H p = none → PySem.W.EachIs R cs (srtL ts) → Q (.ref p) (upd H p (.lst (cs.map V.ref)))) := by
  intro pins s σ H xs us Q I r h
  obtain ⟨l, bs, ts, R, rfl, hl, hb, hR, q⟩ := h
  obtain rfl := Vals.ref1 r
  exact run_sortedL hu I hl hb hR q
theorem reps_rows {K : PySem.W.Frag} {F : Hp} : ∀ {xs : List V} {ts : List (List Int)}, reps K F xs ts → ∃ bs : List Addr, xs = bs.map V.ref ∧ PySem.W.EachIs (fun b (t : List Int) => F b = some (.lst (t.map V.int)) ∧ t.length ≤ sizeLine) bs ts
  | _, _, .nil => ⟨[], rfl, .nil⟩
  | _, _, .cons ⟨b, us, e, h, l, r⟩ t => by
    obtain ⟨bs, e2, r2⟩ := reps_rows t
    have hr := reps_int r
    subst hr
    rw [List.length_map] at l
    exact ⟨b :: bs, by rw [e, e2]; rfl, .cons ⟨h, l⟩ r2⟩
theorem rows_reps {K : PySem.W.Frag} {F : Hp} : ∀ {bs : List Addr} {ts : List (List Int)}, PySem.W.EachIs (fun b (t : List Int) => F b = some (.lst (t.map V.int)) ∧ t.length ≤ sizeLine) bs ts → reps K F (bs.map V.ref) ts
  | _, _, .nil => .nil
  | _, _, .cons h r => .cons ⟨_, _, rfl, h.1, by rw [List.length_map]; exact h.2, reps_of_int _⟩ (rows_reps r)
theorem evn_sortedL {ts : List (List Int)} {k : Nat} (hm : X.mg "sorted" = none) (hr : Room k X.A) (ha : Ev X σ F H a ts) (hg : Gl X "sorted" := by rfl) (hs : starEach [a] X.env = (false, eval a X.env) :: starEach [] X.env := by rfl) (hpl : (backTo pos (starEach [] X.env)).any (·.1) = false := by rfl) :
    EvN X σ F H (.Call (.Name "sorted" p) [a] [] pos) (srtL ts) :=
  evn_callB (cr_sortedL (hu64 hr)) hm (by decide +kernel) (ea1 ha hs) (fun vs F1 H1 s ⟨v, e, r⟩ Q q => by
    obtain ⟨l, us, rfl, h1, l1, r1⟩ := r
    obtain ⟨bs, rfl, hb⟩ := reps_rows r1
    refine ⟨l, bs, ts, _, e, SqL.of (s _ _ h1), hb, fun b t h => s _ _ h.1, fun p cs hn hc => ?_⟩
    have rr := rows_reps (K := X.K) hc
    exact q p _ _ _ (.lay s hn) rr (s.free hn) hn upd_same (by
      rw [rr.len]
      unfold srtL
      rw [List.length_mergeSort, ← r1.len]
      exact l1)) hg (by decide) (by decide) hs hpl
end
end MP
namespace MP
open PySem PySem.Spec PyProof.Rows L2 Rep

/-! ### a missing exchange, with lists of its own -/
abbrev Mis := Option (Tri (List Int) (List Int) Int)
def ownT (N : Addr → Prop) : Mis → Option (Tri (OwnL N Int) (OwnL N Int) Int)
  | none => none
  | some t => some ⟨⟨t.a⟩, ⟨t.b⟩, t.c⟩
theorem ownT_plain {K : PySem.W.Frag} {F : Hp} {N : Addr → Prop} {v : V} {d : Mis} (r : rep K F v (ownT N d)) : rep K F v d := by
  cases d with
  | none => exact r
  | some t =>
    obtain ⟨a, x, y, z, e, f, r1, r2, r3⟩ := r
    exact ⟨a, x, y, z, e, f, r1.1, r2.1, r3⟩
theorem ownT_mono {K : PySem.W.Frag} {F : Hp} {N N' : Addr → Prop} {v : V} {d : Mis} (hN : ∀ a, N a → N' a) (r : rep K F v (ownT N d)) : rep K F v (ownT N' d) := by
  cases d with
  | none => exact r
  | some t =>
    obtain ⟨a, x, y, z, e, f, r1, r2, r3⟩ := r
    exact ⟨a, x, y, z, e, f, ⟨r1.1, fun a z => hN a (r1.2 a z)⟩, ⟨r2.1, fun a z => hN a (r2.2 a z)⟩, r3⟩
theorem ownT_grp {K : PySem.W.Frag} {F0 H0 F H F1 H1 : Hp} {v : V} {d : Mis} (W : Wk F0 H0 F H) (w : Same F1 H1) (r : rep K F1 v (ownT (fun a => H a = none) d)) :
    ∃ (N : Addr → Prop) (G : Hp), Grp N G F H1 ∧ rep K G v (ownT N d) ∧ (∀ a, N a → H0 a = none) ∧ (∀ a, N a → H a = none) :=
  ⟨_, nt F1, ⟨nt_not F1, nt_sub.trans w, fun a o n _ _ => W.fh.free n⟩, RepN.ntb r, fun a z => W.hfree z, fun a z => z⟩
/-- its parts -/
theorem mis_parts {K : PySem.W.Frag} {F : Hp} {N : Addr → Prop} {v : V} {t : Tri (List Int) (List Int) Int} (r : rep K F v (ownT N (some t))) : ∃ a q0 q1 y0 y1, v = .ref a ∧ F a = some (.tup [.ref q0, .ref q1, .int t.c]) ∧ N q0 ∧ N q1 ∧ F q0 = some (.lst y0) ∧ F q1 = some (.lst y1) ∧ y0.length = t.a.length ∧ y1.length = t.b.length := by
  obtain ⟨a, x, y, z, e, f, ⟨⟨q0, y0, e0, f0, l0, r0⟩, n0⟩, ⟨⟨q1, y1, e1, f1, l1, r1⟩, n1⟩, r3⟩ := r
  obtain rfl : z = .int t.c := r3
  subst e0
  subst e1
  exact ⟨a, q0, q1, y0, y1, e, f, n0 _ rfl, n1 _ rfl, f0, f1, r0.len, r1.len⟩
theorem upd_row {G : Hp} {q0 q1 : Addr} {y0 y1 : List V} {v : V} (h1 : G q1 = some (.lst y1)) : ∃ zs, upd G q0 (.lst (y0 ++ [v])) q1 = some (.lst zs) ∧ zs.length ≤ y1.length + y0.length + 1 := by
  by_cases h : q1 = q0
  · subst h
    exact ⟨_, upd_same, by rw [List.length_append, List.length_singleton]; omega⟩
  · exact ⟨y1, by rw [upd_ne h]; exact h1, by omega⟩
instance {α β γ : Type} [Rep α] [Rep β] [Rep γ] [DecidableEq α] [DecidableEq β] [DecidableEq γ] [Pyd α] [Pyd β] [Pyd γ] : PydN (Tri α β γ) := ⟨fun a => by constructor <;> (show PyData.eqv _ _ = false) <;> simp [Pyd.py, PyData.eqv]⟩
def oO (K : PySem.W.Frag) (F H : Hp) (Q : VK) (_ : XK) (d : Mis) : Prop := ∀ v F' H', Wk F H F' H' → rep K F' v (ownT (fun a => H a = none) d) → Q v H'
section
variable {X : Cx} {σ : L2.St} {F H : Hp} {a b o e : Expr} {pos p : Pos} {α β : Type} [Rep α] [Rep β] {CX : CXT} {k : Nat} {x : Str} {ps : List Str}
theorem ev_call2O (hx : Passes CX X E0) (hr : Room k X.A) {N : Addr → Prop} {pre : α → β → Prop} {m : α → β → Mis} {u : α} {v : β} (C : Cal X.prog X.w X.K X.mg X.base CX k x ps (sp2 X.K pre m (oO X.K))) (h1 : Ev X σ F H a u) (h2 : Ev X σ F H b v) (hp : pre u v) (hN : ∀ a, H a = none → N a) (hg : Gl X x := by rfl) (hdb : (x == ("__debug__" : Str)) = false := by decide) (he : starEach [a, b] X.env = (false, eval a X.env) :: starEach [b] X.env := by rfl) (he2 : starEach [b] X.env = (false, eval b X.env) :: starEach [] X.env := by rfl) (hpl : (backTo pos (starEach [b] X.env)).any (·.1) = false := by rfl) :
    Ev X σ F H (.Call (.Name x p) [a, b] [] pos) (ownT N (m u v)) := fun F1 H1 w Q q => ew_call C hx hr (ea2 h1 h2 he he2) w Q (fun vs F2 H2 w2 ⟨v1, v2, e, r1, r2⟩ => ⟨F2, u, v, v1, v2, e, w2.fh, r1, r2, hp, fun v F3 H3 w3 r3 => q v F3 H3 (w2.trans w3) (ownT_mono (fun a z => hN a (w.hfree (w2.hfree z))) r3)⟩) hg hdb he hpl
theorem ev_mis {N : Addr → Prop} {d : Mis} (h : Ev X σ F H e (ownT N d)) : Ev X σ F H e d := fun F1 H1 w Q q => h F1 H1 w Q fun v F2 H2 w2 r => q v F2 H2 w2 (ownT_plain r)
theorem ev_triP {q : Addr} {x y : V} {c : Int} (ho : ∀ F, Same F H → EvR X σ F H o q) (fh : Same F H) (ha : H q = some (.tup [x, y, .int c])) : Ev X σ (MP.mrg F (upd (fun _ => none) q (.tup [x, y, .int c]))) H o (Tri.mk (Pt.mk x) (Pt.mk y) c) := fun F1 H1 w Q k =>
  ho _ (mrg_h fh (same_one ha)) F1 H1 w Q fun F2 H2 w2 => k _ F2 H2 w2 ⟨q, x, y, .int c, rfl, (w.ff.trans w2.ff) _ _ (mrg_r fh (same_one ha) _ _ upd_same), rfl, rfl, rfl⟩
theorem er_t0 {j pp} {q q0 : Addr} {y : V} {c : Int} (ho : ∀ F, Same F H → EvR X σ F H o q) (fh : Same F H) (ha : H q = some (.tup [.ref q0, y, .int c])) : EvR X σ F H (.Subscript o (.Constant (.int 0) j pp) pos) q0 :=
  er_of (ev_grp (G := upd (fun _ => none) q (.tup [.ref q0, y, .int c])) fh (same_one ha) (noT_one rfl) (ev_t0 (ev_triP ho fh ha)))
theorem er_t1 {j pp} {q q1 : Addr} {y : V} {c : Int} (ho : ∀ F, Same F H → EvR X σ F H o q) (fh : Same F H) (ha : H q = some (.tup [y, .ref q1, .int c])) : EvR X σ F H (.Subscript o (.Constant (.int 1) j pp) pos) q1 :=
  er_of (ev_grp (G := upd (fun _ => none) q (.tup [y, .ref q1, .int c])) fh (same_one ha) (noT_one rfl) (ev_t1 (ev_triP ho fh ha)))
end
/-- what is there, where something is there -/
def optv {α : Type} [Inhabited α] (o : Option α) : α := o.getD default
instance : Inhabited (Tri (List Int) (List Int) Int) := ⟨⟨[], [], 0⟩⟩
theorem optv_eq {α : Type} [Inhabited α] {o : Option α} {t : α} (h : o = some t) : t = optv o := by
  rw [h]
  rfl
theorem some_of {α : Type} {o : Option α} (h : o.isNone = false) : ∃ t, o = some t := by
  cases o with
  | none => cases h
  | some t => exact ⟨t, rfl⟩
end MP
namespace MP
open PySem PySem.Spec PyProof.Rows L2 Rep

/-! ### exchanges, with lists of their own -/
abbrev Exs := List (Int × List Int)
def ownE (N : Addr → Prop) (d : Exs) : List (Int × OwnL N Int) := d.map fun p => (p.1, ⟨p.2⟩)
theorem ownE_rows {K : PySem.W.Frag} {F : Hp} {N : Addr → Prop} : ∀ {xs : List V} {d : Exs}, reps K F xs (ownE N d) → reps K F xs d
  | _, [], .nil => .nil
  | _, _ :: _, .cons r t => by
    obtain ⟨a, x, y, e, f, r1, r2⟩ := r
    exact .cons ⟨a, x, y, e, f, r1, r2.1⟩ (ownE_rows t)
theorem ownE_plain {K : PySem.W.Frag} {F : Hp} {N : Addr → Prop} {v : V} {d : Exs} (r : rep K F v (ownE N d)) : rep K F v d := by
  obtain ⟨a, xs, e, f, l, r⟩ := r
  exact ⟨a, xs, e, f, l, ownE_rows r⟩
theorem ownE_rmono {K : PySem.W.Frag} {F : Hp} {N N' : Addr → Prop} (hN : ∀ a, N a → N' a) : ∀ {xs : List V} {d : Exs}, reps K F xs (ownE N d) → reps K F xs (ownE N' d)
  | _, [], .nil => .nil
  | _, _ :: _, .cons r t => by
    obtain ⟨a, x, y, e, f, r1, r2⟩ := r
    exact .cons ⟨a, x, y, e, f, r1, r2.1, fun a z => hN a (r2.2 a z)⟩ (ownE_rmono hN t)
theorem ownE_mono {K : PySem.W.Frag} {F : Hp} {N N' : Addr → Prop} {v : V} {d : Exs} (hN : ∀ a, N a → N' a) (r : rep K F v (ownE N d)) : rep K F v (ownE N' d) := by
  obtain ⟨a, xs, e, f, l, r⟩ := r
  exact ⟨a, xs, e, f, l, ownE_rmono hN r⟩
def oE (K : PySem.W.Frag) (F H : Hp) (Q : VK) (_ : XK) (d : Exs) : Prop := ∀ v F' H', Wk F H F' H' → rep K F' v (ownE (fun a => H a = none) d) → Q v H'
section
variable {X : Cx} {σ : L2.St} {F H : Hp} {a b o e : Expr} {pos p : Pos} {ec : Exn → Addr} {E : XK}
theorem EvP.eF {r : Except Exn Exs} (h : EvP X σ F H e (oX ec (oE X.K)) E r) : EvP X σ F H e (oX ec (oF X.K)) E r := fun F1 H1 w Q q => h F1 H1 w Q fun F2 H2 w2 =>
  ⟨fun d hd v F3 H3 w3 r3 => (q F2 H2 w2).1 d hd v F3 H3 w3 (ownE_plain r3), (q F2 H2 w2).2⟩
theorem EvP.okE {N : Addr → Prop} {r : Except Exn Exs} (h : EvP X σ F H e (oX ec (oE X.K)) E r) (hr : isOk r) (hN : ∀ a, H a = none → N a) : Ev X σ F H e (ownE N (okv r)) := fun F1 H1 w Q q => h F1 H1 w Q fun F2 H2 w2 =>
  ⟨fun d hd v F3 H3 w3 r3 => q v F3 H3 (w2.trans w3) (by
    have : MP.okv r = d := by rw [hd]; rfl
    rw [this]
    exact ownE_mono (fun a z => hN a (w.hfree (w2.hfree z))) r3), fun x hx => by
    obtain ⟨d, hd⟩ := hr
    rw [hd] at hx
    cases hx⟩
theorem ev_prP {q : Addr} {y : V} {c : Int} (ho : ∀ F, Same F H → EvR X σ F H o q) (fh : Same F H) (ha : H q = some (.tup [.int c, y])) : Ev X σ (MP.mrg F (upd (fun _ => none) q (.tup [.int c, y]))) H o ((c, Pt.mk y) : Int × Pt) := fun F1 H1 w Q k =>
  ho _ (mrg_h fh (same_one ha)) F1 H1 w Q fun F2 H2 w2 => k _ F2 H2 w2 ⟨q, .int c, y, rfl, (w.ff.trans w2.ff) _ _ (mrg_r fh (same_one ha) _ _ upd_same), rfl, rfl⟩
theorem er_p1 {j pp} {q q1 : Addr} {c : Int} (ho : ∀ F, Same F H → EvR X σ F H o q) (fh : Same F H) (ha : H q = some (.tup [.int c, .ref q1])) : EvR X σ F H (.Subscript o (.Constant (.int 1) j pp) pos) q1 :=
  er_of (ev_grp (G := upd (fun _ => none) q (.tup [.int c, .ref q1])) fh (same_one ha) (noT_one rfl) (ev_snd (ev_prP ho fh ha)))
end
theorem reps_nil {α : Type} [Rep α] {K : PySem.W.Frag} {F : Hp} {xs : List V} (r : reps K F xs ([] : List α)) : xs = [] := by
  cases r
  rfl
theorem reps_own {K : PySem.W.Frag} {F : Hp} {N : Addr → Prop} : ∀ {xs : List V} {T : List (List Int)}, reps K F xs T → (∀ u ∈ xs, ∀ a, u = .ref a → N a) → reps K F xs (owns N T)
  | _, [], .nil, _ => .nil
  | _, _ :: _, .cons r t, h => .cons ⟨r, h _ List.mem_cons_self⟩ (reps_own t fun u hu => h u (List.mem_cons_of_mem _ hu))
/-- lists that grow, in two lists that stay -/
structure Grow (Q : Addr → Prop) (H0 : Hp) (pf ph : Addr) (xf xh : List V) (n : Nat) (F H : Hp) : Prop where
  base : ∀ q, Q q → H0 q = none
  cell : ∀ q, Q q → F q = none ∧ ∃ ys, H q = some (.lst ys) ∧ ys.length ≤ n
  f : H pf = some (.lst xf)
  h : H ph = some (.lst xh)
  nf : ¬ Q pf
  nh : ¬ Q ph
  tf : ∀ (k : Nat) x, xf[k]? = some x → ∃ t i q, x = .ref t ∧ H t = some (.tup [.int i, .ref q]) ∧ Q q
  th : ∀ (k : Nat) x, xh[k]? = some x → ∃ q, x = .ref q ∧ Q q
theorem Grow.wk {Q : Addr → Prop} {H0 : Hp} {pf ph : Addr} {xf xh : List V} {n : Nat} {F H F1 H1 : Hp} (g : Grow Q H0 pf ph xf xh n F H) (w : Wk F H F1 H1) : Grow Q H0 pf ph xf xh n F1 H1 :=
  ⟨g.base, fun q hq => by
    obtain ⟨a, ys, b, c⟩ := g.cell q hq
    exact ⟨w.off a b, ys, w.hh _ _ b, c⟩, w.hh _ _ g.f, w.hh _ _ g.h, g.nf, g.nh, fun k x e => by
    obtain ⟨t, i, q, a, b, c⟩ := g.tf k x e
    exact ⟨t, i, q, a, w.kp.ext _ _ b (by intro ps z; cases z), c⟩, g.th⟩
theorem Grow.put {Q : Addr → Prop} {H0 : Hp} {pf ph : Addr} {xf xh ys : List V} {n : Nat} {F H : Hp} {q : Addr} (g : Grow Q H0 pf ph xf xh n F H) (hq : Q q) (hy : H q = some (.lst ys)) (v : V) : Grow Q H0 pf ph xf xh (n + 1) F (upd H q (.lst (ys ++ [v]))) := by
  have hl : ys.length ≤ n := by
    obtain ⟨a, zs, b, c⟩ := g.cell q hq
    rw [hy] at b
    cases b
    exact c
  refine ⟨g.base, fun q' hq' => ?_, ?_, ?_, g.nf, g.nh, fun k x e => ?_, g.th⟩
  · obtain ⟨a, zs, b, c⟩ := g.cell q' hq'
    refine ⟨a, ?_⟩
    by_cases z : q' = q
    · subst z
      exact ⟨_, upd_same, by rw [List.length_append, List.length_singleton]; omega⟩
    · exact ⟨zs, by rw [upd_ne z]; exact b, by omega⟩
  · rw [upd_ne fun (z : pf = q) => g.nf (by rw [z]; exact hq)]
    exact g.f
  · rw [upd_ne fun (z : ph = q) => g.nh (by rw [z]; exact hq)]
    exact g.h
  · obtain ⟨t, i, q', a, b, c⟩ := g.tf k x e
    refine ⟨t, i, q', a, ?_, c⟩
    rw [upd_ne fun z => ?_]
    · exact b
    · rw [z, hy] at b
      cases b
theorem ex_cell {K : PySem.W.Frag} {F : Hp} {N : Addr → Prop} {n : Nat} : ∀ {xs : List V} {d : Exs}, reps K F xs (ownE N d) → (∀ p ∈ d, p.2.length ≤ n) → ∀ (k : Nat) x, xs[k]? = some x → ∃ t i q ys, x = .ref t ∧ F t = some (.tup [.int i, .ref q]) ∧ N q ∧ F q = some (.lst ys) ∧ ys.length ≤ n ∧ ∀ y ∈ ys, ∃ j, y = .int j
  | _, [], .nil, _, k, x, e => by simp at e
  | _, p :: d, .cons r t, hn, 0, x, e => by
    obtain ⟨a, u, y, e1, f, r1, ⟨q, ys, e2, f2, l2, r2⟩, r3⟩ := r
    obtain rfl : u = .int p.1 := r1
    subst e2
    rw [List.getElem?_cons_zero] at e
    cases e
    have hi := reps_int r2
    exact ⟨a, p.1, q, ys, e1, f, r3 _ rfl, f2, by rw [r2.len]; exact hn p List.mem_cons_self, fun y hy => by
      rw [hi] at hy
      obtain ⟨j, _, z⟩ := List.mem_map.mp hy
      exact ⟨j, z.symm⟩⟩
  | _, p :: d, .cons r t, hn, k + 1, x, e => by
    rw [List.getElem?_cons_succ] at e
    exact ex_cell t (fun p hp => hn p (List.mem_cons_of_mem _ hp)) k x e
theorem row_cell {K : PySem.W.Frag} {F : Hp} {N : Addr → Prop} {n : Nat} : ∀ {xs : List V} {T : List (List Int)}, reps K F xs (owns N T) → (∀ t ∈ T, t.length ≤ n) → ∀ (k : Nat) x, xs[k]? = some x → ∃ q ys, x = .ref q ∧ N q ∧ F q = some (.lst ys) ∧ ys.length ≤ n ∧ ∀ y ∈ ys, ∃ j, y = .int j
  | _, [], .nil, _, k, x, e => by simp at e
  | _, p :: d, .cons r t, hn, 0, x, e => by
    obtain ⟨⟨q, ys, e2, f2, l2, r2⟩, r3⟩ := r
    rw [List.getElem?_cons_zero] at e
    cases e
    have hi := reps_int r2
    exact ⟨q, ys, e2, r3 _ e2, f2, by rw [r2.len]; exact hn p List.mem_cons_self, fun y hy => by
      rw [hi] at hy
      obtain ⟨j, _, z⟩ := List.mem_map.mp hy
      exact ⟨j, z.symm⟩⟩
  | _, p :: d, .cons r t, hn, k + 1, x, e => by
    rw [List.getElem?_cons_succ] at e
    exact row_cell t (fun p hp => hn p (List.mem_cons_of_mem _ hp)) k x e
/-- they are let go of -/
theorem grow_start {K : PySem.W.Frag} {F0 H0 Fm Hm F H : Hp} {N : Addr → Prop} {vf vh : V} {d : Exs} {T : List (List Int)} {n : Nat} (WM : Wk F0 H0 Fm Hm) (W : Wk F0 H0 F H) (s : Same Fm F) (rf : rep K F vf (ownE N d)) (rh : rep K F vh (owns N T)) (hN : ∀ a, N a → Fm a = none ∧ H0 a = none) (hd : ∀ p ∈ d, p.2.length ≤ n) (hT : ∀ t ∈ T, t.length ≤ n) (hl : T.length = d.length) :
    ∃ Q pf ph xf xh, vf = .ref pf ∧ vh = .ref ph ∧ xf.length = d.length ∧ xh.length = d.length ∧ xf.length ≤ sizeLine ∧ xh.length ≤ sizeLine ∧ Wk F0 H0 Fm H ∧ Grow Q H0 pf ph xf xh n Fm H := by
  obtain ⟨pf, xf, ef, ff, lf, rf⟩ := rf
  obtain ⟨ph, xh, eh, fh, lh, rh⟩ := rh
  have cf := ex_cell rf hd
  have ch := row_cell rh hT
  have hb : Wk F0 H0 Fm H := ⟨WM.ff, W.kp, s.trans W.fh, WM.nw⟩
  have nf : xf.length = d.length := by rw [rf.len]; exact List.length_map _
  have nh : xh.length = T.length := by rw [rh.len]; exact List.length_map _
  have key : ∀ (p : Addr) (xs : List V), F p = some (.lst xs) → xs ≠ [] → (∀ x ∈ xs, ∃ t, x = V.ref t) → ∀ (q : Addr) (ys : List V), F q = some (.lst ys) → (∀ y ∈ ys, ∃ j, y = V.int j) → q ≠ p := by
    intro p xs hp hne hr q ys hq hi z
    rw [z, hp] at hq
    cases hq
    cases xs with
    | nil => exact hne rfl
    | cons x l =>
      obtain ⟨t, z⟩ := hr x List.mem_cons_self
      obtain ⟨j, z2⟩ := hi x List.mem_cons_self
      rw [z] at z2
      cases z2
  have rf' : ∀ x ∈ xf, ∃ t, x = V.ref t := fun x hx => by
    obtain ⟨k, hk⟩ := List.mem_iff_getElem?.mp hx
    obtain ⟨t, i, q, ys, z, _⟩ := cf k x hk
    exact ⟨t, z⟩
  have rh' : ∀ x ∈ xh, ∃ t, x = V.ref t := fun x hx => by
    obtain ⟨k, hk⟩ := List.mem_iff_getElem?.mp hx
    obtain ⟨q, ys, z, _⟩ := ch k x hk
    exact ⟨q, z⟩
  have ne1 : xf ≠ [] → xh ≠ [] := fun h z => h (List.length_eq_zero_iff.mp (by rw [nf, ← hl, ← nh, z]; rfl))
  have ne2 : xh ≠ [] → xf ≠ [] := fun h z => h (List.length_eq_zero_iff.mp (by rw [nh, hl, ← nf, z]; rfl))
  refine ⟨fun q => N q ∧ q ≠ pf ∧ q ≠ ph ∧ ∃ ys, F q = some (.lst ys) ∧ ys.length ≤ n, pf, ph, xf, xh, ef, eh, nf, nh.trans hl, lf, lh, hb, ?_⟩
  refine ⟨fun q hq => (hN q hq.1).2, fun q hq => ?_, W.fh _ _ ff, W.fh _ _ fh, fun z => z.2.1 rfl, fun z => z.2.2.1 rfl, fun k x e => ?_, fun k x e => ?_⟩
  · obtain ⟨a, _, _, ys, b, c⟩ := hq
    exact ⟨(hN q a).1, ys, W.fh _ _ b, c⟩
  · obtain ⟨t, i, q, ys, a, b, c, f, g, h⟩ := cf k x e
    have hx : xf ≠ [] := fun z => by rw [z] at e; simp at e
    exact ⟨t, i, q, a, W.fh _ _ b, c, key pf xf ff hx rf' q ys f h, key ph xh fh (ne1 hx) rh' q ys f h, ys, f, g⟩
  · obtain ⟨q, ys, a, c, f, g, h⟩ := ch k x e
    have hx : xh ≠ [] := fun z => by rw [z] at e; simp at e
    exact ⟨q, a, c, key pf xf ff (ne2 hx) rf' q ys f h, key ph xh fh hx rh' q ys f h, ys, f, g⟩
end MP
namespace MP
open PySem PySem.Spec PyProof.Rows L2 Rep
section
variable {X : Cx} {σ : L2.St} {F H : Hp} {a b e : Expr} {pos p : Pos} {α β ω : Type} [Rep α] [Rep β] {CX : CXT} {k : Nat} {x : Str} {ps : List Str} {E : XK} {ec : Exn → Addr}
theorem ew_callA {es : List Expr} {sp : Sp} (C : Cal X.prog X.w X.K X.mg X.base CX k x ps sp) (hx : PassesAt CX X σ E) (hr : Room k X.A) {H1 : Hp} (Q : VK) (ha : AW X (e :: es) σ H1 fun vs H2 => sp vs H2 Q E)
    (hg : Gl X x := by rfl) (hdb : (x == ("__debug__" : Str)) = false := by decide) (he : starEach (e :: es) X.env = (false, eval e X.env) :: starEach es X.env := by rfl) (hpl : (backTo pos (starEach es X.env)).any (·.1) = false := by rfl) : EW X (.Call (.Name x p) (e :: es) [] pos) σ H1 Q := by
  obtain ⟨f, fd, hm, hk, hb, Fn⟩ := C
  refine ew_at fun pins s I => wpAny_Call_Name_kw (ld_glob I hg hm ?_ hdb)
  refine PySem.W.callWith_K (h₀ := X.base) I.ok.mod.kin hk (thn (aw_pa.run pos pins s σ H1 (fun vs H2 => sp vs H2 Q E) I ha) fun us s2 ⟨vs, H2, I2, rv, q2⟩ => ⟨I2.kIn, ?_⟩) he hpl
  exact run_fnS (E := fun _ => E) Fn hr hb hx I2 rv q2
/-- the second argument may refuse -/
theorem pcal2b {o : Hp → Hp → VK → XK → ω → Prop} {pre : α → β → Prop} {m : α → β → Except Exn ω} {u : α} {rb : Except Exn β} (hx : PassesAt CX X σ E) (hr : Room k X.A) (C : Cal X.prog X.w X.K X.mg X.base CX k x ps (sp2 X.K pre m (oX ec o))) (h1 : Ev X σ F H a u) (h2 : EvP X σ F H b (oX ec (oF X.K)) E rb) (hp : ∀ v, rb = .ok v → pre u v) (hg : Gl X x := by rfl) (hdb : (x == ("__debug__" : Str)) = false := by decide) (he : starEach [a, b] X.env = (false, eval a X.env) :: starEach [b] X.env := by rfl) (he2 : starEach [b] X.env = (false, eval b X.env) :: starEach [] X.env := by rfl) (hpl : (backTo pos (starEach [b] X.env)).any (·.1) = false := by rfl) :
    EvP X σ F H (.Call (.Name x p) [a, b] [] pos) (oX ec o) E (bindX rb (m u)) := fun F1 H1 w Q q =>
  ew_callA C hx hr Q ⟨_, pa_cons ew_pe (pa_cons ew_pe pa_nil he2) he, h1 F1 H1 w _ fun v F2 H2 w2 r => h2 F2 H2 (w.trans w2) _ fun F3 H3 w3 =>
    ⟨fun d hd v' F4 H4 w4 r4 => ⟨F4, u, d, v, v', rfl, w4.fh, Rep.mono (w3.ff.trans w4.ff) r, r4, hp d hd, by
      have q4 := q F4 H4 ((w2.trans w3).trans w4)
      rw [hd] at q4
      exact q4⟩, fun y hy F4 H4 w4 => by
      refine (q F3 H3 (w2.trans w3)).2 y ?_ F4 H4 w4
      rw [hy]
      rfl⟩⟩ hg hdb he hpl
end
/-! ### list(range(n)) -/
theorem evn_listR {X : Cx} {σ : L2.St} {F H : Hp} {a : Expr} {p p' pr pos : Pos} {k : Nat} {n : Int} (hm : X.mg "list" = none) (hmR : X.mg "range" = none) (hr : Room k X.A) (ha : Ev X σ F H a n) (h0 : 0 ≤ n) (h1 : n ≤ 1000000) (hg : Gl X "list" := by rfl) (hgR : Gl X "range" := by rfl)
    (na : starEach [a] X.env = (false, eval a X.env) :: starEach [] X.env := by rfl) (nr : starEach [.Call (.Name "range" p') [a] [] pr] X.env = (false, eval (.Call (.Name "range" p') [a] [] pr) X.env) :: starEach [] X.env := by rfl) :
    EvN X σ F H (.Call (.Name "list" p) [.Call (.Name "range" p') [a] [] pr] [] pos) (rng 0 n) := fun F1 H1 w Q q => ew_at fun pins s I => by
  refine Call_ (ld_blt I hg hm PyProof.Rows.boot_list (PyProof.Rows.callWith_type1 (args_cons (Call_ (ld_blt I hgR hmR boot_range (PyProof.Rows.callWith_type1 (one_arg (R := fun x H2 => x = .int n ∧ ∃ F2, Wk F1 H1 F2 H2) ew_pe I ?arg (fun v s2 x H2 I2 r2 q2 => ?_) na) na))) nr) nr))
  case arg => exact ha F1 H1 w _ fun v F2 H2 w2 r2 => ⟨r2, F2, w2⟩
  obtain ⟨rfl, F2, w2⟩ := q2
  obtain ⟨tn, rfl⟩ := r2
  refine call_range_1 ?_
  have I2' : Inv X pins σ H2 { s2 with heap := s2.heap.push { cls := .type "range", data := .fields #[.int 0 s2.toks, .int n tn, .int 1 (s2.toks + 1)] }, toks := s2.toks + 1 + 1 } := I2.kept fun b u e => Heap.get?_push_of_some _ e
  refine args_nil ?_
  obtain ⟨m, rfl⟩ : ∃ m : Nat, n = (m : Int) := ⟨n.toNat, by omega⟩
  refine call_list_range (n := m) hr.hd (Heap.get?_push_size _ rfl) (small_one (by omega) (by omega) (by omega) (by omega)) (by rw [rangeSize_nat]; omega) (by omega) fun h' tk acc' c' hk hS' hacc => ?_
  have hl : acc'.toList.length = m := by rw [Array.length_toList]; exact hacc.1
  have hz : ((rng 0 (m : Int)).map V.int).length ≤ sizeLine := by rw [List.length_map, rng_len, sizeLine_eq]; omega
  have hv : Vals ((rng 0 (m : Int)).map V.int) acc'.toList := by
    have h2 := vals_of_get acc'.toList (fun j : Nat => V.int (j : Int)) fun j u e => by
      obtain ⟨t, ht⟩ := hacc.2 j u (by simpa using e)
      exact ⟨t, by rw [ht]; congr 1; omega⟩
    rw [hl] at h2
    have e : (rng 0 (m : Int)).map V.int = (List.range m).map fun j : Nat => V.int (j : Int) := by
      unfold rng
      rw [List.map_map, show ((m : Int) - 0).toNat = m by omega]
      exact List.map_congr_left fun i _ => by
        show V.int (0 + (i : Int)) = _
        rw [Int.zero_add]
    rw [e]
    exact h2
  refine ⟨.ref _, upd H2 _ (.lst ((rng 0 (m : Int)).map V.int)), I2'.laid hk (Nat.le_refl _) ⟨hz, acc'.toList, c', hv, by simpa using hS'⟩, rfl, ?_⟩
  have hn : H2 (s2.heap.push { cls := .type "range", data := .fields #[.int 0 s2.toks, .int (m : Int) tn, .int 1 (s2.toks + 1)] }).objs.size = none := I2'.hok.fresh (Nat.le_refl _)
  exact q _ _ F2 _ (w2.trans (.lay w2.fh hn)) (reps_of_int _) (w2.fh.free hn) (w2.hfree hn) upd_same hz
end MP
namespace MP
open PySem PySem.Spec PyProof.Rows L2 Rep

/-! ### a comprehension whose element may refuse -/
/-- a call in the block B has let an exception out -/
def xbOut (X : Cx) (W : WX) (σ : L2.St) (B : Cx) : Value → Shared → Prop := fun u s' => ∃ pins σb H sb, Inv B pins σb H sb ∧ L2.CX X.prog X.w X.stack H sb (fun cls d H' => W cls d σ H') u s'
abbrev xbk (X : Cx) (W : WX) (σ : L2.St) (s : Shared) (Hb : Hp) (scope : Scope) (C : Addr) (cl : List (Str × Addr)) (fp : List Addr) : Cx := { MP.Cx.bk X s Hb scope C cl fp with xe := xbOut X W σ (MP.Cx.bk X s Hb scope C cl fp) }
section
variable {X : Cx} {W : WX} {σ σb : L2.St} {s3 s : Shared} {H3 H : Hp} {scope : Scope} {C : Addr} {cl : List (Str × Addr)} {fp : List Addr} {pins pb : List (Addr × Obj)}
theorem to_xb (I : Inv (MP.Cx.bk X s3 H3 scope C cl fp) pb σb H s) : Inv (xbk X W σ s3 H3 scope C cl fp) pb σb H s := by
  obtain ⟨ok, a1, a2, a3, a4, a5, a6, a7, a8, a9, a10⟩ := I
  refine ⟨?_, a1, a2, a3, a4, a5, a6, a7, a8, a9, a10⟩
  obtain ⟨⟩ := ok
  constructor <;> assumption
theorem of_xb (I : Inv (xbk X W σ s3 H3 scope C cl fp) pb σb H s) : Inv (MP.Cx.bk X s3 H3 scope C cl fp) pb σb H s := by
  obtain ⟨ok, a1, a2, a3, a4, a5, a6, a7, a8, a9, a10⟩ := I
  refine ⟨?_, a1, a2, a3, a4, a5, a6, a7, a8, a9, a10⟩
  obtain ⟨⟩ := ok
  constructor <;> assumption
theorem at_xb : PassesAt (L2.CX X.prog X.w) (xbk X W σ s3 H3 scope C cl fp) σb (fun cls d H' => W cls d σ H') := fun pins H s e s' I c => ⟨pins, σb, H, s, of_xb I, c⟩
/-- it goes on in the def's own frame -/
theorem blk_out (tk : Takes X W) (hs : X.stack = X.env :: X.outer) (hf : X.env.frame = some X.env.locals) (I3 : Inv X pins σ H3 s3) (hfp : ∀ b ∈ fp, FpOk X pins H3 b) (hC : C = s3.heap.objs.size) {u : Value} {s' : Shared} (x : xbOut X W σ (MP.Cx.bk X s3 H3 scope C cl fp) u s') :
    notedBy (model X.prog X.w) X.A (compEnvC scope cl C X.env) (CompFails (model X.prog X.w) X.A X.xe (compEnvC scope cl C X.env)) u s' := by
  obtain ⟨pb, σb, Hb, sb, Ib, a, B, H', cls, d, rfl, fl, hok, ub, na, os, ag, hE⟩ := x
  have cF : (compEnvC scope cl C X.env).frame = X.env.frame := rfl
  have HbC : Hb C = none := Ib.free
  have IX : Inv X pins σ Hb sb := I3.call' (ch := fp) Ib.os Ib.base Ib.hok Ib.bare fun b hb => ⟨(hfp b hb).2.2.2.1, (hfp b hb).2.1, (hfp b hb).2.2.2.2.1, (hfp b hb).2.2.2.2.2⟩
  obtain ⟨m, hns, _⟩ := Ib.loc
  have hns : sb.heap.Ns C m := hns
  obtain ⟨oC, es, ep, hoC, hdC, rC⟩ := hns
  have HC' : H' C = none := ub.free C oC hoC HbC
  have fC : FpOk X pins H' C := I3.fpOk (Nat.le_of_eq hC.symm) HC'
  have nst : C ∉ frs X.stack := fun z => (List.mem_cons.mp (IX.stkSub C z)).elim fC.2.1 fC.2.2.1
  have BC : B.get? C = some oC := ub.keep C oC hoC HbC nst
  obtain ⟨B', b1, b2⟩ := L2.restrict B fun b => decide (b ≠ C)
  have b1' : ∀ b, b ≠ C → B'.get? b = B.get? b := fun b h => b1 b (by simp [h])
  have bC : B'.get? C = none := b2 C (by simp)
  have oB : ∀ b o, B'.get? b = some o → b ≠ C ∧ B.get? b = some o := fun b o e => by
    by_cases h : b = C
    · rw [h, bC] at e
      cases e
    · exact ⟨h, (b1' b h) ▸ e⟩
  have nB : ∀ b, B.get? b = none → B'.get? b = none := fun b e => by
    cases q : B'.get? b with
    | none => rfl
    | some o =>
      rw [(oB b o q).2] at e
      cases e
  have fl' : HandSPX.FlyingZ B' X.stack a (Zc cls d) s'.heap := by
    obtain ⟨k1, k2, k3, oe, vs, T, oT, ts, q1, q2, q3, q4, q5, q6⟩ := fl
    exact ⟨fun b o e => k1 b o (oB b o e).2, nB a k2, funFrames_none k3 fun L hL => nB L (k3.mem hL).1, oe, vs, T, oT, ts, q1, q2, q3, q4, nB T q5, q6⟩
  have st : B.StaysIn s'.heap := fl.1
  obtain ⟨G, g1, g2⟩ := L2.restrict s'.heap fun b => (B'.get? b).isSome || decide (b ∈ frs X.stack)
  have gB : ∀ b o, B'.get? b = some o → G.get? b = some o := fun b o e => by
    rw [g1 b (by simp [e])]
    exact st b o (oB b o e).2
  have gF : ∀ b, b ∈ frs X.stack → G.get? b = s'.heap.get? b := fun b hb => g1 b (by simp [hb])
  have og : ∀ b o, G.get? b = some o → s'.heap.get? b = some o ∧ ((B'.get? b).isSome = true ∨ b ∈ frs X.stack) := fun b o e => by
    cases q : ((B'.get? b).isSome || decide (b ∈ frs X.stack)) with
    | false =>
      rw [g2 b q] at e
      cases e
    | true =>
      rw [g1 b q] at e
      exact ⟨e, by simpa [Bool.or_eq_true] using q⟩
  have hok' : HOk X.prog X.w H' B' := fun b o q => (hok b o q).stay (fun c v hc r => (b1' c fun z => by
    rcases hc with w | w
    · rw [← w, z, HC'] at q
      cases q
    · rw [z, HC'] at w
      cases w).trans r) (fun _ r => r) fun _ _ r => r
  have I' : Inv X pins σ H' { sb with heap := G, gens := s'.gens, drawn := s'.drawn, toks := s'.toks } := by
    refine IX.call (ch := [C]) ⟨fun b o e n hb hc => gB b o ((b1' b fun z => hc (by simp [z])).trans (ub.keep b o e n hb)), fun b o e n hb _ => ?_, fun b o e n _ => ub.free b o e n, fun b o e hc => ?_, ub.tups, ub.frzs, ub.tbls⟩ (hok'.kept gB) ag fun b hb => ?_
    · obtain ⟨sl, q⟩ := ub.slot b o e hb
      exact ⟨sl, by rw [gF b hb]; exact q⟩
    · by_cases hb : b ∈ frs X.stack
      · obtain ⟨sl, q⟩ := ub.slot b o e hb
        exact ⟨_, by rw [gF b hb]; exact q⟩
      · obtain ⟨o', q⟩ := ub.there b o e hb
        exact ⟨o', gB b o' ((b1' b fun z => hc (by simp [z])).trans q)⟩
    · have z : b = C := by simpa using hb
      rw [z]
      exact ⟨fC.2.2.2.1, fC.2.1, fC.2.2.2.2.1, fC.2.2.2.2.2⟩
  have hfr : X.A.frames = some (X.env :: X.outer) := by rw [IX.ok.frames, hs]
  show wpAny (model X.prog X.w) X.A (noteFrame (.ref a) (compEnvC scope cl C X.env)) _ _ s'
  rw [noteFrame_env _ cF]
  rw [hs] at fl'
  have dC : ∀ vs, oC.data ≠ .fields vs := fun vs z => by
    rw [hdC] at z
    cases z
  refine HandSPX.looks_onZ Zc.steady hfr hf fl' fun h1 hh1 up1 => ?_
  obtain ⟨sl, hC1⟩ := up1 C oC (st C oC BC) dC
  refine ⟨m, ⟨_, es, ep, hC1, hdC, rC⟩, fun h2 m2 hn2 sb2 => ?_⟩
  have hh2 : HandSPX.HeldZ B' (X.env :: X.outer) a (Zc cls d) X.env.locals h2 := by
    obtain ⟨k1, k2, k3, oe, vs, T, oT, ts, q1, q2, q3, q4, q5, q6, q7, q8, q9⟩ := hh1
    have n1 : a ≠ C := fun z => by
      rw [z, hC1] at q1
      cases q1
      exact dC vs q3
    have n2 : T ≠ C := fun z => by
      rw [z, hC1] at q7
      cases q7
      exact dC ts q8
    exact ⟨fun b o e => (sb2.2 b (oB b o e).1).trans (k1 b o e), k2, Heap.FunFrames.sameBut sb2 hn2 k3, oe, vs, T, oT, ts, (sb2.2 a n1).trans q1, q2, q3, q4, q5, q6, (sb2.2 T n2).trans q7, q8, q9⟩
  have hh := hh2
  obtain ⟨_, _, _, oe, vs, T, oT, ts, q1, q2, q3, q4, _⟩ := hh
  unfold PySem.passOn
  refine wpAny_bind (wpAny_field q1 q3 q4 ?_)
  rw [if_neg (show ¬ ((Value.ref T == Value.none) = true) from by simp), cF, hf]
  refine wpAny_bind (HandSPX.setFlight_onZ hh2 fun h3 hh3 up3 => wpAny_throw ?_)
  refine tk _ _ ⟨a, B', _, pins, σ, H', cls, d, rfl, I', fun b o e hb => ?_, fun b o e hn => ?_, .inr (.inr (by rw [hs]; exact hh3)), na, os, ag, hE⟩
  · rcases (og b o e).2 with h | h
    · obtain ⟨o', q⟩ := Option.isSome_iff_exists.mp h
      have z := gB b o' q
      rw [e] at z
      cases z
      exact q
    · exact absurd h hb
  · have bn : b ≠ C := fun z => by
      rcases (og b o e).2 with h | h
      · rw [z, bC] at h
        cases h
      · exact nst (z ▸ h)
    obtain ⟨s1, e1⟩ := up1 b o (og b o e).1 hn
    exact up3 b _ ((sb2.2 b bn).trans e1) hn |>.imp fun _ q => q
end
/-! ### the walk of it -/
def teX (X : Cx) (W : WX) (σ0 : L2.St) (scope : Scope) (e : Expr) : TE := fun σ H Q => ∀ s Hb C cl fp, EW (xbk X W σ0 s Hb scope C cl fp) e σ H Q
section
variable {X : Cx} {W : WX} {σ : L2.St} {scope : Scope}
theorem lcX_run {pins : List (Addr × Obj)} {s : Shared} {H : Hp} {Q : VK} {elt tg iter : Expr} {own : List (Str × Nat)} {pos : Pos} {wi : TI} {g : TG} (tk : Takes X W) (hst : X.stack = X.env :: X.outer) (hfr : X.env.frame = some X.env.locals) (hc : X.calm = true) (hN : X.N.Nodup) (I : Inv X pins σ H s) (hi : PI X tg iter wi) (ok : BlkOk X.N X.env.scope scope own)
    (hg : ∀ (s : Shared) (H : Hp) (C : Addr) (cl : List (Str × Addr)) (fp : List Addr), PG (MP.Cx.bk X s H scope C cl fp) tg g) (hs : ∀ x, foldedSetIterable iter X.env x = pure x) (h : tLc wi g tYes (teX X W σ scope elt) (own.map (·.2)) σ H Q) :
    wpAny (model X.prog X.w) X.A (eval (.ListComp elt [⟨tg, iter, [], 0⟩] scope pos) X.env) (EP X pins σ Q) X.xe s := by
  have hcap : ∀ y ∈ scope.names, y.2 = .free → ∃ c, X.env.cells.lookup y.1 = some c := fun y hy e => (ok.free y hy e).elim (fun k => I.ok.has _ (.inl k)) fun k => I.ok.has _ (.inr k)
  rw [eval_ListComp]
  refine comprehension_at (use := none) rfl hs (closure_ok hcap) ok.kind (fun y hy e => (ok.uniq y hy).trans (by rw [e])) (thn (hi.run pins s σ H _ I h) fun xv s1 hx => thn hx fun itv s2 h2 => ?_)
  obtain ⟨it, fp, tn, J, H2, rfl, I2, T, st2, f2, q⟩ := h2
  refine wpAny_newObj_type (newEnv_comp ?_) (by show 0 ≤ sizeLine; decide)
  obtain ⟨D, hD⟩ : ∃ D, D = s2.heap.objs.size := ⟨_, rfl⟩
  rw [← hD]
  obtain ⟨V, ⟨m0, v0⟩, turn⟩ := q D (I2.hok.fresh (Nat.le_of_eq hD.symm))
  obtain ⟨s3, hs3⟩ : ∃ s3 : Shared, s3 = { s2 with heap := s2.heap.push { cls := .type "list", data := .seq ([] : List Value).toArray } } := ⟨_, rfl⟩
  have old3 : ∀ b o, s2.heap.get? b = some o → s3.heap.get? b = some o := fun b o e => by
    rw [hs3]
    exact Heap.get?_push_of_some _ e
  have I3 : Inv X pins σ (upd H2 D (.lst [])) s3 := by
    rw [hs3]
    exact I2.laid (t' := s2.toks) (fun b o e => Heap.get?_push_of_some _ e) (Nat.le_of_eq hD.symm) ⟨Nat.zero_le _, [], 0, .nil, by rw [hD]; exact Heap.get?_push_size _ rfl⟩
  have lt2 : ∀ b ∈ fp, b < s2.heap.objs.size := fun b hb => by
    obtain ⟨o, e, _⟩ := T.obj _ _ st2 b hb
    exact Heap.lt_size e
  have f3 : ∀ b ∈ fp, FpOk X pins (upd H2 D (.lst [])) b ∧ b < s3.heap.objs.size := fun b hb => by
    have hlt := lt2 b hb
    refine ⟨⟨(upd_ne (by rw [hD]; exact Nat.ne_of_lt hlt)).trans (f2 b hb).1, (f2 b hb).2⟩, ?_⟩
    rw [hs3]
    exact Nat.lt_of_lt_of_eq (Nat.lt_succ_of_lt hlt) (Heap.size_push ..).symm
  have st3 : tn 0 s3.heap := T.keep _ _ _ st2 fun b _ o e => old3 b o e
  have I4 := block_start I3 ok hN f3
  obtain ⟨cs, hcs⟩ : ∃ cs, cs = cellsFrom (s3.heap.objs.size + 1) scope.names (cloFrom X.env.cells scope.names []) := ⟨_, rfl⟩
  obtain ⟨C, hC⟩ : ∃ C, C = s3.heap.objs.size := ⟨_, rfl⟩
  obtain ⟨H3, hH3⟩ : ∃ H3, H3 = upd H2 D (.lst []) := ⟨_, rfl⟩
  obtain ⟨s4, hs4⟩ : ∃ s4 : Shared, s4 = { s3 with heap := pushCells (s3.heap.push { cls := .type "dict", data := .dict #[] }) scope.names } := ⟨_, rfl⟩
  have I4' : Inv (MP.Cx.bk X s3 H3 scope C cs fp) [] (wipe σ (own.map (·.2))) H3 s4 := by
    rw [hC, hcs, hH3, hs4]
    exact I4
  suffices main : codeAny (model X.prog X.w) X.A (.compStart (.ListComp elt [⟨tg, iter, [], 0⟩] scope pos) 0 (.ref it) (.ref D) (compEnvC scope cs C X.env)) (compEnds (model X.prog X.w) X.A X.xe none (EP X pins σ Q) (.ref D) (compEnvC scope cs C X.env)) s4 by
    rw [hC, hcs, hs4, hs3] at main
    exact main
  have nfp : ∀ b ∈ fp, H3 b = none := fun b hb => by
    rw [hH3]
    exact (f3 b hb).1.1
  have f3' : ∀ b ∈ fp, FpOk X pins H3 b := fun b hb => by
    rw [hH3]
    exact (f3 b hb).1
  have I3' : Inv X pins σ H3 s3 := by
    rw [hH3]
    exact I3
  rw [← hH3] at v0
  have st4 : tn 0 s4.heap := T.keep _ _ _ st3 fun b _ o e => by
    rw [hs4]
    exact pushCells_keeps _ _ _ _ (Heap.get?_push_of_some _ e)
  have stat : ∀ {σ' : L2.St} {H' : Hp} {s' : Shared}, Inv (MP.Cx.bk X s3 H3 scope C cs fp) [] σ' H' s' → (∀ b ∈ fp, H' b = none) → ∀ b ∈ fp, FpOk (MP.Cx.bk X s3 H3 scope C cs fp) [] H' b := fun I' hn b hb =>
    ⟨hn b hb, (I'.ok.exf b hb).1, I'.ok.exfs b hb, .inl hb, (fun x c e => (I'.ok.exf b hb).2 x c e), (fun p hp => absurd (show p ∈ ([] : List (Addr × Obj)) ++ [] from hp) (by simp))⟩
  have loop : codeAny (model X.prog X.w) X.A (.compLoop (.ListComp elt [⟨tg, iter, [], 0⟩] scope pos) 0 (.ref it) (.ref D) (compEnvC scope cs C X.env)) (compEnds (model X.prog X.w) X.A X.xe none (EP X pins σ Q) (.ref D) (compEnvC scope cs C X.env)) s4 := by
    refine compLoop_any (fun n s' => ∃ i H', Inv (MP.Cx.bk X s3 H3 scope C cs fp) [] (wipe σ (own.map (·.2))) H' s' ∧ tn i s'.heap ∧ (∀ b ∈ fp, H' b = none) ∧ V i n H') ?_ m0 ⟨0, H3, I4', st4, nfp, v0⟩
    rintro n s5 ⟨i, H5, I5, st5, n5, v5⟩
    rcases turn i n H5 v5 with ⟨stop, qq⟩ | ⟨go, Nx, hNx, step⟩
    · refine thnF (T.done (MP.Cx.bk X s3 H3 scope C cs fp) rfl rfl rfl hc i [] s5 _ H5 (fun _ _ => False) I5 (stat I5 n5) st5 stop) fun r s6 hr6 => ?_
      obtain ⟨hr, I6⟩ := hr6
      subst hr
      have I7 : Inv X pins σ H5 s6 := I3'.call' (ch := fp) I6.os I6.base I6.hok I6.bare fun b hb => ⟨(f3' b hb).2.2.2.1, (f3' b hb).2.1, (f3' b hb).2.2.2.2.1, (f3' b hb).2.2.2.2.2⟩
      obtain ⟨m, hn, _⟩ := I6.loc
      obtain ⟨e0, e1, e2, e3, e4, e5⟩ := I3'.fpOk (b := C) (Nat.le_of_eq hC.symm) (show H5 C = none from I6.free)
      exact ⟨m, hn, fun h'' sb => ⟨.ref D, H5, I7.turned (t' := s6.toks) (fun b o hb e => (sb.2 b hb).trans e) e0 e1 e3 e4 e5, rfl, qq⟩⟩
    · refine thnF (T.item (MP.Cx.bk X s3 H3 scope C cs fp) rfl rfl rfl hc i [] s5 _ H5 (fun _ _ => False) I5 (stat I5 n5) st5 go) fun r s6 hr6 => ?_
      obtain ⟨u, hr, h6⟩ := hr6
      subst hr
      refine thnF h6 fun _ s7 hr7 => ?_
      obtain ⟨x, H7, I7, r7, y7, st7, n7⟩ := hr7
      refine thnF ((hg s3 H3 C cs fp).run _ s7 _ H7 x u _ (I7.pinned (stat I7 n7) (T.obj _ _ st7)) r7 (step x H7 y7)) fun _ s8 hr8 => ?_
      obtain ⟨σ8, H8, I8, hw8, q8⟩ := hr8
      refine thnF ((pts_nil (X := MP.Cx.bk X s3 H3 scope C cs fp)).run _ s8 σ8 H8 _ I8 q8) fun b s9 hr9 => ?_
      obtain ⟨H9, I9, q9⟩ := hr9
      have fin : ∀ {s' : Shared} {H' : Hp}, Inv (MP.Cx.bk X s3 H3 scope C cs fp) ([] ++ pinsAt fp s7.heap) σ8 H' s' → Nx H' → ∃ m, m < n ∧ ∃ i H', Inv (MP.Cx.bk X s3 H3 scope C cs fp) [] (wipe σ (own.map (·.2))) H' s' ∧ tn i s'.heap ∧ (∀ b ∈ fp, H' b = none) ∧ V i m H' := fun {s' H'} I' nx => by
        obtain ⟨m', hm, v'⟩ := hNx H' nx
        have pin' : ∀ b ∈ fp, ∀ o, s7.heap.get? b = some o → s'.heap.get? b = some o ∧ H' b = none := fun b hb o e => by
          have z := I'.pin (b, o) (List.mem_append_right _ (List.mem_append_right _ (mem_pinsAt hb e)))
          exact ⟨z.1, z.2.1⟩
        refine ⟨m', hm, i + 1, H', (I'.unpinned (pins := [])).weak (by rw [← hw8, wipe_length]) (fun j v e => by rw [← hw8] at e; exact (wipe_some e).1), T.keep _ _ _ st7 fun b hb o e => (pin' b hb o e).1, fun b hb => ?_, v'⟩
        obtain ⟨o, e, _⟩ := T.obj _ _ st7 b hb
        exact (pin' b hb o e).2
      cases b with
      | false =>
        simp only [Bool.false_eq_true, if_false] at q9 ⊢
        exact fin I9 q9
      | true =>
        simp only [if_true] at q9 ⊢
        refine wpAny_mono (ew_pe.run _ s9 σ8 H9 _ (to_xb I9) (q9 s3 H3 C cs fp)) (fun z s10 hz => ?_) fun e s' out => blk_out tk hst hfr I3' f3' hC out
        obtain ⟨yv, H10, I10, r10, acc, hD10, hz10, nx⟩ := hz
        exact app_ok (X := MP.Cx.bk X s3 H3 scope C cs fp) (of_xb I10) hD10 hz10 r10 fun s11 I11 => fin I11 nx
  exact codeAny_compStart_list loop (T.self X.A 0 _ _ _ st4 loop)
end
end MP
namespace MP
open PySem PySem.Spec PyProof.Rows L2 Rep
/-! ### going through, by what it refuses -/
def mapX {α β : Type} (g : α → Except Exn β) : List α → Except Exn (List β)
  | [] => .ok []
  | x :: xs => bindX (g x) fun y => bindX (mapX g xs) fun ys => .ok (y :: ys)
section
variable {α β : Type} {g : α → Except Exn β}
theorem mapX_app : ∀ (xs : List α) {ys : List β}, mapX g xs = .ok ys → ∀ zs, mapX g (xs ++ zs) = bindX (mapX g zs) fun y => .ok (ys ++ y)
  | [], ys, h, zs => by
    cases h
    show mapX g zs = _
    cases mapX g zs <;> rfl
  | x :: xs, ys, h, zs => by
    unfold mapX at h
    cases hx : g x with
    | error e =>
      rw [hx] at h
      cases h
    | ok y =>
      rw [hx] at h
      cases hm : mapX g xs with
      | error e =>
        rw [hm] at h
        cases h
      | ok ys' =>
        rw [hm] at h
        cases h
        show bindX (g x) (fun y => bindX (mapX g (xs ++ zs)) fun ys => .ok (y :: ys)) = _
        rw [hx, mapX_app xs hm zs]
        cases mapX g zs <;> rfl
theorem mapX_one {x : α} : mapX g [x] = bindX (g x) fun y => .ok [y] := by
  show bindX (g x) (fun y => bindX (.ok []) fun ys => .ok (y :: ys)) = _
  rfl
theorem mapX_split {xs zs : List α} {x : α} {ys : List β} {e : Exn} (h : mapX g xs = .ok ys) (hx : g x = .error e) : mapX g (xs ++ x :: zs) = .error e := by
  rw [mapX_app xs h]
  unfold mapX
  rw [hx]
  rfl
theorem mapX_snoc {xs : List α} {x : α} {ys : List β} {y : β} (h : mapX g xs = .ok ys) (hx : g x = .ok y) : mapX g (xs ++ [x]) = .ok (ys ++ [y]) := by
  rw [mapX_app xs h, mapX_one, hx]
  rfl
theorem mapX_len : ∀ {xs : List α} {ys : List β}, mapX g xs = .ok ys → ys.length = xs.length
  | [], ys, h => by
    cases h
    rfl
  | x :: xs, ys, h => by
    unfold mapX at h
    cases hx : g x with
    | error e =>
      rw [hx] at h
      cases h
    | ok y =>
      rw [hx] at h
      cases hm : mapX g xs with
      | error e =>
        rw [hm] at h
        cases h
      | ok ys' =>
        rw [hm] at h
        cases h
        rw [List.length_cons, List.length_cons, mapX_len hm]
theorem mapX_all [Inhabited β] : ∀ {xs : List α}, (∀ x ∈ xs, isOk (g x)) → mapX g xs = .ok (xs.map fun x => okv (g x))
  | [], h => rfl
  | x :: xs, h => by
    unfold mapX
    rw [mapX_all fun y hy => h y (List.mem_cons_of_mem _ hy), okv_eq (h x List.mem_cons_self)]
    rfl
end
section
variable {X : Cx} {W : WX} {σ : L2.St} {F H : Hp} {α β : Type} [Rep α] [Rep β] {scope : Scope} {elt iter : Expr} {ppos pos : Pos} {x : Str} {ec : Exn → Addr}
theorem yesT {A B : Hp → Prop} (h : A H) : tYes σ H (fun b H' => if b = true then A H' else B H') := by
  show (if true = true then A H else B H)
  rw [if_pos rfl]
  exact h
theorem lcX_walk {i : Nat} {xs : List α} {g : α → Except Exn β} (hi : EvI X σ F H iter xs)
    (he : ∀ d, d ∈ xs → ∀ v F1 H1, Wk F H F1 H1 → rep X.K F1 v d → ∀ s Hb C cl fp, EvP (xbk X W σ s Hb scope C cl fp) ((σ.set i none).set i (some v)) F1 H1 elt (oX ec (oF X.K)) (fun cls d H' => W cls d σ H') (g d))
    {F1 H1 : Hp} (w : Wk F H F1 H1) (Q : VK)
    (q : ∀ F2 H2, Wk F1 H1 F2 H2 → oX ec (oN X.K) F2 H2 Q (fun cls d H' => W cls d σ H') (mapX g xs)) :
    tLc (IW X iter) (gName i) tYes (teX X W σ scope elt) [i] σ H1 Q := by
  refine hi F1 H1 w _ fun J F2 H2 w2 wk hz D hD => ?_
  refine ⟨fun n m H' => m = xs.length - n ∧ n ≤ xs.length ∧ ∃ F' ys ds, Wk F2 H2 F' H' ∧ F' D = none ∧ H' D = some (.lst ys) ∧ mapX g (xs.take n) = .ok ds ∧ reps X.K F' ys ds, ⟨xs.length, rfl, Nat.zero_le _, F2, [], [], .lay w2.fh hD, w2.fh.free hD, upd_same, rfl, .nil⟩, ?_⟩
  rintro n m H' ⟨rfl, hn, F', ys, ds, wD, fD, hD', eD, rD⟩
  have sm : Same F2 H' := wD.ff.trans wD.fh
  by_cases hlt : n < xs.length
  · refine .inr ⟨wk.go n H' hlt sm, fun H'' => xs.length - (n + 1) = xs.length - (n + 1) ∧ n + 1 ≤ xs.length ∧ ∃ F' ys ds, Wk F2 H2 F' H'' ∧ F' D = none ∧ H'' D = some (.lst ys) ∧ mapX g (xs.take (n + 1)) = .ok ds ∧ reps X.K F' ys ds, fun H'' h => ⟨xs.length - (n + 1), by omega, h⟩, fun x H'' y => ?_⟩
    obtain ⟨e1, hx⟩ := wk.yld n H' x H'' sm y
    subst e1
    have hd : xs[n]? = some xs[n] := List.getElem?_eq_getElem hlt
    have hm : xs[n] ∈ xs := List.getElem_mem hlt
    have rx := Rep.mono wD.ff (hx _ hd)
    have wA : Wk F H F' H'' := (w.trans w2).trans wD
    have tk : xs.take (n + 1) = xs.take n ++ [xs[n]] := by rw [List.take_add_one, hd]; rfl
    have sp : xs = xs.take n ++ xs[n] :: xs.drop (n + 1) := by
      rw [List.getElem_cons_drop, List.take_append_drop]
    refine ⟨wipe1 σ i (some x), ?_⟩
    refine yesT fun s Hb C cl fp => he _ hm x F' H'' wA rx s Hb C cl fp F' H'' (.refl wD.fh) _ fun F4 H4 w4 => ⟨fun d hd4 v F5 H5 w5 r5 => ?_, fun ex hex F5 H5 w5 => ?_⟩
    · have w34 := w4.trans w5
      have hl : ys.length < sizeLine := by
        rw [rD.len, mapX_len eD, List.length_take]
        exact Nat.lt_of_le_of_lt (Nat.min_le_left _ _) (Nat.lt_of_lt_of_le hlt hz)
      have hD4 := w34.hh _ _ hD'
      have fD4 := w34.off fD hD'
      refine ⟨ys, hD4, hl, rfl, hlt, F5, ys ++ [v], ds ++ [d], (wD.trans w34).mut hD fD4 hD4, fD4, upd_same, ?_, ?_⟩
      · rw [tk]
        exact mapX_snoc eD hd4
      · exact (reps_mono w34.ff rD).app (.one r5)
    · have wE := (wD.trans w4).trans w5
      refine (q F2 H2 w2).2 ex ?_ F5 H5 wE
      rw [sp]
      exact mapX_split eD hex
  · have e : n = xs.length := by omega
    subst e
    rw [List.take_length] at eD
    refine .inl ⟨wk.stop H' sm, (q F2 H2 w2).1 ds eD D ys F' H' wD rD fD hD hD' ?_⟩
    rw [rD.len, mapX_len eD]
    exact hz
/-- .. as an expression -/
theorem evp_lcX (i : Nat) {xs : List α} {g : α → Except Exn β} (tk : Takes X W) (hst : X.stack = X.env :: X.outer) (hfr : X.env.frame = some X.env.locals) (hc : X.calm = true) (hN : X.N.Nodup) (hi : EvI X σ F H iter xs)
    (he : ∀ d, d ∈ xs → ∀ v F1 H1, Wk F H F1 H1 → rep X.K F1 v d → ∀ s Hb C cl fp, EvP (xbk X W σ s Hb scope C cl fp) ((σ.set i none).set i (some v)) F1 H1 elt (oX ec (oF X.K)) (fun cls d H' => W cls d σ H') (g d))
    (ok : blkC X.N X.env.scope scope [(x, i)] = true := by rfl) (hx : X.N[i]? = some x := by rfl) (hl : ∀ (cl : List (Str × Addr)) (C : Addr), L2.Loc (compEnvC scope cl C X.env).scope x := by intro _ _; first | exact Or.inl rfl | exact Or.inr rfl) (hf : ∀ (cl : List (Str × Addr)) (C : Addr), (scope.names.lookup x == some .cell) = true ∨ (compEnvC scope cl C X.env).scope.names.lookup x = some .local := by intro _ _; first | exact .inr rfl | exact .inl rfl) (hs : ∀ x, foldedSetIterable iter X.env x = pure x := by intro _; rfl) :
    EvP X σ F H (.ListComp elt [⟨.Name x ppos, iter, [], 0⟩] scope pos) (oX ec (oN X.K)) (fun cls d H' => W cls d σ H') (mapX g xs) := fun F1 H1 w Q q =>
  ⟨fun σ' H' Q' => σ' = σ ∧ tLc (IW X iter) (gName i) tYes (teX X W σ scope elt) [i] σ' H' Q', ⟨fun pins s σ' H' Q' I h => by
    obtain ⟨rfl, h⟩ := h
    exact lcX_run (own := [(x, i)]) tk hst hfr hc hN I iw_pi (blkOk_by ok) (fun s Hb C cl fp => pg_name (i := i) hN hx (hl cl C) (hf cl C)) hs h⟩, rfl, lcX_walk hi he w Q q⟩
end
/-! ### a call that does not refuse, of what may refuse -/
section
variable {X : Cx} {σ : L2.St} {F H : Hp} {a : Expr} {pos p : Pos} {α ω : Type} [Rep α] [Rep ω] {CX : CXT} {k : Nat} {x : Str} {ps : List Str} {E : XK} {ec : Exn → Addr}
theorem EvP.oNF {e : Expr} {r : Except Exn (List α)} (h : EvP X σ F H e (oX ec (oN X.K)) E r) : EvP X σ F H e (oX ec (oF X.K)) E r := fun F1 H1 w Q q => h F1 H1 w Q fun F2 H2 w2 => ⟨fun d hd p xs F3 H3 w3 r f1 f2 f3 l => (q F2 H2 w2).1 d hd _ _ _ (w3.tell f2 f1 f3) ⟨p, xs, rfl, upd_same, l, reps_mono (same_new f1) r⟩, (q F2 H2 w2).2⟩
theorem pcal1c {pre : α → Prop} {m : α → ω} {r : Except Exn α} (hx : PassesAt CX X σ E) (hr : Room k X.A) (C : Cal X.prog X.w X.K X.mg X.base CX k x ps (sp1 X.K pre m (oF X.K))) (h1 : EvP X σ F H a (oX ec (oF X.K)) E r) (hp : ∀ v, r = .ok v → pre v) (hg : Gl X x := by rfl) (hdb : (x == ("__debug__" : Str)) = false := by decide) (he : starEach [a] X.env = (false, eval a X.env) :: starEach [] X.env := by rfl) (hpl : (backTo pos (starEach [] X.env)).any (·.1) = false := by rfl) :
    EvP X σ F H (.Call (.Name x p) [a] [] pos) (oX ec (oF X.K)) E (bindX r fun v => .ok (m v)) := fun F1 H1 w Q q =>
  ew_callA C hx hr Q ⟨_, pa_cons ew_pe pa_nil he, h1 F1 H1 w _ fun F3 H3 w3 =>
    ⟨fun d hd v' F4 H4 w4 r4 => ⟨F4, d, v', rfl, w4.fh, r4, hp d hd, by
      have q4 := (q F4 H4 (w3.trans w4)).1 (m d) (by rw [hd]; rfl)
      exact q4⟩, fun y hy F4 H4 w4 => by
      refine (q F3 H3 w3).2 y ?_ F4 H4 w4
      rw [hy]
      rfl⟩⟩ hg hdb he hpl
end
end MP
/-! sorting of tuples that may be empty -/
namespace MP
open PySem PySem.W PySem.Calls PyProof.Rows SeqAt
section
variable {prog : Program} {w : World} {A : Around} {E : Value → Shared → Prop} {s : Shared}
theorem call_tuple_lt {Q : Value → Shared → Prop} {l b : Addr} {items items2 : Array Value} {e r : Nat → Bool} (hl : s.heap.IsTuple l items) (hb : s.heap.IsTuple b items2)
    (he : ∀ j (h1 : j < items.size) (h2 : j < items2.size), EqAt A.in1 s items[j] items2[j] (e j)) (hr : ∀ j (h1 : j < items.size) (h2 : j < items2.size), e j = false → RcLt A.in1 s items[j] items2[j] (r j))
    (h : Q (.bool (firstLt e r (decide (items.size < items2.size)) (List.range (min items.size items2.size)))) s) : wpAny (model prog w) A (call (.builtin "tuple.__lt__") [.ref l, .ref b]) Q E s := by
  obtain ⟨⟨cls, dd, data, sl⟩, ho, hc, n, hd⟩ := id hl
  obtain ⟨⟨cls2, dd2, data2, sl2⟩, ho2, hc2, n2, hd2⟩ := id hb
  simp only at hc hd hc2 hd2
  subst hc hd hc2 hd2
  exact call_meets F.slot_tuple_lt ⟨_, ho, rfl⟩ F.entry_tuple_lt (F.args_tuple_lt_2 _ _) (tuple_ltAt l b items items2 n n2 dd dd2 sl sl2 e r) ⟨ho, ho2, he, hr, h⟩
theorem oneLt_tup {xs ys : List PyData} {a b : Value} {as bs : List Addr} {Q : Bool → Shared → Prop} (ra : Reads s.heap a (.tuple xs) as) (rb : Reads s.heap b (.tuple ys) bs) (hal : alikeAll xs ys = true)
    (hu : A.units + min (PyData.tuple xs).depth (PyData.tuple ys).depth < cLine) (hq : Q (dataLt (.tuple xs) (.tuple ys)) s) : wpAny (model prog w) A (oneLt' true a b) Q E s := by
  cases ra with
  | @tuple l o vs n _ as₁ h1 h2 h3 h4 =>
    cases rb with
    | @tuple l' o' vs' n' _ bs₁ k1 k2 k3 k4 =>
      have n1 : vs.size = xs.length := by simpa using ReadsAll.length _ _ _ h4
      have n2 : vs'.size = ys.length := by simpa using ReadsAll.length _ _ _ k4
      rw [dataLt_tuple, ← firstLt_toks xs ys hal, ← n1, ← n2] at hq
      rw [oneLt'_eq]
      simp only [if_true]
      refine wpAny_bind (wpAny_cRoomFor (room_here hu) ?_)
      refine wpAny_bind (wpAny_callSpecialIfBound?_slot (T := "tuple") ⟨_, h1, h2⟩ F.slot_tuple_lt (call_tuple_lt (e := pairEq xs ys) (r := fun j => dataLt (xs.getD j .none) (ys.getD j .none)) ⟨_, h1, h2, _, h3⟩ ⟨_, k1, k2, _, k3⟩ (fun j j1 j2 => ?_) (fun j j1 j2 hj => ?_) ?_))
      · have := eqAt_alikeAll xs ys A.in1 s vs.toList vs'.toList _ _ h4 k4 hal (room_in hu) j (by simpa using j1) (by simpa using j2)
        simpa using this
      · have := rcLt_alikeAll xs ys A.in1 s vs.toList vs'.toList _ _ h4 k4 hal (room_in hu) j (by simpa using j1) (by simpa using j2) hj
        simpa using this
      · exact wpAny_truthy_bool hq
/-- what stands first in each -/
theorem firsts_any {M : Model} {A : Around} : ∀ {vs : List Value} {ds : List PyData}, EachIs (fun v d => ∃ as, Reads s.heap v d as) vs ds → (∀ d ∈ ds, ∃ xs, d = .tuple xs) →
    ∃ os : List (Option Value), os.length = vs.length ∧ (∀ (i : Nat) (o : Option Value), os[i]? = some o → (o.isSome = true ↔ ds[i]? ≠ some (.tuple []))) ∧ ∀ (E : Value → Shared → Prop) (Q : List (Option Value) → Shared → Prop), Q os s → wpAny M A (vs.mapM firstOfTuple') Q E s
  | _, _, .nil, _ => ⟨[], rfl, fun i o h => by simp at h, fun E Q h => by rw [List.mapM_nil]; exact wpAny_pure h⟩
  | v :: vs, d :: ds, .cons ⟨as, r⟩ t, ht => by
    obtain ⟨os, h1, h2, h3⟩ := firsts_any (M := M) (A := A) t fun d hd => ht d (List.mem_cons_of_mem _ hd)
    obtain ⟨xs, rfl⟩ := ht d List.mem_cons_self
    cases r with
    | @tuple a o ys n _ _ ho hc hd hr =>
      refine ⟨ys[0]? :: os, by rw [List.length_cons, List.length_cons, h1], fun i o h => ?_, fun E Q h => ?_⟩
      · cases i with
        | zero =>
          simp only [List.getElem?_cons_zero, Option.some.injEq] at h
          subst h
          simp only [List.getElem?_cons_zero, ne_eq, Option.some.injEq, PyData.tuple.injEq]
          have hz : ys.size = xs.length := by simpa using ReadsAll.length _ _ _ hr
          cases xs with
          | nil =>
            have : ys[0]? = none := by
              rw [Array.getElem?_eq_none]
              rw [hz]
              exact Nat.le_refl _
            rw [this]
            simp
          | cons x xs =>
            have : ys[0]? = some (ys[0]'(by rw [hz]; exact Nat.zero_lt_succ _)) := Array.getElem?_eq_getElem _
            rw [this]
            simp
        | succ i =>
          simp only [List.getElem?_cons_succ] at h ⊢
          exact h2 i o h
      · rw [List.mapM_cons]
        refine wpAny_bind ?_
        rw [kas_first_eq]
        refine wpAny_bind (Looks.here (show Looks M s.heap (typeOf (.ref a)) o.cls from (Looks.ld ho).andThen .now) ?_)
        rw [hc, if_neg (by first | decide | simp)]
        refine wpAny_bind (listItems_at ho hd (wpAny_pure ?_))
        exact wpAny_bind (h3 E (fun bs s' => wpAny M A (pure (ys[0]? :: bs)) Q E s') (wpAny_pure h))
theorem kind_gen {vs : List Value} {ds : List PyData} (e : EachIs (fun v d => ∃ as, Reads s.heap v d as) vs ds) (ht : ∀ d ∈ ds, ∃ xs, d = .tuple xs) (he : PyData.tuple [] ∈ ds) {M : Model} {A : Around} :
    ∃ kd : SortKind, (kd = general' ∨ kd = oneType') ∧ ∀ (E : Value → Shared → Prop) {Q : SortKind → Shared → Prop}, Q kd s → wpAny M A (keyKind' vs.toArray) Q E s := by
  obtain ⟨os, h1, h2, h3⟩ := firsts_any (M := M) (A := A) e ht
  have hl := e.length
  have na : (os.toArray.all fun x => x.isSome) = false := by
    obtain ⟨i, hi, hx⟩ := List.mem_iff_getElem.mp he
    have hi' : i < os.length := by omega
    have q := h2 i os[i] (List.getElem?_eq_getElem hi')
    rw [List.getElem?_eq_getElem hi, hx] at q
    rw [Bool.eq_false_iff]
    intro hall
    rw [List.all_toArray, List.all_eq_true] at hall
    exact q.mp (hall _ (List.getElem_mem hi')) rfl
  have nn : ¬ (os.toArray.all fun x => x.isSome) = true := by rw [na]; decide
  by_cases h0 : (os.toArray[0]?.bind id).isSome = true
  · refine ⟨general', .inl rfl, fun E Q hq => ?_⟩
    rw [keyKind'_eq, List.mapM_toArray, map_eq_pure_bind]
    refine wpAny_bind (wpAny_bind (h3 E _ (wpAny_pure ?_)))
    rw [if_neg nn, if_pos h0]
    exact wpAny_pure hq
  · refine ⟨oneType', .inr rfl, fun E Q hq => ?_⟩
    rw [keyKind'_eq, List.mapM_toArray, map_eq_pure_bind]
    refine wpAny_bind (wpAny_bind (h3 E _ (wpAny_pure ?_)))
    rw [if_neg nn, if_neg h0]
    have hT : ∀ v ∈ vs, Looks M s.heap (typeOf v) (.type "tuple") := fun v hv => by
      obtain ⟨d, hd, as, r⟩ := e.left v hv
      obtain ⟨xs, rfl⟩ := ht d hd
      exact looks_reads r
    rw [oneTypeOnly'_eq, List.mapM_toArray, map_eq_pure_bind]
    refine wpAny_bind (wpAny_bind (wpAny_bind (kas_mapM (r := Value.type "tuple") _ (fun v hv Q' hq => (hT v hv).here hq) (wpAny_pure ?_))))
    have hall : ((List.map (fun _ => Value.type "tuple") vs).toArray.all fun x => x == Value.type "tuple") = true := by
      simp only [List.all_toArray, List.all_map, List.all_eq_true]
      intro _ _
      exact beq_self_eq_true _
    have hp : 0 < vs.length := by
      have := List.length_pos_of_mem he
      omega
    have hz : (List.map (fun _ => Value.type "tuple") vs).toArray[0]? = some (Value.type "tuple") := by
      cases vs with
      | nil => simp at hp
      | cons v vs => simp
    rw [hz]
    simp only [hall, if_true]
    exact wpAny_pure (wpAny_pure hq)
theorem sortsAt_tups {vs : List Value} {ds : List PyData} (e : EachIs (fun v d => ∃ as, Reads s.heap v d as) vs ds) (hal : AllAlike ds) (ht : ∀ d ∈ ds, ∃ xs, d = .tuple xs) (hu : ∀ d, d ∈ ds → A.units + d.depth < cLine) : SortsAt prog w A s (dataKind s.heap ds) vs := by
  by_cases hne : PyData.tuple [] ∈ ds
  · have room : ∀ {d d' : PyData}, d ∈ ds → A.units + min d.depth d'.depth < cLine := fun {d d'} hd => Nat.lt_of_le_of_lt (Nat.add_le_add_left (Nat.min_le_left _ _) _) (hu d hd)
    refine ⟨fun v hv => ?_, ?_⟩
    · obtain ⟨d, hd, as, r⟩ := e.left v hv
      exact ⟨_, dataKind_some hal hd r⟩
    · obtain ⟨kd, hk, hK⟩ := kind_gen (A := A) (M := model prog w) e ht hne
      refine ⟨kd, ?_, fun _ E Q hq => hK E hq⟩
      intro E x y a b Q ha hb hq
      obtain ⟨d, as, hd, ra, rfl⟩ := dataKind_inv ha
      obtain ⟨d', as', hd', rb, rfl⟩ := dataKind_inv hb
      have hdd := hal d hd d' hd'
      have hroom := room (d' := d') hd
      obtain ⟨x1, rfl⟩ := ht d hd
      obtain ⟨x2, rfl⟩ := ht d' hd'
      rcases hk with rfl | rfl
      · show wpAny (model prog w) A (oneLt' false x y) Q E s
        exact oneLt_alike (fun h => (by cases h)) ra rb hdd (fun h => by cases h) hroom hq
      · rw [keyLt'_oneType]
        exact oneLt_tup ra rb (by simpa [alike] using hdd) hroom hq
  · refine SortsAt.data e hal (.inl fun d hd => ?_) hu
    obtain ⟨xs, rfl⟩ := ht d hd
    cases xs with
    | nil => exact absurd hd hne
    | cons x r => exact ⟨x, r, rfl⟩
theorem sorted_tups {β : Type} {vs : List Value} {bs : List β} {enc : β → PyData} {R : Value → β → Prop} {l : Addr} {Q : Value → Shared → Prop} (hl : s.heap.IsList l vs.toArray) (e : EachIs R vs bs) (er : EachIs (fun v b => ∃ as, Reads s.heap v (enc b) as) vs bs) (hal : AllAlike (bs.map enc)) (ht : ∀ d ∈ bs.map enc, ∃ xs, d = .tuple xs) (hL : bs.length ≤ sizeLine)
    (hu : ∀ b, b ∈ bs → A.units + 2 + (enc b).depth < cLine) (h : ∀ out, out.length = bs.length → EachIs R out (bs.mergeSort (dataLe false enc)) → Q (.ref (s.heap.objs.size + 1)) { s with heap := sortedAll s.heap vs (List.toArray out) }) :
    wpAny (model prog w) A (call (.builtin "sorted") [.ref l]) Q E s := by
  have er' : EachIs (fun v b => ∃ as, Reads (sortingHeap (copyHeap s.heap vs) (s.heap.objs.size + 1) vs) v (enc b) as) vs bs := er.mono fun _ _ ⟨as, r⟩ => ⟨as, PyProof.Rows.Reads.keeps (fun _ _ => sorting_copy_old) r⟩
  exact sorted_vals hl (sortsAt_tups (s := { s with heap := sortingHeap (copyHeap s.heap vs) (s.heap.objs.size + 1) vs }) (each_map (R := fun v d => ∃ as, Reads (sortingHeap (copyHeap s.heap vs) (s.heap.objs.size + 1) vs) v d as) enc er') hal ht (bound_map hu)) (by rw [e.length]; exact hL)
    (h _ (by rw [sortVals_length false rfl]; exact e.length) (sortVals_data false e er' hal))
end
end MP
namespace MP
open PySem PySem.Spec PyProof.Rows L2 Rep
section
variable {X : Cx} {σ : L2.St} {F H : Hp} {a : Expr} {pos p : Pos}
theorem run_sortedU {pins : List (Addr × Obj)} {s : Shared} {l : Addr} {bs : List Addr} {ts : List Tup} {Q : VK} (hu : X.A.units + 64 < cLine) (I : Inv X pins σ H s) (hl : SqL X.K H l (bs.map V.ref)) (hb : PySem.W.EachIs (fun b (t : Tup) => H b = some (.tup (t.ns.map V.int))) bs ts)
    (q : ∀ (p : Addr) (cs : List Addr), H p = none → PySem.W.EachIs (fun b (t : Tup) => H b = some (.tup (t.ns.map V.int))) cs (srtT ts) → Q (.ref p) (upd H p (.lst (cs.map V.ref)))) :
    wpAny (model X.prog X.w) X.A (call (.builtin "sorted") [.ref l]) (EP X pins σ Q) X.xe s := by
  obtain ⟨its, rv, pl, hz⟩ := I.list hl
  obtain rfl := vals_ref_of rv
  have hlen : bs.length = ts.length := hb.length
  have hz' : bs.length ≤ sizeLine := by rw [List.length_map] at hz; exact hz
  have done : ∀ (out : Array Value) (cs : List Addr), out.toList = cs.map Value.ref → cs.length = bs.length → PySem.W.EachIs (fun b (t : Tup) => H b = some (.tup (t.ns.map V.int))) cs (srtT ts) → EP X pins σ Q (.ref (s.heap.objs.size + 1)) { s with heap := sortedAll s.heap (bs.map Value.ref) out } := fun out cs e hl2 hc => by
    obtain ⟨ep, he⟩ := PyProof.Rows.sortedAll_at s.heap (bs.map Value.ref) out
    have ea : (cs.map Value.ref).toArray = out := by rw [← e, Array.toArray_toList]
    refine ⟨.ref _, upd H (s.heap.objs.size + 1) (.lst (cs.map V.ref)), I.laid (t' := s.toks) (fun _ _ => PyProof.Rows.sortedAll_old) (Nat.le_succ _) ⟨by rw [List.length_map, hl2]; exact hz', cs.map Value.ref, ep, vals_refs cs, by rw [ea]; exact he⟩, rfl, q _ _ (I.hok.fresh (Nat.le_succ _)) hc⟩
  have eR : PySem.W.EachIs (TupAt H) (bs.map Value.ref) ts := each_refs (fun b t h => ⟨b, rfl, h⟩) hb
  have eX : PySem.W.EachIs (fun v (t : Tup) => ∃ as, Reads s.heap v (encT t) as) (bs.map Value.ref) ts := each_refs (fun b t h => by
    obtain ⟨_, its2, r2, o, ho, hc, n, hd⟩ := I.hok _ _ h
    exact ⟨[], .tuple ho hc hd (by simpa using PyProof.Rows.IntsAre.reads s.heap r2.ints)⟩) hb
  have al : PySem.W.AllAlike (ts.map encT) := PySem.W.AllAlike.of (fun a b => by
    unfold encT
    simp only [PySem.W.alike]
    exact PySem.W.alike_ints _ _)
  have ht : ∀ d ∈ ts.map encT, ∃ xs, d = .tuple xs := fun d hd => by
    obtain ⟨t, _, rfl⟩ := List.mem_map.mp hd
    exact ⟨_, rfl⟩
  have dp : ∀ t : Tup, t ∈ ts → X.A.units + 2 + (encT t).depth < cLine := fun t _ => by
    have hd : (encT t).depth = 1 := by
      unfold encT
      simp [PyData.depth, depth_ints]
    omega
  refine sorted_tups (enc := encT) pl.isList eR eX al ht (by rw [← hlen]; exact hz') dp fun out hl2 hout => ?_
  rw [leT] at hout
  obtain ⟨cs, rfl, hc⟩ := each_back hout
  refine done _ cs (by simp) ?_ hc
  rw [List.length_map] at hl2
  rw [hl2, hlen]
theorem cr_sortedU (hu : X.A.units + 64 < cLine) : CallR X (.builtin "sorted") (fun xs H Q => ∃ l bs ts, xs = [V.ref l] ∧ SqL X.K H l (bs.map V.ref) ∧ PySem.W.EachIs (fun b (t : Tup) => H b = some (.tup (t.ns.map V.int))) bs ts ∧
    ∀ (p : Addr) (cs : List Addr), H p = none → PySem.W.EachIs (fun b (t : Tup) => H b = some (.tup (t.ns.map V.int))) cs (srtT ts) → Q (.ref p) (upd H p (.lst (cs.map V.ref)))) := by
  intro pins s σ H xs us Q I r h
  obtain ⟨l, bs, ts, rfl, hl, hb, q⟩ := h
  obtain rfl := Vals.ref1 r
  exact run_sortedU hu I hl hb q
theorem evn_sortedU {ts : List Tup} {k : Nat} (hr : Room k X.A) (hm : X.mg "sorted" = none) (ha : Ev X σ F H a ts) (hg : Gl X "sorted" := by rfl) (hs : starEach [a] X.env = (false, eval a X.env) :: starEach [] X.env := by rfl) (hpl : (backTo pos (starEach [] X.env)).any (·.1) = false := by rfl) :
    EvN X σ F H (.Call (.Name "sorted" p) [a] [] pos) (srtT ts) :=
  evn_callB (cr_sortedU (hu64 hr)) hm (by decide +kernel) (ea1 ha hs) (fun vs F1 H1 s ⟨v, e, r⟩ Q q => by
    obtain ⟨l, us, rfl, h1, l1, r1⟩ := r
    obtain ⟨bs, rfl, hb, hl⟩ := reps_tup r1
    refine ⟨l, bs, ts, e, SqL.of (s _ _ h1), each_imp (fun b t h => s _ _ h) hb, fun p cs hn hc => ?_⟩
    have w1 := Wk.tups (cs := cs) s (each_tup hc)
    have rr := tup_reps (K := X.K) (each_told (F := F1) cs (fun _ h => h) hc) (fun t ht => hl t (List.mem_mergeSort.mp ht))
    exact q p _ _ _ (w1.trans (.lay w1.fh hn)) rr (w1.fh.free hn) hn upd_same (by
      rw [rr.len]
      unfold srtT
      rw [List.length_mergeSort, ← r1.len]
      exact l1)) hg (by decide) (by decide) hs hpl
end
end MP
namespace MP
open PySem PySem.Spec PyProof.Rows L2 Rep
/-! ### a list of lists of one's own -/
structure RowsO (N : Addr → Prop) where
  d : List (List Int)
instance {N : Addr → Prop} : Rep (RowsO N) := ⟨fun K F v d => ∃ p, v = .ref p ∧ N p ∧ rep K F (.ref p) (owns N d.d), fun h r => by
  obtain ⟨p, e, np, r⟩ := r
  exact ⟨p, e, np, Rep.mono h r⟩⟩
theorem RowsO.plain {K : PySem.W.Frag} {F : Hp} {N : Addr → Prop} {v : V} {d : List (List Int)} (r : rep K F v (RowsO.mk d : RowsO N)) : rep K F v d := by
  obtain ⟨p, rfl, np, r⟩ := r
  exact own_rep r
instance {N : Addr → Prop} : RepN (RowsO N) := ⟨fun h => by
  obtain ⟨p, e, np, r⟩ := h
  exact ⟨p, e, np, RepN.ntb r⟩⟩
theorem RowsO.cut {K : PySem.W.Frag} {F F' : Hp} {N : Addr → Prop} {v : V} {d : List (List Int)} (h : ∀ a o, N a → F a = some o → F' a = some o) (r : rep K F v (RowsO.mk d : RowsO N)) : rep K F' v (RowsO.mk d : RowsO N) := by
  obtain ⟨p, e, np, q, xs, e2, f2, l, r⟩ := r
  cases e2
  exact ⟨p, e, np, p, xs, rfl, h _ _ np f2, l, own_cut h r⟩
theorem RowsO.grp {K : PySem.W.Frag} {F0 H0 F H F1 H1 : Hp} {v : V} {d : List (List Int)} (W : Wk F0 H0 F H) (w : Same F1 H1) (r : rep K F1 v (RowsO.mk d : RowsO (fun a => H a = none))) :
    ∃ (N : Addr → Prop) (G : Hp), Grp N G F H1 ∧ rep K G v (RowsO.mk d : RowsO N) ∧ (∀ a, N a → H0 a = none) ∧ (∀ a, N a → H a = none) ∧ ∀ a o, H a = some o → G a = none :=
  ⟨_, newOf H (nt F1), ⟨fun a ps e => nt_not F1 a ps (newOf_sub _ _ e), newOf_sub.trans (nt_sub.trans w), fun a o n _ _ => W.fh.free n⟩, RowsO.cut (fun a o n e => by rw [newOf_at n]; exact e) (RepN.ntb r), fun a z => W.hfree z, fun a z => z, fun a o z => newOf_old z⟩
theorem EvN.rows {X : Cx} {σ : L2.St} {F H : Hp} {e : Expr} {N : Addr → Prop} {T : List (List Int)} (hN : ∀ a, H a = none → N a) (h : EvN X σ F H e (T.map fun c => (OwnL.mk c : OwnL N Int))) : Ev X σ F H e (RowsO.mk T : RowsO N) := fun F1 H1 w Q q =>
  h F1 H1 w Q fun p xs F2 H2 w2 r hF hH h2 hl => q (.ref p) (upd F2 p (.lst xs)) H2 (w2.tell hH hF h2) ⟨p, rfl, hN _ (w.hfree hH), p, xs, rfl, upd_same, hl, reps_mono (same_new hF) r⟩
theorem rows_parts {K : PySem.W.Frag} {F : Hp} {N : Addr → Prop} {v : V} {d : List (List Int)} (r : rep K F v (RowsO.mk d : RowsO N)) (hne : d ≠ []) : ∃ p xs q ys, v = .ref p ∧ N p ∧ F p = some (.lst xs) ∧ xs.length ≤ sizeLine ∧ xs.length = d.length ∧ xs[(0 : Int).toNat]? = some (.ref q) ∧ N q ∧ F q = some (.lst ys) ∧ ys.length = (gi d 0).length ∧ p ≠ q := by
  obtain ⟨p, e, np, p', xs, e2, f2, l, r⟩ := r
  cases e2
  cases hf : d with
  | nil => exact absurd hf hne
  | cons row rows =>
    subst hf
    cases r with
    | @cons v0 _ vs _ r0 rt =>
      obtain ⟨⟨q, ys, e3, f3, l3, r3⟩, nq⟩ := r0
      subst e3
      refine ⟨p, .ref q :: vs, q, ys, e, np, f2, l, by rw [List.length_cons, rt.len, List.length_map, List.length_cons], rfl, nq _ rfl, f3, ?_, fun z => ?_⟩
      · rw [r3.len]
        have : gi (row :: rows) 0 = row := by
          unfold gi
          rw [at_nat (v := row) (Int.le_refl 0) rfl]
          rfl
        rw [this]
      · subst z
        rw [f2] at f3
        cases f3
        have := reps_int r3
        cases hr : row with
        | nil => rw [show (OwnL.mk row : OwnL N Int).ds = row from rfl, hr] at this; cases this
        | cons i is =>
          rw [show (OwnL.mk row : OwnL N Int).ds = row from rfl, hr] at this
          cases this

section
variable {X : Cx} {σ : L2.St} {F H : Hp} {e : Expr} {pos : Pos} {D : Ends}
theorem s_asgRows (i : Nat) {x : Str} {pos' : Pos} {T : List (List Int)} (hN : X.N.Nodup) (h : EvC X σ F H e (T.map fun c => (OwnL.mk c : OwnL (fun a => H a = none) Int))) (fh : Same F H) (k : ∀ v F' H', Wk F H F' H' → rep X.K F' v (RowsO.mk T : RowsO (fun a => H a = none)) → D.nx (σ.set i (some v)) H') (hc : X.calm = true := by rfl) (hi : X.N[i]? = some x := by rfl) (hx : L2.Loc X.env.scope x := by first | exact Or.inl rfl | exact Or.inr rfl)
    (hs : (swapsWith e (some (.Name x pos')) pos.line X.env = pure true ∧ X.env.scope.names.lookup x = some .local) ∨ swapsWith e (some (.Name x pos')) pos.line X.env = pure false := by first | exact .inl ⟨sw_true rfl rfl rfl (by decide +kernel), rfl⟩ | exact .inr rfl) (hf : X.fn x = true ∨ X.env.scope.names.lookup x = some .local := by first | exact .inl rfl | exact .inr rfl) : SW X (.Assign [.Name x pos'] e pos) D σ H :=
  s_asgC i hN h fh (fun p xs F2 H2 w2 r h1 h2 h3 h4 => k (.ref p) (upd F2 p (.lst xs)) H2 (w2.tell h2 h1 h3) ⟨p, rfl, h2, p, xs, rfl, upd_same, h4, reps_mono (same_new h1) r⟩) hc hi hx hs hf
end
/-! ### a rule is made where it may be refused in the midst -/
section
variable {X : Cx} {σ : L2.St} {F H : Hp} {a b : Expr} {pos p : Pos} {ec : Exn → Addr} {E : XK} {C f : Addr} {fd : FuncData} {k : Nat} {ps : List Str} {CX : CXT} {sp : Sp}
theorem run_makeS {pins : List (Addr × Obj)} {s : Shared} {Q : VK} {us : List Value} {vs : List V} (M : Mk X.K C f) (Fn : FnOk X.prog X.w X.K X.mg X.base CX k f fd ps sp) (hr : Room (k + 1) X.A) (hb : Binds X.K fd ps [])
    (hx : PassesAt CX X σ E) (I : Inv X pins σ H s) (r : Vals vs us)
    (h : ∀ x dx, H x = none → H dx = none → dx ≠ x → sp (.ref x :: (vs ++ [])) (upd (upd H dx (.own x)) x (.ins C dx [])) (fun v H2 => v = .non ∧ Q (.ref x) H2) E) :
    wpAny (model X.prog X.w) X.A (call (.ref C) us) (EP X pins σ Q) X.xe s := by
  have hq := h (s.heap.objs.size + 1) s.heap.objs.size (I.hok.fresh (Nat.le_succ _)) (I.hok.fresh (Nat.le_refl _)) (Nat.ne_of_lt (Nat.lt_succ_self _))
  have I2 := Inv.made (C := C) I
  have r2 : Vals (V.ref (s.heap.objs.size + 1) :: (vs ++ [])) (Value.ref (s.heap.objs.size + 1) :: (us ++ [])) := .cons rfl (r.append .nil)
  have hl : (Value.ref (s.heap.objs.size + 1) :: us ++ []).length = ps.length := by
    have e := r2.length
    rw [Fn.len _ _ _ _ hq] at e
    exact e.symm
  refine wpAny_call (make_map (f := f) I.kIn M.makes M.init (beq_iff_eq.mp M.fn) (codeAny_mono (Fn.run _ X.stack _ _ ⟨Value.ref (s.heap.objs.size + 1) :: us, []⟩ (Value.ref (s.heap.objs.size + 1) :: (us ++ [])) _ _ E (hr.make C us [])
    (I2.env0.make C us []) (by have z := hb _ (Value.ref (s.heap.objs.size + 1) :: us) I2.kIn hl; rwa [List.cons_append] at z) r2 hq) fun r s' hq' => ?_))
  cases r with
  | error e => exact hx pins _ _ e s' I2 hq'
  | ok fl =>
    cases fl with
    | ret u =>
      obtain ⟨v, H', I3, rv, ev, q3⟩ := I2.after hq'
      subst ev
      exact ⟨rv, ⟨V.ref (s.heap.objs.size + 1), H', I3, rfl, q3⟩⟩
    | next => exact False.elim hq'
    | brk => exact False.elim hq'
    | cont => exact False.elim hq'
theorem pmakeOS {pre : Int → List (List Int) → Prop} {m' : Int → List (List Int) → Except Exn RuleD} {u : Int} {v : List (List Int)} (R : RuleB X.K X.mg C) (M : MkB X.prog X.w X.K X.mg X.base k C ps (spO X.K ec C pre m')) (hx : PassesAt (L2.CX X.prog X.w) X σ E) (hr : Room (k + 1) X.A) (h1 : Ev X σ F H a u) (h2 : Ev X σ F H b v) (hp : pre u v)
    (hg : Gl X "Rule" := by rfl) (he : starEach [a, b] X.env = (false, eval a X.env) :: starEach [b] X.env := by rfl) (he2 : starEach [b] X.env = (false, eval b X.env) :: starEach [] X.env := by rfl) (hpl : (backTo pos (starEach [b] X.env)).any (·.1) = false := by rfl) :
    EvP X σ F H (.Call (.Name "Rule" p) [a, b] [] pos) (oX ec (oR X.K)) E (m' u v) := fun F1 H1 w Q q => by
  obtain ⟨f, fd, hm, hb, Fn⟩ := M.ex
  refine ew_at fun pins s I => wpAny_Call_Name_kw (ld_glob I hg R.g ?_ (by decide))
  refine PySem.W.callWith_K (h₀ := X.base) I.ok.mod.kin hm.kp (thn (aw_pa.run pos pins s σ H1 (fun vs H2 => ∀ x dx, H2 x = none → H2 dx = none → dx ≠ x → spO X.K ec C pre m' (.ref x :: (vs ++ [])) (upd (upd H2 dx (.own x)) x (.ins C dx [])) (fun v H3 => v = .non ∧ Q (.ref x) H3) E) I (ea2 h1 h2 he he2 F1 H1 w _ fun vs F2 H2 w2 ⟨v1, v2, e, r1, r2⟩ => fun x dx nx ndx ne => ?_)) fun us s1 ⟨vs, H2, I2, r, q2⟩ => ⟨I2.kIn, run_makeS hm Fn hr hb hx I2 r q2⟩) he hpl
  refine ⟨F2, H2, x, dx, u, v, v1, v2, by rw [e]; rfl, w2.fh, nx, ndx, ne, rfl, r1, r2, hp, ?_, ?_⟩
  · intro d hd F' H' w3 r3
    exact ⟨rfl, (q F2 H2 w2).1 d hd _ F' H' w3 r3⟩
  · exact fun x hx F' H' w3 => (q F2 H2 w2).2 x hx F' H' w3
end
end MP
namespace MP
open PySem PySem.Spec PyProof.Rows L2 Rep
/-! ### texts -/
theorem reps_str {K : PySem.W.Frag} {F : Hp} : ∀ {xs : List V} {ys : List Str}, reps K F xs ys → xs = ys.map V.str
  | _, [], .nil => rfl
  | _, _ :: _, .cons r t => by rw [reps_str t]; obtain rfl := r; rfl
theorem reps_of_str {K : PySem.W.Frag} {F : Hp} : ∀ ys : List Str, reps K F (ys.map V.str) ys
  | [] => .nil
  | _ :: ys => .cons rfl (reps_of_str ys)
/-- the signs of a text -/
def signs (z : Str) : List Str := z.cps.toList.map fun c => (⟨#[c]⟩ : Str)
theorem signs_len (z : Str) : (signs z).length = z.length := by
  unfold signs
  rw [List.length_map, Array.length_toList]
  rfl
def sgn (z : Str) (i : Int) : Str := ⟨#[(atI z.cps.toList i).getD 0]⟩
def inS (x z : Str) : Bool := decide (x.cps.toList.headD 0 ∈ z.cps.toList)
def intD (x : Str) : Int := (PySem.intText? x).getD 0
def strI (i : Int) : Str := toString i
section
variable {X : Cx} {σ : L2.St} {F H : Hp} {o e a b : Expr} {apos pos p : Pos}
theorem evn_split {x y : Str} (ho : Ev X σ F H o x) (he : Ev X σ F H e y) (hy : (y.length == 0) = false) (hz : x.length + 2 ≤ sizeLine) (hs : starEach [e] X.env = [(false, eval e X.env)] := by rfl) (hbase : attributeBase o "split" X.env (eval o X.env) = eval o X.env := by rfl) (hline : (apos.endLine == pos.line) = true := by rfl) :
    EvN X σ F H (.Call (.Attribute o "split" apos) [e] [] pos) (Txt.split x y) := fun F1 H1 w Q q =>
  ⟨_, pe_split ew_pe ew_pe hs hbase hline, ho F1 H1 w _ fun v F2 H2 w2 r => ⟨⟨x, r⟩, he F2 H2 (w.trans w2) _ fun v2 F3 H3 w3 r2 => ⟨x, y, r, congrArg (fun z => [z]) r2, hy, hz, fun p hp =>
    q p _ F3 _ ((w2.trans w3).trans (.lay w3.fh hp)) (reps_of_str _) (w3.fh.free hp) ((w2.trans w3).hfree hp) upd_same (by rw [List.length_map]; exact Nat.le_trans (PyProof.Rows.split_le x y) hz)⟩⟩⟩
theorem ev_join {x : Str} {ys : List Str} (ho : Ev X σ F H o x) (he : Ev X σ F H e ys) (hz : (ys.map (·.length)).sum + ys.length * x.length ≤ 16777216) (hs : starEach [e] X.env = [(false, eval e X.env)] := by rfl) (hbase : attributeBase o "join" X.env (eval o X.env) = eval o X.env := by rfl) (hline : (apos.endLine == pos.line) = true := by rfl) :
    Ev X σ F H (.Call (.Attribute o "join" apos) [e] [] pos) (Txt.join x ys) := fun F1 H1 w Q q =>
  ⟨_, pe_join ew_pe ew_pe hs hbase hline, ho F1 H1 w _ fun v F2 H2 w2 r => ⟨⟨x, r⟩, he F2 H2 (w.trans w2) _ fun v2 F3 H3 w3 r2 => by
    obtain ⟨l, xs, rfl, h1, l1, r3⟩ := r2
    obtain rfl := reps_str r3
    exact ⟨x, l, ys, r, rfl, .inl (SqL.of (w3.fh _ _ h1)), hz, q _ F3 H3 (w2.trans w3) rfl⟩⟩⟩
theorem ev_find {x y : Str} (ho : Ev X σ F H o x) (he : Ev X σ F H e y) (hs : starEach [e] X.env = [(false, eval e X.env)] := by rfl) (hbase : attributeBase o "find" X.env (eval o X.env) = eval o X.env := by rfl) (hline : (apos.endLine == pos.line) = true := by rfl) :
    Ev X σ F H (.Call (.Attribute o "find" apos) [e] [] pos) (Txt.find x y) := fun F1 H1 w Q q =>
  ⟨_, pe_m1 PySem.F.slot_str_find PySem.F.type_str_find mt_find ew_pe ew_pe hs hbase hline, ho F1 H1 w _ fun v F2 H2 w2 r => ⟨⟨x, r⟩, he F2 H2 (w.trans w2) _ fun v2 F3 H3 w3 r2 => ⟨x, y, r, congrArg (fun z => [z]) r2, q _ F3 H3 (w2.trans w3) rfl⟩⟩⟩
theorem ev_strI {i : Int} (hm : X.mg "str" = none) (ha : Ev X σ F H a i) (hz : i.natAbs < 2 ^ 1000) (hg : Gl X "str" := by rfl) (hs : starEach [a] X.env = (false, eval a X.env) :: starEach [] X.env := by rfl) (hpl : (backTo pos (starEach [] X.env)).any (·.1) = false := by rfl) :
    Ev X σ F H (.Call (.Name "str" p) [a] [] pos) (strI i) :=
  ev_callTy call_str_int hm (by decide +kernel) (ea1 ha hs) (fun vs F1 H1 s ⟨v, e, r⟩ Q q => ⟨i, by rw [e, show v = .int i from r], by
    by_cases h0 : i.natAbs = 0
    · rw [h0]; decide
    · exact Nat.lt_trans ((Nat.log2_lt h0).mpr hz) (by decide), q _ F1 H1 (.refl s) rfl⟩) hg (by decide) (by decide) hs hpl
theorem ev_intS {x : Str} (hm : X.mg "int" = none) (ha : Ev X σ F H a x) (hn : ∃ n, PySem.intText? x = some n) (hz : x.length ≤ 640) (hg : Gl X "int" := by rfl) (hs : starEach [a] X.env = (false, eval a X.env) :: starEach [] X.env := by rfl) (hpl : (backTo pos (starEach [] X.env)).any (·.1) = false := by rfl) :
    Ev X σ F H (.Call (.Name "int" p) [a] [] pos) (intD x) :=
  ev_callTy call_int_str hm (by decide +kernel) (ea1 ha hs) (fun vs F1 H1 s ⟨v, e, r⟩ Q q => by
    obtain ⟨n, hn⟩ := hn
    refine ⟨x, n, by rw [e, show v = .str x from r], hn, hz, q _ F1 H1 (.refl s) ?_⟩
    show V.int n = V.int (intD x)
    unfold intD
    rw [hn]
    rfl) hg (by decide) (by decide) hs hpl
theorem ev_sgn {x : Str} {i : Int} (ha : Ev X σ F H a x) (hb : Ev X σ F H b i) (hz : x.length ≤ sizeLine) (hi : -(x.length : Int) ≤ i ∧ i < x.length) (hs : PlainIx b := by exact fun _ _ => rfl) : Ev X σ F H (.Subscript a b pos) (sgn x i) :=
  ev_ix ix_str (fun vx vy F1 H1 s rx ry Q q => by
    have hl : x.cps.toList.length = x.length := Array.length_toList
    have h : ∃ c, atI x.cps.toList i = some c := by
      unfold atI ixN
      by_cases h0 : 0 ≤ i
      · rw [if_pos h0, if_pos (by omega)]
        exact ⟨_, List.getElem?_eq_getElem (by omega)⟩
      · rw [if_neg h0, if_pos (by omega)]
        exact ⟨_, List.getElem?_eq_getElem (by omega)⟩
    obtain ⟨c, hc⟩ := h
    refine ⟨x, i, c, rx, ry, hz, hc, q _ F1 H1 (.refl s) ?_⟩
    show V.str _ = V.str (sgn x i)
    unfold sgn
    rw [hc]
    rfl) ha hb hs
theorem ev_cutS {lo hi : Option Expr} {l u : Option Int} {x : Str} {p2} (ha : Ev X σ F H a x) (hl : EvO X σ F H lo l) (hu : EvO X σ F H hi u) (hz : x.length ≤ sizeLine) : Ev X σ F H (.Subscript a (.Slice lo hi none p2) pos) (cutS x l u) := by
  obtain ⟨tl, pl, hl⟩ := hl
  obtain ⟨tu, pu, hu⟩ := hu
  refine fun F1 H1 w Q q => ⟨_, pe_slice sl_str ew_pe pl pu, ha F1 H1 w _ fun vx F2 H2 w2 rx => hl F2 H2 (w.trans w2) _ fun F3 H3 w3 => hu F3 H3 ((w.trans w2).trans w3) _ fun F4 H4 w4 => ?_⟩
  exact ⟨x, rx, hz, q _ F4 H4 ((w2.trans w3).trans w4) rfl⟩
theorem rr_inS {x y : Str} (hx : ∃ c, x = ⟨#[c]⟩) : RR X (fun x y H Q => ∃ (c : Nat) (z : Str), x = .str ⟨#[c]⟩ ∧ y = .str z ∧ Q (.bl (decide (c ∈ z.cps.toList))) H) x y (inS x y) := fun vx vy F1 H1 s rx ry Q q => by
  obtain ⟨c, rfl⟩ := hx
  exact ⟨c, y, rx, ry, q _ F1 H1 (.refl s) rfl⟩
theorem rr_notInS {x y : Str} (hx : ∃ c, x = ⟨#[c]⟩) : RR X (fun x y H Q => ∃ (c : Nat) (z : Str), x = .str ⟨#[c]⟩ ∧ y = .str z ∧ Q (.bl (!decide (c ∈ z.cps.toList))) H) x y (!inS x y) := fun vx vy F1 H1 s rx ry Q q => by
  obtain ⟨c, rfl⟩ := hx
  exact ⟨c, y, rx, ry, q _ F1 H1 (.refl s) rfl⟩
theorem ei_signs {x : Str} (h : Ev X σ F H e x) (hz : x.length ≤ sizeLine) : EvI X σ F H e (signs x) := fun F1 H1 w R q =>
  ⟨_, fun _ => pi_str ew_pe, h F1 H1 w _ fun v F2 H2 w2 r => ⟨x, r, q (Its x) F2 H2 w2 ⟨fun i H' hi s => by rw [signs_len] at hi; exact hi, fun i H' y H'' s yl => by
    obtain ⟨e1, c, hc, rfl⟩ := yl
    refine ⟨e1, fun d hd => ?_⟩
    unfold signs at hd
    rw [List.getElem?_map, Array.getElem?_toList, hc] at hd
    obtain rfl := Option.some.inj hd
    rfl, fun H' s => by rw [signs_len]; exact Nat.le_refl _⟩ (by rw [signs_len]; exact hz)⟩⟩
theorem ev_gcS {x : Str} {z : Str} (h : ∃ u, X.mg x = some u ∧ RelV (.str z) u) (hg : Gl X x := by rfl) (hd : (x == ("__debug__" : Str)) = false := by decide) : Ev X σ F H (.Name x pos) z := fun F1 H1 w Q q =>
  ⟨_, C8.pe_gc hg h hd, q _ F1 H1 (.refl w.fh) rfl⟩
end
instance : RepN Str := ⟨fun h => h⟩
theorem ty_str {K : PySem.W.Frag} {x : Str} : ∀ v F1 H1, Same F1 H1 → rep K F1 v x → TyX K H1 v (.type "str") := fun v F1 H1 s r => by
  obtain rfl : v = .str x := r
  exact .base (.str x)
theorem evn_lcS {X : Cx} {σ : L2.St} {F H : Hp} {pos : Pos} {α β : Type} [Rep α] [Rep β] {g : α → β} {scope : Scope} {elt iter : Expr} {ppos : Pos} {x : Str} (i : Nat) {xs : List α} (hN : X.N.Nodup) (hi : EvI X σ F H iter xs)
    (he : ∀ d, d ∈ xs → ∀ v F1 H1, Wk F H F1 H1 → rep X.K F1 v d → ∀ s Hb C cl fp, Ev (MP.Cx.bk X s Hb scope C cl fp) ((σ.set i none).set i (some v)) F1 H1 elt (g d))
    (ok : blkC X.N X.env.scope scope [(x, i)] = true := by rfl) (hx : X.N[i]? = some x := by rfl) (hl : ∀ (cl : List (Str × Addr)) (C : Addr), L2.Loc (compEnvC scope cl C X.env).scope x := by intro _ _; first | exact Or.inl rfl | exact Or.inr rfl) (hf : ∀ (cl : List (Str × Addr)) (C : Addr), (scope.names.lookup x == some .cell) = true ∨ (compEnvC scope cl C X.env).scope.names.lookup x = some .local := by intro _ _; first | exact .inr rfl | exact .inl rfl) (hs : ∀ x, foldedSetIterable iter X.env x = pure x := by intro _; rfl) : EvC X σ F H (.ListComp elt [⟨.Name x ppos, iter, [], 0⟩] scope pos) (xs.map g) :=
  ⟨elt, .Name x ppos, iter, [], scope, pos, [(x, i)], IW X iter, gName i, ttB X scope [], teB X scope elt, rfl, iw_pi, blkOk_by ok, (fun s Hb C cl fp => pg_name (i := i) hN hx (hl cl C) (hf cl C)),
    (fun s Hb C cl fp => ⟨fun pins s' σ H Q I h => by
      obtain ⟨t, p, h⟩ := h s Hb C cl fp
      exact p.run pins s' σ H Q I h⟩), (fun s Hb C cl fp => ⟨fun pins s' σ H Q I h => ew_pe.run pins s' σ H Q I (h s Hb C cl fp)⟩), hs,
    fun F1 H1 w Q q => lc_run (f := fun _ => true) hi (fun d hd v F1 H1 w r s Hb C cl fp Q q => ⟨_, pts_nil, q F1 H1 (.refl w.fh)⟩) (fun d hd _ => he d hd) w Q (fun p ys F2 H2 w2 r h1 h2 h3 h4 => q p ys F2 H2 w2 (by rw [List.filter_eq_self.mpr fun _ _ => rfl] at r; exact r) h1 h2 h3 h4)⟩
section
variable {X : Cx} {σ : L2.St} {F H : Hp} {a b : Expr} {pos p : Pos}
theorem ev_cats {x y : Str} (ha : Ev X σ F H a x) (hb : Ev X σ F H b y) (hz : x.length + y.length ≤ sizeLine) : Ev X σ F H (.BinOp a .Add b pos) (x ++ y) :=
  ev_bin op_add_str (fun vx vy F1 H1 s rx ry Q q => ⟨x, y, rx, ry, hz, q _ F1 H1 (.refl s) rfl⟩) ha hb
theorem ev_lens {x : Str} (hm : X.mg "len" = none) (ha : Ev X σ F H a x) (hz : x.length ≤ sizeLine) (hg : Gl X "len" := by rfl) (hs : starEach [a] X.env = (false, eval a X.env) :: starEach [] X.env := by rfl) (hpl : (backTo pos (starEach [] X.env)).any (·.1) = false := by rfl) : Ev X σ F H (.Call (.Name "len" p) [a] [] pos) (x.length : Int) :=
  ev_callB call_len_str hm PySem.boot_len (ea1 ha hs) (fun vs F1 H1 s ⟨v, e, r⟩ Q q => ⟨x, by rw [e, show v = .str x from r], hz, q _ F1 H1 (.refl s) rfl⟩) hg (by decide) (by decide) hs hpl
end
/-! ### a rule is made of what may be refused -/
section
variable {X : Cx} {σ : L2.St} {F H : Hp} {a b : Expr} {pos p : Pos} {ec : Exn → Addr} {E : XK} {C : Addr} {k : Nat} {ps : List Str}
theorem pmakeOX {pre : Int → List (List Int) → Prop} {m' : Int → List (List Int) → Except Exn RuleD} {ra : Except Exn Int} {rb : Except Exn (List (List Int))} (R : RuleB X.K X.mg C) (M : MkB X.prog X.w X.K X.mg X.base k C ps (spO X.K ec C pre m')) (hx : PassesAt (L2.CX X.prog X.w) X σ E) (hr : Room (k + 1) X.A) (h1 : EvP X σ F H a (oX ec (oF X.K)) E ra) (h2 : EvP X σ F H b (oX ec (oF X.K)) E rb) (hp : ∀ u v, ra = .ok u → rb = .ok v → pre u v)
    (hg : Gl X "Rule" := by rfl) (he : starEach [a, b] X.env = (false, eval a X.env) :: starEach [b] X.env := by rfl) (he2 : starEach [b] X.env = (false, eval b X.env) :: starEach [] X.env := by rfl) (hpl : (backTo pos (starEach [b] X.env)).any (·.1) = false := by rfl) :
    EvP X σ F H (.Call (.Name "Rule" p) [a, b] [] pos) (oX ec (oR X.K)) E (bindX ra fun u => bindX rb fun v => m' u v) := fun F1 H1 w Q q => by
  obtain ⟨f, fd, hm, hb, Fn⟩ := M.ex
  refine ew_at fun pins s I => wpAny_Call_Name_kw (ld_glob I hg R.g ?_ (by decide))
  refine PySem.W.callWith_K (h₀ := X.base) I.ok.mod.kin hm.kp (thn (aw_pa.run pos pins s σ H1 (fun vs H2 => ∀ x dx, H2 x = none → H2 dx = none → dx ≠ x → spO X.K ec C pre m' (.ref x :: (vs ++ [])) (upd (upd H2 dx (.own x)) x (.ins C dx [])) (fun v H3 => v = .non ∧ Q (.ref x) H3) E) I
    ⟨_, pa_cons ew_pe (pa_cons ew_pe pa_nil he2) he, h1 F1 H1 w _ fun F2 H2 w2 => ⟨fun u hu v1 F3 H3 w3 r1 => h2 F3 H3 ((w.trans w2).trans w3) _ fun F4 H4 w4 => ⟨fun v hv v2 F5 H5 w5 r2 => fun x dx nx ndx ne => ?_, fun y hy F5 H5 w5 => ?_⟩, fun y hy F3 H3 w3 => ?_⟩⟩) fun us s1 ⟨vs, H2, I2, r, q2⟩ => ⟨I2.kIn, run_makeS hm Fn hr hb hx I2 r q2⟩) he hpl
  · have W5 := ((w2.trans w3).trans w4).trans w5
    have em : (bindX ra fun u => bindX rb fun v => m' u v) = m' u v := by rw [hu, hv]; rfl
    refine ⟨F5, H5, x, dx, u, v, v1, v2, rfl, w5.fh, nx, ndx, ne, rfl, Rep.mono (w4.ff.trans w5.ff) r1, r2, hp u v hu hv, ?_, ?_⟩
    · intro d hd F' H' w6 r6
      exact ⟨rfl, (q F5 H5 W5).1 d (em.trans hd) _ F' H' w6 r6⟩
    · exact fun x hx F' H' w6 => (q F5 H5 W5).2 x (em.trans hx) F' H' w6
  · refine (q F4 H4 ((w2.trans w3).trans w4)).2 y ?_ F5 H5 w5
    rw [hu, hy]
    rfl
  · refine (q F2 H2 w2).2 y ?_ F3 H3 w3
    rw [hy]
    rfl
end
end MP
namespace MP
open PySem PySem.Spec PyProof.Rows L2 Rep
def m__law_cell_at (_law_script : Scr) (_law_k : Int) : Int :=
  (if (decide (_law_k < (_law_script.ns.length : Int))) = true then (gi _law_script.ns _law_k) else (if (decide (_law_script.ns = [])) = true then (0 : Int) else (((gi _law_script.ns (_law_k % (_law_script.ns.length : Int))) * (7 : Int)) + _law_k)))
def pre__law_cell_at (_law_script : Scr) (_law_k : Int) : Prop := 0 ≤ _law_k
def m__law_pairs_by (_law_many : Int) : (List (List Int)) :=
  (bnd [([] : (List Int))] fun (_law_rows_1 : (List (List Int))) => (forC (fun (_law_k_2 : Int) (s_2 : (List (List Int))) kk => (bnd ((s_2.map fun (_law_row_3 : (List Int)) => (_law_row_3 ++ [((2 : Int) * _law_k_2)])) ++ (s_2.map fun (_law_row_4 : (List Int)) => (_law_row_4 ++ [(((2 : Int) * _law_k_2) + (1 : Int))]))) fun (_law_rows_5 : (List (List Int))) => (kk _law_rows_5))) (rng 0 _law_many) _law_rows_1 fun (s_2 : (List (List Int))) => s_2))
def pre__law_pairs_by (_law_many : Int) : Prop := 0 ≤ _law_many ∧ _law_many ≤ 5
def m__law_subsets (_law_count : Int) : (List (List Int)) :=
  (bnd [([] : (List Int))] fun (_law_rows_1 : (List (List Int))) => (forC (fun (_law_thing_2 : Int) (s_2 : (List (List Int))) kk => (bnd (s_2 ++ (s_2.map fun (_law_row_3 : (List Int)) => (_law_row_3 ++ [_law_thing_2]))) fun (_law_rows_4 : (List (List Int))) => (kk _law_rows_4))) (rng 0 _law_count) _law_rows_1 fun (s_2 : (List (List Int))) => s_2))
def pre__law_subsets (_law_count : Int) : Prop := 0 ≤ _law_count ∧ _law_count ≤ 7
def m__law_parts (_law_script : Scr) (_law_kind : Int) (_law_count : Int) (_law_more : Int) : (Int × (List (List Int))) :=
  (bnd (m__law_subsets _law_count) fun (_law_rows_1 : (List (List Int))) => (if (decide (_law_kind = (0 : Int))) = true then (_law_count, ((rng 0 (_law_more % (6 : Int))).map fun (_law_k_3 : Int) => (gi _law_rows_1 ((m__law_cell_at _law_script ((6 : Int) + _law_k_3)) % (_law_rows_1.length : Int))))) else (if (decide ((_law_more % (9 : Int)) = (8 : Int))) = true then (bnd ((7 : Int) + ((_law_more / (9 : Int)) % (3 : Int))) fun (_law_count_5 : Int) => (bnd ([] : (List (List Int))) fun (_law_rows_6 : (List (List Int))) => (forC (fun (_law_one_7 : Int) (s_7 : (List (List Int))) kk => (bnd (s_7 ++ ((rng (_law_one_7 + (1 : Int)) _law_count_5).map fun (_law_thing_8 : Int) => [_law_one_7, _law_thing_8])) fun (_law_rows_9 : (List (List Int))) => (kk _law_rows_9))) (rng 0 _law_count_5) _law_rows_6 fun (s_7 : (List (List Int))) => (_law_count_5, s_7)))) else (_law_count, (_law_rows_1.filter fun (_law_row_10 : (List Int)) => (decide ((_law_row_10.length : Int) = (_law_more % (_law_count + (1 : Int))))))))))
def pre__law_parts (_law_script : Scr) (_law_kind : Int) (_law_count : Int) (_law_more : Int) : Prop := 0 ≤ _law_count ∧ _law_count ≤ 7
def m__law_apart (_law_vectors : (List Int)) (_law_row : (List Int)) : Bool :=
  (bnd [(0 : Int)] fun (_law_sums_1 : (List Int)) => (forC (fun (_law_thing_2 : Int) (s_2 : (List Int)) kk => (if (inB (gi _law_vectors _law_thing_2) s_2) = true then false else (bnd (s_2 ++ (s_2.map fun (_law_one_4 : Int) => (Builtin.bitXor _law_one_4 (gi _law_vectors _law_thing_2)))) fun (_law_sums_5 : (List Int)) => (kk _law_sums_5)))) _law_row _law_sums_1 fun (s_2 : (List Int)) => true))
def pre__law_apart (_law_vectors : (List Int)) (_law_row : (List Int)) : Prop := _law_row.length ≤ 7 ∧ ∀ t ∈ _law_row, 0 ≤ t ∧ t < (_law_vectors.length : Int)
def m__law_few (_law_script : Scr) : (Int × (List (List Int))) :=
  (bnd ((m__law_cell_at _law_script (0 : Int)) % (9 : Int)) fun (_law_kind_1 : Int) => (bnd (gi [(6 : Int), (5 : Int), (4 : Int), (3 : Int), (6 : Int), (1 : Int), (0 : Int)] (((m__law_cell_at _law_script (0 : Int)) / (9 : Int)) % (7 : Int))) fun (_law_count_2 : Int) => (bnd (m__law_cell_at _law_script (1 : Int)) fun (_law_more_3 : Int) => (if (decide (_law_kind_1 = (7 : Int))) = true then (bnd ((1 : Int) + (_law_more_3 % (4 : Int))) fun (_law_many_5 : Int) => (joinC (fun (s_6 : Int) => (((2 : Int) * s_6), (m__law_pairs_by s_6))) fun kk => if (decide ((63 : Int) < (_law_script.ns.length : Int))) = true then (bnd ((1 : Int) + (_law_more_3 % (5 : Int))) fun (_law_many_7 : Int) => (kk _law_many_7)) else (kk _law_many_5))) else (if (decide (_law_kind_1 < (2 : Int))) = true then (m__law_parts _law_script _law_kind_1 _law_count_2 _law_more_3) else (bnd (gi [(6 : Int), (5 : Int), (4 : Int), (3 : Int), (7 : Int), (7 : Int), (2 : Int)] (((m__law_cell_at _law_script (0 : Int)) / (9 : Int)) % (7 : Int))) fun (_law_count_9 : Int) => (bnd [([] : (List Int))] fun (_law_rows_10 : (List (List Int))) => (forC (fun (_law_thing_11 : Int) (s_11 : (List (List Int))) kk => (bnd (s_11 ++ ((s_11.filter fun (_law_row_12 : (List Int)) => (decide ((_law_row_12.length : Int) < (3 : Int)))).map fun (_law_row_12 : (List Int)) => (_law_row_12 ++ [_law_thing_11]))) fun (_law_rows_13 : (List (List Int))) => (kk _law_rows_13))) (rng 0 _law_count_9) _law_rows_10 fun (s_11 : (List (List Int))) => (bnd ((rng 0 _law_count_9).map fun (_law_thing_14 : Int) => ((m__law_cell_at _law_script ((6 : Int) + _law_thing_14)) % (8 : Int))) fun (_law_vectors_15 : (List Int)) => (bnd (s_11.filter fun (_law_row_16 : (List Int)) => (m__law_apart _law_vectors_15 _law_row_16)) fun (_law_good_17 : (List (List Int))) => (bnd (lmax (_law_good_17.map fun (_law_row_18 : (List Int)) => (_law_row_18.length : Int))) fun (_law_most_19 : Int) => (bnd (_law_good_17.filter fun (_law_row_20 : (List Int)) => (decide ((_law_row_20.length : Int) = _law_most_19))) fun (_law_table_here_21 : (List (List Int))) => (joinC (fun (s_22 : (List (List Int))) => (_law_count_9, s_22)) fun kk => if (decide (_law_kind_1 = (3 : Int))) = true then (bnd (_law_table_here_21.eraseIdx ((_law_more_3 % (_law_table_here_21.length : Int))).toNat) fun (_law_table_here_23 : (List (List Int))) => (kk _law_table_here_23)) else (kk _law_table_here_21))))))))))))))
def pre__law_few (_law_script : Scr) : Prop := True
def m__law_table (_law_script : Scr) : (Int × (List (List Int))) :=
  (bnd ((m__law_cell_at _law_script (0 : Int)) % (9 : Int)) fun (_law_kind_1 : Int) => (bnd (m__law_cell_at _law_script (1 : Int)) fun (_law_more_2 : Int) => (if (decide (_law_kind_1 = (4 : Int))) = true then (bnd ((7 : Int) + (_law_more_2 % (12 : Int))) fun (_law_count_4 : Int) => (bnd ((1 : Int) + ((_law_more_2 / (12 : Int)) % (4 : Int))) fun (_law_step_5 : Int) => (_law_count_4, (((rng 0 _law_count_4).filter fun (_law_thing_6 : Int) => (decide ((_law_thing_6 % _law_step_5) = (0 : Int)))).map fun (_law_thing_6 : Int) => [_law_thing_6])))) else (if (decide (_law_kind_1 = (5 : Int))) = true then (bnd ((7 : Int) + (_law_more_2 % (6 : Int))) fun (_law_count_8 : Int) => (_law_count_8, ((rng 0 _law_count_8).map fun (_law_gone_9 : Int) => ((rng 0 _law_count_8).filter fun (_law_thing_10 : Int) => (!decide (_law_thing_10 = _law_gone_9)))))) else (bnd (m__law_few _law_script) fun (_law_made_11 : (Int × (List (List Int)))) => (bnd (m__law_cell_at _law_script (12 : Int)) fun (_law_far_12 : Int) => (if ((!decide ((_law_far_12 % (3 : Int)) = (1 : Int))) || ((decide ((8 : Int) < (_law_made_11.2.length : Int))) || (decide ((9 : Int) < _law_made_11.1)))) = true then _law_made_11 else (bnd ((1 : Int) + ((_law_far_12 / (3 : Int)) % (9 : Int))) fun (_law_step_17 : Int) => (bnd ((_law_far_12 / (27 : Int)) % (9 : Int)) fun (_law_first_18 : Int) => (bnd ([] : (List (List Int))) fun (_law_table_here_19 : (List (List Int))) => (forC (fun (_law_choice_20 : (List Int)) (s_20 : (List (List Int))) kk => (bnd (s_20 ++ [(_law_choice_20.map fun (_law_thing_22 : Int) => (_law_first_18 + (_law_step_17 * _law_thing_22)))]) fun (_law_table_here_21 : (List (List Int))) => (kk _law_table_here_21))) _law_made_11.2 _law_table_here_19 fun (s_20 : (List (List Int))) => ((_law_first_18 + (_law_step_17 * _law_made_11.1)), s_20))))))))))))
def pre__law_table (_law_script : Scr) : Prop := True
def m__law_can (_law_table_here : (List (List Int))) (_law_one : (List Int)) (_law_other : (List Int)) (_law_thing : Int) : Bool :=
  (forC (fun (_law_out_1 : Int) (s_1 : Unit) kk => (bnd (srt ((_law_one.filter fun (_law_left_2 : Int) => (!decide (_law_left_2 = _law_out_1))) ++ [_law_thing])) fun (_law_made_3 : (List Int)) => (if ((!inB _law_out_1 _law_other) && (inB _law_made_3 _law_table_here)) = true then true else (kk ())))) _law_one () fun (s_1 : Unit) => false)
def pre__law_can (_law_table_here : (List (List Int))) (_law_one : (List Int)) (_law_other : (List Int)) (_law_thing : Int) : Prop := _law_one.length ≤ 1000
def m__law_fault (_law_count : Int) (_law_table_here : (List (List Int))) : (Option (Tri (List Int) (List Int) Int)) :=
  (forC (fun (_law_one_1 : (List Int)) (s_1 : Unit) kk => (forC (fun (_law_thing_2 : Int) (s_2 : Unit) kk => (if (!inB _law_thing_2 _law_one_1) = true then (forC (fun (_law_other_4 : (List Int)) (s_4 : Unit) kk => (if ((inB _law_thing_2 _law_other_4) && (!(m__law_can _law_table_here _law_one_1 _law_other_4 _law_thing_2))) = true then (some (Tri.mk _law_one_1 _law_other_4 _law_thing_2)) else (kk ()))) _law_table_here () fun (s_4 : Unit) => (kk ())) else (kk ()))) (rng 0 _law_count) () fun (s_2 : Unit) => (kk ()))) _law_table_here () fun (s_1 : Unit) => (none : Option (Tri (List Int) (List Int) Int)))
def pre__law_fault (_law_count : Int) (_law_table_here : (List (List Int))) : Prop := 0 ≤ _law_count ∧ _law_count ≤ 1000 ∧ ∀ c ∈ _law_table_here, c.length ≤ 1000
def m__law_bit (_law_cell : Int) (_law_k : Int) : Bool :=
  (forC (fun (_law_j_1 : Int) (s_1 : Int) kk => (bnd (s_1 / (2 : Int)) fun (_law_cell_2 : Int) => (kk _law_cell_2))) (rng 0 _law_k) _law_cell fun (s_1 : Int) => (decide ((s_1 % (2 : Int)) = (1 : Int))))
def pre__law_bit (_law_cell : Int) (_law_k : Int) : Prop := 0 ≤ _law_k ∧ _law_k ≤ 1000
def m__law_held (_law_script : Scr) : (Int × (List (List Int))) :=
  (bnd (m__law_table _law_script) fun (_law_made_1 : (Int × (List (List Int)))) => (if ((decide (_law_made_1.2 = ([] : (List (List Int))))) || (!(m__law_fault _law_made_1.1 _law_made_1.2).isNone)) = true then (_law_made_1.1, [((rng 0 _law_made_1.1).filter fun (_law_thing_5 : Int) => (m__law_bit (m__law_cell_at _law_script (2 : Int)) _law_thing_5))]) else _law_made_1))
def pre__law_held (_law_script : Scr) : Prop := True
def m_known_by (table : List (List Int)) : Known := forC (fun (c : List Int) (s : List (List Int)) kk => kk (addK s c)) table [] fun s => Known.mk s
def m_exchanged (choice : (List Int)) (out : Int) (thing : Int) : (List Int) :=
  (srt ((choice.filter fun (one_1 : Int) => (!decide (one_1 = out))) ++ [thing]))
def pre_exchanged (choice : (List Int)) (out : Int) (thing : Int) : Prop := choice.length ≤ 1000
def m_outs_of (known : Known) (choice : (List Int)) (thing : Int) : (List Int) :=
  (choice.filter fun (out_1 : Int) => (inB (m_exchanged choice out_1 thing) known.ks))
def pre_outs_of (known : Known) (choice : (List Int)) (thing : Int) : Prop := choice.length ≤ 1000
def m_fault (count : Int) (table : (List (List Int))) : (Option (Tri (List Int) (List Int) Int)) :=
  (bnd (m_known_by table) fun (known_1 : Known) => (forC (fun (one_2 : (List Int)) (s_2 : Unit) kk => (forC (fun (thing_3 : Int) (s_3 : Unit) kk => (if (!inB thing_3 one_2) = true then (bnd (m_outs_of known_1 one_2 thing_3) fun (outs_5 : (List Int)) => (forC (fun (other_6 : (List Int)) (s_6 : Unit) kk => (if ((inB thing_3 other_6) && (!(!((outs_5.filter fun (out_8 : Int) => (!inB out_8 other_6))).isEmpty))) = true then (some (Tri.mk one_2 other_6 thing_3)) else (kk ()))) table () fun (s_6 : Unit) => (kk ()))) else (kk ()))) (rng 0 count) () fun (s_3 : Unit) => (kk ()))) table () fun (s_2 : Unit) => (none : Option (Tri (List Int) (List Int) Int))))
def pre_fault (count : Int) (table : (List (List Int))) : Prop := 0 ≤ count ∧ count ≤ 1000 ∧ ∀ c ∈ table, c.length ≤ 1000
def m_has_all (choice : (List Int)) (things : (List Int)) : Bool :=
  (((things.map fun (thing_1 : Int) => (inB thing_1 choice))).all id)
def pre_has_all (choice : (List Int)) (things : (List Int)) : Prop := True
def m__law_mixed (_law_choice : (List Int)) (_law_cell : Int) : (List Int) :=
  (bnd ([] : (List Int)) fun (_law_row_1 : (List Int)) => (forC (fun (_law_thing_2 : Int) (s_2 : Int × (List Int)) kk => (bnd (insAt s_2.2 (s_2.1 % ((s_2.2.length : Int) + (1 : Int))) _law_thing_2) fun (_law_row_3 : (List Int)) => (bnd (s_2.1 / (3 : Int)) fun (_law_cell_4 : Int) => (kk (_law_cell_4, _law_row_3))))) _law_choice (_law_cell, _law_row_1) fun (s_2 : Int × (List Int)) => s_2.2))
def pre__law_mixed (_law_choice : (List Int)) (_law_cell : Int) : Prop := _law_choice.length ≤ 1000
def m__law_weight (_law_cell : Int) (_law_mode : Int) : Int :=
  (if (decide (_law_mode = (0 : Int))) = true then ((_law_cell % (5 : Int)) - (2 : Int)) else (if (decide (_law_mode = (1 : Int))) = true then ((_law_cell % (2001 : Int)) - (1000 : Int)) else (bnd (_law_cell % ((10 : Int) ^ ((60 : Int)).toNat)) fun (_law_far_3 : Int) => (if ((decide (_law_mode = (2 : Int))) && (decide (((_law_cell / (10 : Int)) % (2 : Int)) = (0 : Int)))) = true then _law_far_3 else (-_law_far_3)))))
def pre__law_weight (_law_cell : Int) (_law_mode : Int) : Prop := True
def m__law_whole (_law_found : Int) : Bool :=
  (true && (!false))
def pre__law_whole (_law_found : Int) : Prop := True
def m__law_row_is (_law_found : (List Int)) (_law_due : (List Int)) : Bool :=
  (if ((!true) || (!decide ((_law_found.length : Int) = (_law_due.length : Int)))) = true then false else (forC (fun (_law_k_4 : Int) (s_4 : Unit) kk => (if ((!(m__law_whole (gi _law_found _law_k_4))) || (!decide ((gi _law_found _law_k_4) = (gi _law_due _law_k_4)))) = true then false else (kk ()))) (rng 0 (_law_due.length : Int)) () fun (s_4 : Unit) => true))
def pre__law_row_is (_law_found : (List Int)) (_law_due : (List Int)) : Prop := True
def m_order (weights : (List Int)) : (List Int) :=
  (ordL weights)
def pre_order (weights : (List Int)) : Prop := weights.length ≤ 1000
def m_sure_things (count : Int) (things : (List Int)) : (Except Exn (List Int)) :=
  (forC (fun (k_1 : Int) (s_1 : Unit) kk => (if ((!((decide ((0 : Int) ≤ (gi things k_1))) && (decide ((gi things k_1) < count)))) || (inB (gi things k_1) (cut things none (some k_1)))) = true then (.error .thing) else (kk ()))) (rng 0 (things.length : Int)) () fun (s_1 : Unit) => (.ok (srt things)))
def pre_sure_things (count : Int) (things : (List Int)) : Prop := True
def rowsT (ts : List Tup) : List (List Int) := ts.map fun t => t.ns
def m_Rule (count : Int) (table : List (List Int)) : Except Exn RuleD :=
  (if decide ((table.length : Int) = 0) = true then .error .choice
  else bnd (m_known_by (table.map fun c => okv (m_sure_things count c))) fun known =>
    bnd (rowsT (srtT (known.ks.map Tup.mk))) fun full =>
      (if (!(m_fault count full).isNone) = true then .error .exchange else .ok ⟨count, full, ((gi full 0).length : Int)⟩))
def pre_Rule (count : Int) (table : List (List Int)) : Prop := 0 ≤ count ∧ count ≤ 1000 ∧ (∀ c ∈ table, isOk (m_sure_things count c)) ∧
  (∀ c ∈ rowsT (srtT ((m_known_by (table.map fun c => okv (m_sure_things count c))).ks.map Tup.mk)), c.length ≤ 1000) ∧
  ((m_known_by (table.map fun c => okv (m_sure_things count c))).ks.length ≤ 1 ∨ ∀ c ∈ (m_known_by (table.map fun c => okv (m_sure_things count c))).ks, c ≠ []) ∧
  (table ≠ [] → rowsT (srtT ((m_known_by (table.map fun c => okv (m_sure_things count c))).ks.map Tup.mk)) ≠ [])
def m_together (self : RuleD) (things : (List Int)) : (Except Exn Bool) :=
  (bindX (m_sure_things self.count things) fun (wanted_1 : (List Int)) => (.ok (((self.full.map fun (choice_2 : (List Int)) => (m_has_all choice_2 wanted_1))).any id)))
def pre_together (self : RuleD) (things : (List Int)) : Prop := True
def m_rank (self : RuleD) (things : (List Int)) : (Except Exn Int) :=
  (bindX (m_sure_things self.count things) fun (wanted_1 : (List Int)) => (.ok (lmax (self.full.map fun (choice_2 : (List Int)) => ((choice_2.filter fun (thing_3 : Int) => (inB thing_3 wanted_1)).length : Int)))))
def pre_rank (self : RuleD) (things : (List Int)) : Prop := self.full ≠ []
def m_sure_full (self : RuleD) (choice : (List Int)) : (Except Exn (List Int)) :=
  (bindX (m_sure_things self.count choice) fun (told_1 : (List Int)) => (if (!inB told_1 self.full) = true then (.error .choice) else (.ok told_1)))
def pre_sure_full (self : RuleD) (choice : (List Int)) : Prop := True
def m_outs (self : RuleD) (choice : (List Int)) (thing : Int) : (Except Exn (List Int)) :=
  (bindX (m_sure_full self choice) fun (told_1 : (List Int)) => (if ((!((decide ((0 : Int) ≤ thing)) && (decide (thing < self.count)))) || (inB thing told_1)) = true then (.error .thing) else (.ok (m_outs_of (m_known_by self.full) told_1 thing))))
def pre_outs (self : RuleD) (choice : (List Int)) (thing : Int) : Prop := choice.length ≤ 1000
def m_exchanges (self : RuleD) (choice : (List Int)) : (Except Exn (List (Int × (List Int)))) :=
  (bindX (m_sure_full self choice) fun (told_1 : (List Int)) => (bnd (m_known_by self.full) fun (known_2 : Known) => (.ok (((rng 0 self.count).filter fun (thing_3 : Int) => (!inB thing_3 told_1)).map fun (thing_3 : Int) => (thing_3, (m_outs_of known_2 told_1 thing_3))))))
def pre_exchanges (self : RuleD) (choice : (List Int)) : Prop := choice.length ≤ 1000 ∧ 0 ≤ self.count ∧ self.count ≤ 1000
def m_picked (rule : RuleD) (weights : (List Int)) : (Except Exn (List Int)) :=
  (if (!decide ((weights.length : Int) = rule.count)) = true then (.error .weights) else (bnd ([] : (List Int)) fun (kept_2 : (List Int)) => (forC (fun (thing_3 : Int) (s_3 : (List Int)) kk => (if (okv (m_together rule (s_3 ++ [thing_3]))) = true then (bnd (s_3 ++ [thing_3]) fun (kept_5 : (List Int)) => (kk kept_5)) else (kk s_3))) (m_order weights) kept_2 fun (s_3 : (List Int)) => (.ok (srt s_3)))))
def pre_picked (rule : RuleD) (weights : (List Int)) : Prop := weights.length ≤ 1000
def m_way (rule : RuleD) (weights : (List Int)) (choice : (List Int)) : (Except Exn (List (Int × Int))) :=
  (bindX (m_picked rule weights) fun (goal_1 : (List Int)) => (bindX (m_sure_full rule choice) fun (here_2 : (List Int)) => (bnd ([] : (List (Int × Int))) fun (steps_3 : (List (Int × Int))) => (forC (fun (thing_4 : Int) (s_4 : (List Int) × (List (Int × Int))) kk => (if ((inB thing_4 goal_1) && (!inB thing_4 s_4.1)) = true then (bnd (gi ((okv (m_outs rule s_4.1 thing_4)).filter fun (one_8 : Int) => (!inB one_8 goal_1)) (0 : Int)) fun (out_9 : Int) => (bnd (s_4.2 ++ [(out_9, thing_4)]) fun (steps_10 : (List (Int × Int))) => (bnd (m_exchanged s_4.1 out_9 thing_4) fun (here_11 : (List Int)) => (kk (here_11, steps_10))))) else (kk (s_4.1, s_4.2)))) (m_order weights) (here_2, steps_3) fun (s_4 : (List Int) × (List (Int × Int))) => (.ok s_4.2)))))
def pre_way (rule : RuleD) (weights : (List Int)) (choice : (List Int)) : Prop := weights.length ≤ 1000 ∧ choice.length ≤ 1000 ∧ 0 ≤ rule.count ∧ rule.count ≤ 99 ∧ rule.full ≠ [] ∧ (∀ r ∈ rule.full, m_sure_things rule.count r = .ok r) ∧ m_fault rule.count rule.full = none
def m__law_least_alike (_law_table_here : (List (List Int))) (_law_goal : (List Int)) : (List Int) :=
  (bnd (gi _law_table_here (0 : Int)) fun (_law_best_1 : (List Int)) => (forC (fun (_law_choice_2 : (List Int)) (s_2 : (List Int)) kk => (if (decide (((_law_choice_2.filter fun (_law_thing_3 : Int) => (inB _law_thing_3 _law_goal)).length : Int) < ((s_2.filter fun (_law_thing_4 : Int) => (inB _law_thing_4 _law_goal)).length : Int))) = true then (bnd _law_choice_2 fun (_law_best_6 : (List Int)) => (kk _law_best_6)) else (kk s_2))) _law_table_here _law_best_1 fun (s_2 : (List Int)) => s_2))
def pre__law_least_alike (_law_table_here : (List (List Int))) (_law_goal : (List Int)) : Prop := _law_table_here ≠ []
def m__law_rows_are (_law_found : (List (List Int))) (_law_due : (List (List Int))) : Bool :=
  (if ((!true) || (!decide ((_law_found.length : Int) = (_law_due.length : Int)))) = true then false else (forC (fun (_law_k_4 : Int) (s_4 : Unit) kk => (if (!(m__law_row_is (gi _law_found _law_k_4) (gi _law_due _law_k_4))) = true then false else (kk ()))) (rng 0 (_law_due.length : Int)) () fun (s_4 : Unit) => true))
def pre__law_rows_are (_law_found : (List (List Int))) (_law_due : (List (List Int))) : Prop := True
def m__law_rule_is (_law_rule : RuleD) (_law_count : Int) (_law_table_here : (List (List Int))) : Bool :=
  (if ((!(m__law_whole _law_rule.count)) || ((!decide (_law_rule.count = _law_count)) || (!(m__law_whole _law_rule.size)))) = true then false else ((decide (_law_rule.size = ((gi _law_table_here (0 : Int)).length : Int))) && (m__law_rows_are _law_rule.full _law_table_here)))
def pre__law_rule_is (_law_rule : RuleD) (_law_count : Int) (_law_table_here : (List (List Int))) : Prop := _law_table_here ≠ []
end MP
namespace MP
open PySem PySem.Spec PyProof.Rows L2 Rep
/-! ### loops -/
theorem forC_inv {α S R : Type} {P : R → Prop} {body : α → S → (S → R) → R} {xs : List α} {s0 : S} {k : S → R} (I : Nat → S → Prop) (h0 : I 0 s0)
    (step : ∀ i x s kk, xs[i]? = some x → I i s → (∀ s', I (i + 1) s' → P (kk s')) → P (body x s kk)) (done : ∀ s, I xs.length s → P (k s)) : P (forC body xs s0 k) := by
  have gen : ∀ (ys : List α) (n : Nat) (s : S), n + ys.length = xs.length → (∀ j, ys[j]? = xs[n + j]?) → I n s → P (forC body ys s k) := by
    intro ys
    induction ys with
    | nil =>
      intro n s hn _ hI
      have : n = xs.length := by simpa using hn
      subst this
      exact done s hI
    | cons y ys ih =>
      intro n s hn hg hI
      refine step n y s _ (by have := hg 0; simpa using this.symm) hI fun s' hI' => ih (n + 1) s' (by rw [List.length_cons] at hn; omega) (fun j => ?_) hI'
      have := hg (j + 1)
      rw [List.getElem?_cons_succ] at this
      rw [this]
      congr 1
      omega
  exact gen xs 0 s0 (by omega) (fun j => by rw [Nat.zero_add]) h0
theorem bnd_P {α R : Type} {P : R → Prop} {e : α} {k : α → R} (h : P (k e)) : P (bnd e k) := h
theorem ite_P {R : Type} {P : R → Prop} {b : Bool} {x y : R} (h1 : b = true → P x) (h2 : b = false → P y) : P (if b = true then x else y) := by
  cases b with
  | true => rw [if_pos rfl]; exact h1 rfl
  | false => rw [if_neg (by decide)]; exact h2 rfl
/-- a loop whose turns all go on -/
theorem forC_fold {α S R : Type} {f : S → α → S} : ∀ {xs : List α} {s : S} {k : S → R}, forC (fun x s kk => kk (f s x)) xs s k = k (xs.foldl f s)
  | [], _, _ => rfl
  | x :: xs, s, k => forC_fold (xs := xs) (s := f s x) (k := k)
/-- a loop that looks for one -/
theorem forC_find {α R : Type} {body : α → Unit → (Unit → R) → R} {f : α → Option R} (h : ∀ x k, body x () k = match f x with | some r => r | none => k ()) : ∀ {xs : List α} {k : Unit → R}, forC body xs () k = match xs.findSome? f with | some r => r | none => k ()
  | [], k => rfl
  | x :: xs, k => by
    show body x () _ = _
    rw [h, List.findSome?_cons]
    cases f x with
    | some r => rfl
    | none => exact forC_find h
/-! ### sizes -/
theorem fl_len {α : Type} {p : α → Bool} {xs : List α} {n : Nat} (h : xs.length ≤ n) : (xs.filter p).length ≤ n := Nat.le_trans (List.length_filter_le _ _) h
theorem sz_of {n : Nat} (h : n ≤ 16777216) : n ≤ sizeLine := by rw [sizeLine_eq]; exact h
theorem sz_lt {n : Nat} (h : n < 16777216) : n < sizeLine := by rw [sizeLine_eq]; exact h
theorem cat1 {α : Type} {p : α → Bool} {xs : List α} {t : α} {n : Nat} (h : xs.length ≤ n) (hn : n ≤ 1000000) : (xs.filter p).length + [t].length ≤ sizeLine := sz_of (by have := fl_len (p := p) h; simp only [List.length_singleton]; omega)
theorem cat2 {α : Type} {xs : List α} {t : α} {n : Nat} (h : xs.length ≤ n) (hn : n ≤ 1000000) : xs.length + [t].length ≤ sizeLine := sz_of (by simp only [List.length_singleton]; omega)
theorem pos_len {α : Type} {xs : List α} (h : ¬ xs = []) : 0 < (xs.length : Int) := by
  cases xs with
  | nil => exact absurd rfl h
  | cons x xs => rw [List.length_cons]; omega
theorem mod_ix {n : Nat} {i : Int} (h : 0 < (n : Int)) : -(n : Int) ≤ i % n ∧ i % n < n := by
  have h1 := Int.emod_nonneg i (b := (n : Int)) (by omega)
  have h2 := Int.emod_lt_of_pos i h
  omega
theorem mod_in {n : Nat} {i : Int} (h : 0 < (n : Int)) : 0 ≤ i % n ∧ i % n < n := ⟨Int.emod_nonneg i (by omega), Int.emod_lt_of_pos i h⟩
theorem gi_mem {α : Type} [Inhabited α] {xs : List α} {i : Int} (h : -(xs.length : Int) ≤ i ∧ i < xs.length) : gi xs i ∈ xs := by
  unfold gi atI ixN
  by_cases h0 : 0 ≤ i
  · rw [if_pos h0, if_pos h.2]
    have hl : i.toNat < xs.length := by omega
    show (xs[i.toNat]?).getD default ∈ xs
    rw [List.getElem?_eq_getElem hl]
    exact List.getElem_mem hl
  · rw [if_neg h0, if_pos h.1]
    have hl : (i + xs.length).toNat < xs.length := by omega
    show (xs[(i + xs.length).toNat]?).getD default ∈ xs
    rw [List.getElem?_eq_getElem hl]
    exact List.getElem_mem hl
theorem gi_nat {α : Type} [Inhabited α] {xs : List α} {i : Int} (h0 : 0 ≤ i) (h : i < xs.length) : gi xs i = xs[i.toNat]'(by omega) := by
  unfold gi atI ixN
  rw [if_pos h0, if_pos h]
  have hl : i.toNat < xs.length := by omega
  show (xs[i.toNat]?).getD default = _
  rw [List.getElem?_eq_getElem hl]
  rfl
theorem pow20 {i n : Nat} (h : i < n) (hn : n ≤ 20) : 2 ^ i + 2 ^ i ≤ 1048576 := by
  have h1 : 2 ^ (i + 1) ≤ 2 ^ 20 := Nat.pow_le_pow_right (by decide) (by omega)
  rw [Nat.pow_succ] at h1
  omega

/-! ### choices: rising things below a number -/
def Ris (c : Int) (r : List Int) : Prop := r.Pairwise (· < ·) ∧ ∀ t ∈ r, 0 ≤ t ∧ t < c
theorem up_len : ∀ {r : List Int} {a c : Int}, r.Pairwise (· < ·) → (∀ t ∈ r, a ≤ t ∧ t < c) → r.length ≤ (c - a).toNat
  | [], _, _, _, _ => Nat.zero_le _
  | x :: r, a, c, h, hb => by
    rw [List.pairwise_cons] at h
    have hx := hb x List.mem_cons_self
    have := up_len (a := x + 1) (c := c) h.2 fun t ht => ⟨by have := h.1 t ht; omega, (hb t (List.mem_cons_of_mem _ ht)).2⟩
    rw [List.length_cons]
    omega
theorem Ris.len {c : Int} {r : List Int} (h : Ris c r) : r.length ≤ c.toNat := by
  have := up_len (a := 0) h.1 h.2
  simpa using this
theorem Ris.nil {c : Int} : Ris c [] := ⟨.nil, fun _ h => nomatch h⟩
theorem Ris.mono {c d : Int} {r : List Int} (h : Ris c r) (l : c ≤ d) : Ris d r := ⟨h.1, fun t ht => ⟨(h.2 t ht).1, by have := (h.2 t ht).2; omega⟩⟩
theorem Ris.snoc {c t d : Int} {r : List Int} (h : Ris c r) (h0 : 0 ≤ c) (h1 : c ≤ t) (h2 : t < d) : Ris d (r ++ [t]) := by
  refine ⟨?_, fun u hu => ?_⟩
  · rw [List.pairwise_append]
    refine ⟨h.1, List.pairwise_singleton _ _, fun a ha b hb => ?_⟩
    rw [List.mem_singleton] at hb
    subst hb
    have := (h.2 a ha).2
    omega
  · rcases List.mem_append.mp hu with q | q
    · have := h.2 u q
      omega
    · rw [List.mem_singleton] at q
      omega
theorem Ris.one {c t : Int} (h0 : 0 ≤ t) (h : t < c) : Ris c [t] := Ris.snoc (r := []) (c := 0) .nil (Int.le_refl _) h0 h
theorem rng_up {lo hi : Int} : (rng lo hi).Pairwise (· < ·) := by
  unfold rng
  rw [List.pairwise_map]
  exact List.pairwise_lt_range.imp fun h => by omega
theorem rng_ris {c d : Int} (h : c ≤ d) : Ris d (rng 0 c) := ⟨rng_up, fun t ht => by have := rng_mem.mp ht; omega⟩
theorem Ris.filter {c : Int} {r : List Int} {p : Int → Bool} (h : Ris c r) : Ris c (r.filter p) := ⟨h.1.sublist List.filter_sublist, fun t ht => h.2 t (List.mem_filter.mp ht).1⟩
theorem Ris.lin {c a b d : Int} {r : List Int} (h : Ris c r) (ha : 0 ≤ a) (hb : 0 < b) (hd : a + b * c ≤ d) : Ris d (r.map fun t => a + b * t) := by
  refine ⟨?_, fun u hu => ?_⟩
  · rw [List.pairwise_map]
    refine h.1.imp fun {x y} hxy => ?_
    have := Int.mul_lt_mul_of_pos_left hxy hb
    omega
  · obtain ⟨t, ht, rfl⟩ := List.mem_map.mp hu
    have h1 := h.2 t ht
    have h2 : 0 ≤ b * t := Int.mul_nonneg (by omega) h1.1
    have h3 := Int.mul_lt_mul_of_pos_left h1.2 hb
    omega

/-! ### the tables of the laws -/
def SubI (i : Nat) (s : List (List Int)) : Prop := s.length = 2 ^ i ∧ ∀ r ∈ s, r.length ≤ i ∧ Ris i r
theorem subI0 {s : List (List Int)} (h : s = [[]]) : SubI 0 s := by
  subst h
  refine ⟨rfl, fun r hr => ?_⟩
  rw [List.mem_singleton] at hr
  subst hr
  exact ⟨Nat.le_refl _, .nil⟩
theorem subI1 {i n : Nat} {x : Int} {s s' : List (List Int)} (h : SubI i s) (hx : x = 0 + (i : Int) ∧ i < n) (e : s' = s ++ s.map fun r => r ++ [x]) : SubI (i + 1) s' := by
  subst e
  refine ⟨by rw [List.length_append, List.length_map, h.1, Nat.pow_succ]; omega, fun r hr => ?_⟩
  rcases List.mem_append.mp hr with q | q
  · have := h.2 r q
    exact ⟨by omega, this.2.mono (by omega)⟩
  · obtain ⟨r', q', rfl⟩ := List.mem_map.mp q
    have := h.2 r' q'
    exact ⟨by rw [List.length_append, List.length_singleton]; omega, this.2.snoc (by omega) (by omega) (by omega)⟩
theorem subI_cat {i n : Nat} {s : List (List Int)} {f : List Int → List Int} (h : SubI i s) (hi : i < n) (hn : n ≤ 20) : s.length + (s.map f).length ≤ sizeLine := sz_of (by
  have := pow20 hi hn
  rw [List.length_map, h.1]
  omega)
theorem subsets_spec {c : Int} (h : 0 ≤ c) : SubI c.toNat (m__law_subsets c) := by
  unfold m__law_subsets
  refine bnd_P (P := fun s => SubI c.toNat s) (forC_inv (P := fun s => SubI c.toNat s) (fun i s => SubI i s) (subI0 rfl) (fun i x s kk hx hI k => bnd_P (P := fun s => SubI c.toNat s) (k _ (subI1 hI (rng_get hx) rfl))) fun s hI => ?_)
  rw [rng_len, Int.sub_zero] at hI
  exact hI
def PairI (i : Nat) (s : List (List Int)) : Prop := s.length = 2 ^ i ∧ ∀ r ∈ s, r.length ≤ i ∧ Ris (2 * i) r
theorem pairI0 {s : List (List Int)} (h : s = [[]]) : PairI 0 s := by
  subst h
  refine ⟨rfl, fun r hr => ?_⟩
  rw [List.mem_singleton] at hr
  subst hr
  exact ⟨Nat.le_refl _, .nil⟩
theorem pairI1 {i n : Nat} {x : Int} {s s' : List (List Int)} (h : PairI i s) (hx : x = 0 + (i : Int) ∧ i < n) (e : s' = (s.map fun r => r ++ [2 * x]) ++ s.map fun r => r ++ [2 * x + 1]) : PairI (i + 1) s' := by
  subst e
  refine ⟨by rw [List.length_append, List.length_map, List.length_map, h.1, Nat.pow_succ]; omega, fun r hr => ?_⟩
  rcases List.mem_append.mp hr with q | q <;> obtain ⟨r', q', rfl⟩ := List.mem_map.mp q <;> have := h.2 r' q'
  · exact ⟨by rw [List.length_append, List.length_singleton]; omega, this.2.snoc (by omega) (by omega) (by omega)⟩
  · exact ⟨by rw [List.length_append, List.length_singleton]; omega, this.2.snoc (by omega) (by omega) (by omega)⟩
theorem pairI_cat {i n : Nat} {s : List (List Int)} {f g : List Int → List Int} (h : PairI i s) (hi : i < n) (hn : n ≤ 20) : (s.map f).length + (s.map g).length ≤ sizeLine := sz_of (by
  have := pow20 hi hn
  rw [List.length_map, List.length_map, h.1]
  omega)
theorem pairs_spec {c : Int} (h : 0 ≤ c) : PairI c.toNat (m__law_pairs_by c) := by
  unfold m__law_pairs_by
  refine bnd_P (P := fun s => PairI c.toNat s) (forC_inv (P := fun s => PairI c.toNat s) (fun i s => PairI i s) (pairI0 rfl) (fun i x s kk hx hI k => bnd_P (P := fun s => PairI c.toNat s) (k _ (pairI1 hI (rng_get hx) rfl))) fun s hI => ?_)
  rw [rng_len, Int.sub_zero] at hI
  exact hI
theorem apart1 {i : Nat} {s s' : List Int} {f : Int → Int} (h : s.length = 2 ^ i) (e : s' = s ++ s.map f) : s'.length = 2 ^ (i + 1) := by
  subst e
  rw [List.length_append, List.length_map, h, Nat.pow_succ]
  omega
theorem apart_cat {i n : Nat} {s : List Int} {f : Int → Int} (h : s.length = 2 ^ i) (hi : i < n) (hn : n ≤ 20) : s.length + (s.map f).length ≤ sizeLine := sz_of (by
  have := pow20 hi hn
  rw [List.length_map, h]
  omega)
theorem apart_nil {v : List Int} : m__law_apart v [] = true := rfl
/-- what a table is: so many things, its choices rising below that -/
def TabOk (t : Int × List (List Int)) : Prop := 0 ≤ t.1 ∧ t.1 ≤ 99 ∧ ∀ r ∈ t.2, Ris t.1 r
def FewOk (t : Int × List (List Int)) : Prop := 0 ≤ t.1 ∧ t.1 ≤ 18 ∧ ∀ r ∈ t.2, Ris t.1 r
theorem subs_pos {c : Int} {s : List (List Int)} (h : 0 ≤ c) (e : s = m__law_subsets c) : 0 < (s.length : Int) := by
  subst e
  rw [(subsets_spec h).1]
  have : 0 < 2 ^ c.toNat := Nat.pow_pos (by decide)
  omega
def DuoI (c : Int) (i : Nat) (s : List (List Int)) : Prop := s.length ≤ 10 * i ∧ ∀ r ∈ s, Ris c r
theorem duoI0 {c : Int} {s : List (List Int)} (h : s = []) : DuoI c 0 s := by
  subst h
  exact ⟨Nat.le_refl _, fun _ h => nomatch h⟩
theorem duoI1 {c x : Int} {i n : Nat} {s s' : List (List Int)} (h : DuoI c i s) (hx : x = 0 + (i : Int) ∧ i < n) (hc : c ≤ 10) (e : s' = s ++ (rng (x + 1) c).map fun t => [x, t]) : DuoI c (i + 1) s' := by
  subst e
  refine ⟨by rw [List.length_append, List.length_map, rng_len]; have := h.1; omega, fun r hr => ?_⟩
  rcases List.mem_append.mp hr with q | q
  · exact h.2 r q
  · obtain ⟨t, ht, rfl⟩ := List.mem_map.mp q
    have := rng_mem.mp ht
    exact Ris.snoc (r := [x]) (c := x + 1) (Ris.one (by omega) (by omega)) (by omega) (by omega) (by omega)
theorem duo_cat {c x : Int} {i : Nat} {s : List (List Int)} {f : Int → List Int} (h : DuoI c i s) (hi : i < 100) (hc : c ≤ 10) (hx : 0 ≤ x) : s.length + ((rng (x + 1) c).map f).length ≤ sizeLine := sz_of (by
  rw [List.length_map, rng_len]
  have := h.1
  omega)
theorem parts_spec {ns : Scr} {kind c more : Int} (h : 0 ≤ c ∧ c ≤ 7) : FewOk (m__law_parts ns kind c more) := by
  unfold m__law_parts
  refine bnd_P (P := FewOk) (ite_P (P := FewOk) (fun _ => ⟨h.1, by omega, fun r hr => ?_⟩) (fun _ => ite_P (P := FewOk) (fun _ => bnd_P (P := FewOk) (bnd_P (P := FewOk) ?_)) fun _ => ⟨h.1, by omega, fun r hr => ?_⟩))
  · obtain ⟨k, hk, rfl⟩ := List.mem_map.mp hr
    have := (subsets_spec h.1).2 _ (gi_mem (mod_ix (i := m__law_cell_at ns (6 + k)) (subs_pos h.1 rfl)))
    exact this.2.mono (by show ((c.toNat : Nat) : Int) ≤ c; omega)
  · have hc : 0 ≤ 7 + more / 9 % 3 ∧ 7 + more / 9 % 3 ≤ 9 := by omega
    refine forC_inv (P := FewOk) (fun i s => DuoI (7 + more / 9 % 3) i s) (duoI0 rfl) (fun i x s kk hx hI k => bnd_P (P := FewOk) (k _ (duoI1 hI (rng_get hx) (by omega) rfl))) fun s hI => ⟨hc.1, by show 7 + more / 9 % 3 ≤ 18; omega, fun r hr => hI.2 r hr⟩
  · have := (subsets_spec h.1).2 _ (List.mem_filter.mp hr).1
    exact this.2.mono (by show ((c.toNat : Nat) : Int) ≤ c; omega)
def RowI (i : Nat) (s : List (List Int)) : Prop := s.length ≤ 2 ^ i ∧ [] ∈ s ∧ ∀ r ∈ s, r.length ≤ 3 ∧ Ris i r
theorem rowI0 {s : List (List Int)} (h : s = [[]]) : RowI 0 s := by
  subst h
  refine ⟨Nat.le_refl _, List.mem_singleton_self _, fun r hr => ?_⟩
  rw [List.mem_singleton] at hr
  subst hr
  exact ⟨Nat.zero_le _, .nil⟩
theorem rowI1 {i n : Nat} {x : Int} {s s' : List (List Int)} (h : RowI i s) (hx : x = 0 + (i : Int) ∧ i < n) (e : s' = s ++ ((s.filter fun (r : List Int) => decide ((r.length : Int) < 3)).map fun r => r ++ [x])) : RowI (i + 1) s' := by
  subst e
  refine ⟨?_, List.mem_append_left _ h.2.1, fun r hr => ?_⟩
  · have := List.length_filter_le (fun (r : List Int) => decide ((r.length : Int) < 3)) s
    rw [List.length_append, List.length_map, Nat.pow_succ]
    have := h.1
    omega
  · rcases List.mem_append.mp hr with q | q
    · have := h.2.2 r q
      exact ⟨this.1, this.2.mono (by omega)⟩
    · obtain ⟨r', q', rfl⟩ := List.mem_map.mp q
      obtain ⟨q1, q2⟩ := List.mem_filter.mp q'
      have := h.2.2 r' q1
      have q3 := of_decide_eq_true q2
      exact ⟨by rw [List.length_append, List.length_singleton]; omega, this.2.snoc (by omega) (by omega) (by omega)⟩
theorem row_cat {i n : Nat} {s : List (List Int)} {p : List Int → Bool} {f : List Int → List Int} (h : RowI i s) (hi : i < n) (hn : n ≤ 20) : s.length + ((s.filter p).map f).length ≤ sizeLine := sz_of (by
  have h1 := pow20 hi hn
  have h2 := List.length_filter_le p s
  have := h.1
  rw [List.length_map]
  omega)
theorem menu1 (x : Int) : 0 ≤ gi [(6 : Int), 5, 4, 3, 6, 1, 0] (x % 7) ∧ gi [(6 : Int), 5, 4, 3, 6, 1, 0] (x % 7) ≤ 6 := by
  have h := gi_mem (xs := [(6 : Int), 5, 4, 3, 6, 1, 0]) (i := x % 7) (by simp only [List.length_cons, List.length_nil]; omega)
  exact (by decide : ∀ y ∈ [(6 : Int), 5, 4, 3, 6, 1, 0], 0 ≤ y ∧ y ≤ 6) _ h
theorem menu2 (x : Int) : 0 ≤ gi [(6 : Int), 5, 4, 3, 7, 7, 2] (x % 7) ∧ gi [(6 : Int), 5, 4, 3, 7, 7, 2] (x % 7) ≤ 7 := by
  have h := gi_mem (xs := [(6 : Int), 5, 4, 3, 7, 7, 2]) (i := x % 7) (by simp only [List.length_cons, List.length_nil]; omega)
  exact (by decide : ∀ y ∈ [(6 : Int), 5, 4, 3, 7, 7, 2], 0 ≤ y ∧ y ≤ 7) _ h
theorem menu_e {x c : Int} (e : c = gi [(6 : Int), 5, 4, 3, 7, 7, 2] (x % 7)) : 0 ≤ c ∧ c ≤ 7 := by
  subst e
  exact menu2 x
theorem menu_e1 {x c : Int} (e : c = gi [(6 : Int), 5, 4, 3, 6, 1, 0] (x % 7)) : 0 ≤ c ∧ c ≤ 7 := by
  subst e
  have := menu1 x
  omega
/-- the greatest parts: there is one -/
theorem good_ne {i : Nat} {s good : List (List Int)} {v : List Int} (h : RowI i s) (e : good = s.filter fun r => m__law_apart v r) : good ≠ [] := by
  subst e
  exact List.ne_nil_of_mem (List.mem_filter.mpr ⟨h.2.1, apart_nil⟩)
theorem most_pos {good t : List (List Int)} {m : Int} (h : good ≠ []) (em : m = lmax (good.map fun r => (r.length : Int))) (et : t = good.filter fun r => decide ((r.length : Int) = m)) : 0 < (t.length : Int) := by
  subst et
  have h1 : good.map (fun r => (r.length : Int)) ≠ [] := fun z => h (List.map_eq_nil_iff.mp z)
  obtain ⟨r, hr, hm⟩ := List.mem_map.mp (lmax_mem h1)
  refine pos_len (List.ne_nil_of_mem (List.mem_filter.mpr ⟨hr, decide_eq_true ?_⟩))
  rw [em]
  exact hm
theorem good_apart {i : Nat} {s : List (List Int)} {r v : List Int} {c : Int} {f : Int → Int} (h : RowI i s) (hr : r ∈ s) (hi : i = (rng 0 c).length) (ev : v = (rng 0 c).map f) : r.length ≤ 7 ∧ ∀ t ∈ r, 0 ≤ t ∧ t < (v.length : Int) := by
  have := h.2.2 r hr
  subst ev
  refine ⟨by omega, fun t ht => ?_⟩
  have := this.2.2 t ht
  rw [List.length_map, ← hi]
  exact this
theorem few_spec (ns : Scr) : FewOk (m__law_few ns) := by
  unfold m__law_few
  refine bnd_P (P := FewOk) (bnd_P (P := FewOk) (bnd_P (P := FewOk) (ite_P (P := FewOk) (fun _ => bnd_P (P := FewOk) ?_) fun _ => ite_P (P := FewOk) (fun _ => ?_) fun _ => bnd_P (P := FewOk) (bnd_P (P := FewOk) ?_))))
  · have key : ∀ m : Int, 0 ≤ m → m ≤ 5 → FewOk (2 * m, m__law_pairs_by m) := fun m h0 h1 => ⟨by show 0 ≤ 2 * m; omega, by show 2 * m ≤ 18; omega, fun r hr => ((pairs_spec h0).2 r hr).2.mono (by show 2 * ((m.toNat : Nat) : Int) ≤ 2 * m; omega)⟩
    show FewOk (if _ then _ else _)
    exact ite_P (P := FewOk) (fun _ => key _ (by omega) (by omega)) fun _ => key _ (by omega) (by omega)
  · have := menu1 (m__law_cell_at ns 0 / 9)
    exact parts_spec ⟨this.1, by omega⟩
  · have hc := menu2 (m__law_cell_at ns 0 / 9)
    generalize gi [(6 : Int), 5, 4, 3, 7, 7, 2] (m__law_cell_at ns 0 / 9 % 7) = c at hc
    refine forC_inv (P := FewOk) (fun i s => RowI i s) (rowI0 rfl) (fun i x s kk hx hI k => bnd_P (P := FewOk) (k _ (rowI1 hI (rng_get hx) rfl))) fun s hI => ?_
    rw [rng_len, Int.sub_zero] at hI
    refine bnd_P (P := FewOk) (bnd_P (P := FewOk) (bnd_P (P := FewOk) (bnd_P (P := FewOk) ?_)))
    have key : ∀ t : List (List Int), (∀ r ∈ t, r ∈ s) → FewOk (c, t) := fun t ht => ⟨hc.1, by show c ≤ 18; omega, fun r hr => ((hI.2.2 r (ht r hr)).2).mono (by show ((c.toNat : Nat) : Int) ≤ c; omega)⟩
    show FewOk (if _ then _ else _)
    exact ite_P (P := FewOk) (fun _ => bnd_P (P := FewOk) (key _ fun r hr => (List.mem_filter.mp (List.mem_filter.mp (List.mem_of_mem_eraseIdx hr)).1).1)) fun _ => key _ fun r hr => (List.mem_filter.mp (List.mem_filter.mp hr).1).1
def FarI (d : Int) (i : Nat) (s : List (List Int)) : Prop := s.length ≤ i ∧ ∀ r ∈ s, Ris d r
theorem farI0 {d : Int} {s : List (List Int)} (h : s = []) : FarI d 0 s := by
  subst h
  exact ⟨Nat.le_refl _, fun _ h => nomatch h⟩
theorem table_spec (ns : Scr) : TabOk (m__law_table ns) := by
  unfold m__law_table
  refine bnd_P (P := TabOk) (bnd_P (P := TabOk) (ite_P (P := TabOk) (fun _ => bnd_P (P := TabOk) (bnd_P (P := TabOk) ?_)) fun _ => ite_P (P := TabOk) (fun _ => bnd_P (P := TabOk) ?_) fun _ => bnd_P (P := TabOk) (bnd_P (P := TabOk) (ite_P (P := TabOk) (fun _ => ?_) fun hb => bnd_P (P := TabOk) (bnd_P (P := TabOk) (bnd_P (P := TabOk) ?_))))))
  · refine ⟨by show 0 ≤ 7 + m__law_cell_at ns 1 % 12; omega, by show 7 + m__law_cell_at ns 1 % 12 ≤ 99; omega, fun r hr => ?_⟩
    obtain ⟨t, ht, rfl⟩ := List.mem_map.mp hr
    have := rng_mem.mp (List.mem_filter.mp ht).1
    exact Ris.one this.1 this.2
  · refine ⟨by show 0 ≤ 7 + m__law_cell_at ns 1 % 6; omega, by show 7 + m__law_cell_at ns 1 % 6 ≤ 99; omega, fun r hr => ?_⟩
    obtain ⟨t, ht, rfl⟩ := List.mem_map.mp hr
    exact (rng_ris (Int.le_refl _)).filter
  · have := few_spec ns
    exact ⟨this.1, by have := this.2.1; omega, this.2.2⟩
  · have hf := few_spec ns
    simp only [Bool.or_eq_false_iff, Bool.not_eq_false', decide_eq_true_eq, decide_eq_false_iff_not] at hb
    generalize m__law_few ns = t at hf hb
    generalize m__law_cell_at ns 12 = far at hb
    have h1 : 0 < 1 + far / 3 % 9 ∧ 1 + far / 3 % 9 ≤ 9 := by omega
    have h2 : 0 ≤ far / 27 % 9 ∧ far / 27 % 9 ≤ 8 := by omega
    generalize 1 + far / 3 % 9 = st at h1
    generalize far / 27 % 9 = fi at h2
    have h3 : 0 ≤ st * t.1 := Int.mul_nonneg (by omega) hf.1
    have h4 : st * t.1 ≤ 9 * 9 := Int.mul_le_mul (by omega) (by omega) hf.1 (by omega)
    refine forC_inv (P := TabOk) (fun i s => ∀ r ∈ s, Ris (fi + st * t.1) r) (fun _ h => nomatch h) (fun i x s kk hx hI k => bnd_P (P := TabOk) (k _ fun r hr => ?_)) fun s hI => ⟨by show 0 ≤ fi + st * t.1; omega, by show fi + st * t.1 ≤ 99; omega, hI⟩
    rcases List.mem_append.mp hr with q | q
    · exact hI r q
    · rw [List.mem_singleton] at q
      subst q
      exact (hf.2.2 x (List.mem_of_getElem? hx)).lin h2.1 h1.1 (Int.le_refl _)
/-! ### rows drawn -/
theorem cut_len {α : Type} {xs : List α} {a b : Option Int} {n : Nat} (h : xs.length ≤ n) : (cut xs a b).length ≤ n := by
  unfold cut
  rw [List.length_take, List.length_drop]
  omega
theorem ins_at {n : Nat} {x : Int} (h : n ≤ 1000) : 0 ≤ x % ((n : Int) + 1) ∧ x % ((n : Int) + 1) < 2 ^ 63 := by
  have := mod_in (n := n + 1) (i := x) (by omega)
  have e : (((n + 1 : Nat)) : Int) = (n : Int) + 1 := by omega
  rw [e] at this
  omega
def RisI (i : Nat) (s : Int × List Int) : Prop := s.2.length = i ∧ s.2.Pairwise (· < ·) ∧ -1 ≤ s.1 ∧ ∀ t ∈ s.2, 0 ≤ t ∧ t ≤ s.1
theorem risI0 {s : Int × List Int} (h1 : s.1 = -1) (h2 : s.2 = []) : RisI 0 s := by
  obtain ⟨a, b⟩ := s
  obtain rfl : a = -1 := h1
  obtain rfl : b = [] := h2
  exact ⟨rfl, .nil, Int.le_refl _, fun _ h => nomatch h⟩
theorem risI1 {i : Nat} {s : Int × List Int} {a : Int} {b : List Int} {x st : Int} (h : RisI i s) (hs : 0 < st) (ea : a = s.1 + 1 + x % st) (eb : b = s.2 ++ [a]) : RisI (i + 1) (a, b) := by
  obtain ⟨h1, h2, h3, h4⟩ := h
  have hm := Int.emod_nonneg x (b := st) (by omega)
  subst eb
  refine ⟨by rw [List.length_append, List.length_singleton, h1], ?_, by show -1 ≤ a; omega, fun t ht => ?_⟩
  · show (s.2 ++ [a]).Pairwise _
    rw [List.pairwise_append]
    refine ⟨h2, List.pairwise_singleton _ _, fun u hu w hw => ?_⟩
    rw [List.mem_singleton] at hw
    subst hw
    have := h4 u hu
    omega
  · show 0 ≤ t ∧ t ≤ a
    rcases List.mem_append.mp ht with q | q
    · have := h4 t q
      omega
    · rw [List.mem_singleton] at q
      subst q
      omega
/-- a row put in a drawn order -/
def MixI (xs : List Int) (i : Nat) (s : Int × List Int) : Prop := s.2.length = i ∧ s.2.Perm (xs.take i)
theorem mixI0 {xs : List Int} {s : Int × List Int} (h : s.2 = []) : MixI xs 0 s := by
  obtain ⟨a, b⟩ := s
  obtain rfl : b = [] := h
  exact ⟨rfl, List.Perm.refl _⟩
theorem insAt_perm {α : Type} (xs : List α) (i : Int) (x : α) : (insAt xs i x).Perm (xs ++ [x]) := by
  unfold insAt
  have h1 : (xs.take i.toNat ++ [x] ++ xs.drop i.toNat).Perm (xs.take i.toNat ++ xs.drop i.toNat ++ [x]) := by
    rw [List.append_assoc, List.append_assoc]
    exact List.Perm.append_left _ List.perm_append_comm
  rw [List.take_append_drop] at h1
  exact h1
theorem insAt_len {α : Type} (xs : List α) (i : Int) (x : α) : (insAt xs i x).length = xs.length + 1 := by
  rw [(insAt_perm xs i x).length_eq, List.length_append, List.length_singleton]
theorem mixI1 {xs : List Int} {i : Nat} {s : Int × List Int} {a c x : Int} {b : List Int} (h : MixI xs i s) (hx : xs[i]? = some x) (eb : b = insAt s.2 a x) : MixI xs (i + 1) (c, b) := by
  subst eb
  refine ⟨by show (insAt s.2 a x).length = _; rw [insAt_len, h.1], ?_⟩
  show (insAt s.2 a x).Perm _
  rw [List.take_add_one, hx]
  exact (insAt_perm s.2 a x).trans (h.2.append_right _)
theorem mixed_perm (xs : List Int) (c : Int) : (m__law_mixed xs c).Perm xs := by
  unfold m__law_mixed
  refine bnd_P (P := fun (r : List Int) => r.Perm xs) (forC_inv (P := fun (r : List Int) => r.Perm xs) (fun i s => MixI xs i s) (mixI0 (s := (c, [])) rfl) (fun i x s kk hx hI k => bnd_P (P := fun (r : List Int) => r.Perm xs) (bnd_P (P := fun (r : List Int) => r.Perm xs) (k _ (mixI1 hI hx rfl)))) fun s hI => ?_)
  have := hI.2
  rw [List.take_length] at this
  exact this
theorem mixed_len (xs : List Int) (c : Int) : (m__law_mixed xs c).length = xs.length := (mixed_perm xs c).length_eq
theorem put_cat {xs : List Int} {a b c d : Option Int} {t : Int} (h : xs.length ≤ 1000) : (cut xs a b ++ [t]).length + (cut xs c d).length ≤ sizeLine := sz_of (by
  have h1 := cut_len (a := a) (b := b) h
  have h2 := cut_len (a := c) (b := d) h
  rw [List.length_append, List.length_singleton]
  omega)
theorem bnd_T {α R : Type} {P : R → Prop} {e : α} {k : α → R} (h : ∀ x, x = e → P (k x)) : P (bnd e k) := h e rfl
theorem ite_n {R : Type} {P : R → Prop} {b : Bool} {x y : R} (h : b = false) (k : P y) : P (if b = true then x else y) := by
  rw [h, if_neg (by decide)]
  exact k
theorem ite_y {R : Type} {P : R → Prop} {b : Bool} {x y : R} (h : b = true) (k : P x) : P (if b = true then x else y) := by
  rw [h, if_pos rfl]
  exact k
theorem row_is_eq (a b : List Int) : m__law_row_is a b = decide (a = b) := by
  unfold m__law_row_is
  by_cases hl : (a.length : Int) = (b.length : Int)
  · rw [if_neg (by simp [hl])]
    have hl' : a.length = b.length := by omega
    refine forC_inv (P := fun r => r = decide (a = b)) (fun i _ => a.take i = b.take i) rfl (fun i x s kk hx hI k => ?_) fun s hI => ?_
    · have hg := rng_get hx
      have hi : i < b.length := by omega
      have ha : i < a.length := by omega
      have e1 : gi a x = a[i] := by
        rw [gi_nat (by omega) (by omega)]
        congr 1
        omega
      have e2 : gi b x = b[i] := by
        rw [gi_nat (by omega) (by omega)]
        congr 1
        omega
      by_cases hq : gi a x = gi b x
      · refine ite_n (P := fun r => r = decide (a = b)) (by unfold m__law_whole; simp [hq]) (k () ?_)
        rw [List.take_add_one, List.take_add_one, hI, List.getElem?_eq_getElem ha, List.getElem?_eq_getElem hi, ← e1, ← e2, hq]
      · refine ite_y (P := fun r => r = decide (a = b)) (by simp [hq]) ?_
        have : ¬ a = b := fun z => by
          subst z
          exact hq rfl
        simp [this]
    · rw [rng_len] at hI
      have hb : (((b.length : Nat) : Int) - 0).toNat = b.length := by omega
      rw [hb, List.take_length] at hI
      rw [show a.take b.length = a by rw [← hl', List.take_length]] at hI
      simp [hI]
  · rw [if_pos (by simp [hl])]
    have : ¬ a = b := fun z => hl (by rw [z])
    simp [this]

/-! ### the order -/
theorem list_idx {n : Nat} {p : Nat × Nat} (h : p ∈ (List.range n).zipIdx) : p.1 = p.2 := by
  obtain ⟨a, b⟩ := p
  have := List.mem_zipIdx h
  obtain ⟨_, h2, h3⟩ := this
  rw [List.getElem_range] at h3
  simp at h3 ⊢
  omega
theorem ms_lex (n : Nat) (k : Nat → Int) : ((List.range n).mergeSort fun a b => decide (k a ≤ k b)).Pairwise fun a b => k a < k b ∨ (k a = k b ∧ a < b) := by
  have hn : ((List.range n).mergeSort fun a b => decide (k a ≤ k b)).Nodup := (List.mergeSort_perm _ _).nodup_iff.mpr List.nodup_range
  have h1 : ((List.range n).mergeSort fun a b => decide (k a ≤ k b)).Pairwise fun a b => k a < k b ∨ (k a = k b ∧ a ≤ b) := by
    rw [← List.mergeSort_zipIdx]
    rw [List.pairwise_map]
    refine (List.Pairwise.and_mem.mp (List.pairwise_mergeSort (le := List.zipIdxLE fun a b => decide (k a ≤ k b)) (fun a b c h1 h2 => ?_) (fun a b => ?_) (List.range n).zipIdx)).imp ?_
    · exact List.zipIdxLE_trans (fun a b c h1 h2 => by simp at h1 h2 ⊢; omega) _ _ _ h1 h2
    · exact List.zipIdxLE_total (fun a b => by simp; omega) _ _
    · rintro ⟨a, i⟩ ⟨b, j⟩ ⟨ha, hb, h⟩
      have e1 : a = i := list_idx (n := n) (List.mem_mergeSort.mp ha)
      have e2 : b = j := list_idx (n := n) (List.mem_mergeSort.mp hb)
      subst e1
      subst e2
      show k a < k b ∨ (k a = k b ∧ a ≤ b)
      unfold List.zipIdxLE at h
      simp only [decide_eq_true_eq] at h
      by_cases q : k a ≤ k b
      · rw [if_pos q] at h
        by_cases q2 : k b ≤ k a
        · rw [if_pos q2] at h
          have := of_decide_eq_true h
          omega
        · omega
      · rw [if_neg q] at h
        cases h
  exact (h1.and hn).imp fun {a b} ⟨h, ne⟩ => by omega
structure OrdOk (ws xs : List Int) : Prop where
  len : xs.length = ws.length
  perm : xs.Perm (rng 0 ws.length)
  pw : xs.Pairwise fun a b => gi ws b < gi ws a ∨ (gi ws a = gi ws b ∧ a < b)
theorem ordL_ok (ws : List Int) : OrdOk ws (ordL ws) := by
  unfold ordL
  refine ⟨by rw [List.length_map, List.length_mergeSort, List.length_range], ?_, ?_⟩
  · refine ((List.mergeSort_perm _ _).map _).trans (List.Perm.of_eq ?_)
    unfold rng
    have : ((ws.length : Int) - 0).toNat = ws.length := by omega
    rw [this]
    exact List.map_congr_left fun a _ => by omega
  · rw [List.pairwise_map]
    exact (ms_lex _ fun (i : Nat) => -(gi ws (i : Int))).imp fun h => by omega
theorem OrdOk.mem {ws xs : List Int} (h : OrdOk ws xs) {t : Int} : t ∈ xs ↔ 0 ≤ t ∧ t < ws.length := by
  rw [h.perm.mem_iff, rng_mem]
theorem OrdOk.nodup {ws xs : List Int} (h : OrdOk ws xs) : xs.Nodup := h.perm.nodup_iff.mpr (rng_up.imp fun h => by omega)
theorem ord_ok {ws xs : List Int} (e : xs = m_order ws) : OrdOk ws xs := by
  subst e
  exact ordL_ok ws
theorem gi_last {xs : List Int} {a : Int} : gi (xs ++ [a]) (-1) = a := by
  unfold gi
  rw [atI_last]
  rfl

/-! ### what the rule's methods compute -/
theorem cut_take {α : Type} {xs : List α} {k : Int} (h0 : 0 ≤ k) : cut xs none (some k) = xs.take k.toNat := by
  obtain ⟨n, rfl⟩ := Int.eq_ofNat_of_zero_le h0
  unfold cut
  rw [HT.sIx_none, HT.sIx_nat, List.drop_zero, Nat.sub_zero]
  show xs.take (min n xs.length) = xs.take n
  by_cases h : n ≤ xs.length
  · rw [Nat.min_eq_left h]
  · rw [Nat.min_eq_right (by omega), List.take_of_length_le (Nat.le_refl _), List.take_of_length_le (by omega)]
def orK {R : Type} (o : Option R) (k : R) : R :=
  match o with
  | some r => r
  | none => k
theorem forC_or {α R : Type} {body : α → Unit → (Unit → R) → R} (f : α → Option R) (h : ∀ x k, body x () k = orK (f x) (k ())) : ∀ {xs : List α} {k : Unit → R}, forC body xs () k = orK (xs.findSome? f) (k ())
  | [], k => rfl
  | x :: xs, k => by
    show body x () _ = _
    rw [h, List.findSome?_cons]
    cases f x with
    | some r => rfl
    | none => exact forC_or f h
theorem ite_or {R : Type} {b : Bool} {x y : R} : (if b = true then x else y) = orK (if b = true then some x else none) y := by
  cases b <;> rfl
/-- sure things -/
def SureOk (c : Int) (xs : List Int) : Prop := (∀ t ∈ xs, 0 ≤ t ∧ t < c) ∧ xs.Nodup
theorem sure_cond {c : Int} {xs : List Int} {k : Int} (hk : 0 ≤ k ∧ k < xs.length) : (((!((decide ((0 : Int) ≤ gi xs k)) && (decide (gi xs k < c)))) || inB (gi xs k) (cut xs none (some k))) = false) ↔ ((0 ≤ gi xs k ∧ gi xs k < c) ∧ gi xs k ∉ xs.take k.toNat) := by
  rw [cut_take hk.1]
  simp only [Bool.or_eq_false_iff, Bool.not_eq_false', Bool.and_eq_true, decide_eq_true_eq, inB_f]
theorem sure_spec {c : Int} {xs : List Int} : (SureOk c xs ∧ m_sure_things c xs = .ok (srt xs)) ∨ (¬ SureOk c xs ∧ m_sure_things c xs = .error .thing) := by
  have e : m_sure_things c xs = orK ((rng 0 (xs.length : Int)).findSome? (fun k => if ((!((decide ((0 : Int) ≤ gi xs k)) && (decide (gi xs k < c)))) || inB (gi xs k) (cut xs none (some k))) = true then some (Except.error Exn.thing : Except Exn (List Int)) else none)) (.ok (srt xs)) := by
    unfold m_sure_things
    exact forC_or _ fun k kk => ite_or
  cases hf : (rng 0 (xs.length : Int)).findSome? (fun k => if ((!((decide ((0 : Int) ≤ gi xs k)) && (decide (gi xs k < c)))) || inB (gi xs k) (cut xs none (some k))) = true then some (Except.error Exn.thing : Except Exn (List Int)) else none) with
  | some r =>
    rw [hf] at e
    obtain ⟨k, hk, hr⟩ := List.exists_of_findSome?_eq_some hf
    have hk := rng_mem.mp hk
    split at hr
    · rename_i hc
      cases hr
      refine .inr ⟨fun hS => ?_, e⟩
      have : ((!((decide ((0 : Int) ≤ gi xs k)) && (decide (gi xs k < c)))) || inB (gi xs k) (cut xs none (some k))) = false := by
        rw [sure_cond hk]
        have hm : gi xs k ∈ xs := gi_mem ⟨by omega, hk.2⟩
        refine ⟨hS.1 _ hm, fun hm2 => ?_⟩
        have hlt : k.toNat < xs.length := by omega
        have hn := hS.2
        rw [← List.take_append_drop k.toNat xs, List.nodup_append] at hn
        refine hn.2.2 _ hm2 (gi xs k) ?_ rfl
        rw [List.drop_eq_getElem_cons hlt, gi_nat hk.1 hk.2]
        exact List.mem_cons_self
      rw [hc] at this
      cases this
    · cases hr
  | none =>
    rw [hf] at e
    rw [List.findSome?_eq_none_iff] at hf
    have hall : ∀ (j : Nat) (h : j < xs.length), (0 ≤ xs[j] ∧ xs[j] < c) ∧ xs[j] ∉ xs.take j := fun j h => by
      have h1 := hf (j : Int) (rng_mem.mpr ⟨by omega, by omega⟩)
      have h2 : ((!((decide ((0 : Int) ≤ gi xs (j : Int))) && (decide (gi xs (j : Int) < c)))) || inB (gi xs (j : Int)) (cut xs none (some (j : Int)))) = false := by
        cases hb : ((!((decide ((0 : Int) ≤ gi xs (j : Int))) && (decide (gi xs (j : Int) < c)))) || inB (gi xs (j : Int)) (cut xs none (some (j : Int)))) with
        | false => rfl
        | true =>
          rw [hb] at h1
          simp at h1
      have h3 := (sure_cond ⟨by omega, by omega⟩).mp h2
      rw [gi_nat (by omega) (by omega)] at h3
      simpa using h3
    refine .inl ⟨⟨fun t ht => ?_, ?_⟩, e⟩
    · obtain ⟨j, hj, rfl⟩ := List.mem_iff_getElem.mp ht
      exact (hall j hj).1
    · rw [List.Nodup, List.pairwise_iff_getElem]
      intro i j hi hj hij heq
      refine (hall j hj).2 ?_
      rw [← heq, List.mem_take_iff_getElem]
      exact ⟨i, by omega, rfl⟩
theorem sure_ok {c : Int} {xs : List Int} (h : SureOk c xs) : m_sure_things c xs = .ok (srt xs) := by
  rcases sure_spec (c := c) (xs := xs) with ⟨_, e⟩ | ⟨n, _⟩
  · exact e
  · exact absurd h n
theorem sure_no {c : Int} {xs : List Int} (h : ¬ SureOk c xs) : m_sure_things c xs = .error .thing := by
  rcases sure_spec (c := c) (xs := xs) with ⟨y, _⟩ | ⟨_, e⟩
  · exact absurd y h
  · exact e
theorem sure_is {c : Int} {xs d : List Int} (h : m_sure_things c xs = .ok d) : SureOk c xs ∧ d = srt xs := by
  rcases sure_spec (c := c) (xs := xs) with ⟨y, e⟩ | ⟨_, e⟩
  · rw [e] at h
    cases h
    exact ⟨y, rfl⟩
  · rw [e] at h
    cases h
theorem sure_err {c : Int} {xs : List Int} {x : Exn} (h : m_sure_things c xs = .error x) : x = .thing ∧ ¬ SureOk c xs := by
  rcases sure_spec (c := c) (xs := xs) with ⟨y, e⟩ | ⟨n, e⟩
  · rw [e] at h
    cases h
  · rw [e] at h
    cases h
    exact ⟨rfl, n⟩
theorem sure_len {c : Int} {xs d : List Int} (h : m_sure_things c xs = .ok d) : d.length = xs.length := by
  rw [(sure_is h).2]
  exact srt_len _
theorem sure_full_is {r : RuleD} {xs d : List Int} (h : m_sure_full r xs = .ok d) : SureOk r.count xs ∧ d = srt xs ∧ d ∈ r.full := by
  unfold m_sure_full at h
  cases q : m_sure_things r.count xs with
  | error x =>
    rw [q] at h
    cases h
  | ok y =>
    rw [q] at h
    obtain ⟨h1, rfl⟩ := sure_is q
    have h : (if (!inB (srt xs) r.full) = true then .error .choice else .ok (srt xs) : Except Exn (List Int)) = .ok d := h
    split at h
    · cases h
    · rename_i hb
      cases h
      refine ⟨h1, rfl, ?_⟩
      simpa [inB_t] using hb
theorem sure_full_len {r : RuleD} {xs d : List Int} (h : m_sure_full r xs = .ok d) : d.length = xs.length := by
  rw [(sure_full_is h).2.1]
  exact srt_len _
theorem sure_full_ok {r : RuleD} {xs : List Int} (h : SureOk r.count xs) (hm : srt xs ∈ r.full) : m_sure_full r xs = .ok (srt xs) := by
  unfold m_sure_full
  rw [sure_ok h]
  show (if (!inB (srt xs) r.full) = true then .error .choice else .ok (srt xs) : Except Exn (List Int)) = _
  rw [if_neg (by simp [inB_t, hm])]
/-! ### the choices that are known -/
theorem kn_fold (T : List (List Int)) : (m_known_by T).ks = T.foldl addK [] := by
  unfold m_known_by
  rw [forC_fold (f := addK)]
theorem fold_addK (T : List (List Int)) : ∀ s : List (List Int), s.Nodup → (T.foldl addK s).Nodup ∧ ∀ c, c ∈ T.foldl addK s ↔ c ∈ s ∨ c ∈ T := by
  induction T with
  | nil => intro s hs; exact ⟨hs, fun c => by simp⟩
  | cons t T ih =>
    intro s hs
    rw [List.foldl_cons]
    have hn : (addK s t).Nodup ∧ ∀ c, c ∈ addK s t ↔ c ∈ s ∨ c = t := by
      unfold addK
      split
      · rename_i h
        rw [inB_t] at h
        refine ⟨hs, fun c => ⟨.inl, fun q => ?_⟩⟩
        rcases q with q | rfl
        · exact q
        · exact h
      · rename_i h
        rw [inB_t] at h
        refine ⟨?_, fun c => by simp⟩
        rw [List.nodup_append]
        refine ⟨hs, by simp, fun a ha b hb => ?_⟩
        rw [List.mem_singleton] at hb
        subst hb
        exact fun z => h (z ▸ ha)
    obtain ⟨h1, h2⟩ := ih _ hn.1
    refine ⟨h1, fun c => ?_⟩
    rw [h2, hn.2, List.mem_cons]
    constructor
    · rintro ((h | h) | h)
      · exact .inl h
      · exact .inr (.inl h)
      · exact .inr (.inr h)
    · rintro (h | h | h)
      · exact .inl (.inl h)
      · exact .inl (.inr h)
      · exact .inr h
theorem kn_mem {T : List (List Int)} {c : List Int} : c ∈ (m_known_by T).ks ↔ c ∈ T := by
  rw [kn_fold, (fold_addK T [] List.nodup_nil).2]
  simp
theorem kn_nodup (T : List (List Int)) : (m_known_by T).ks.Nodup := by
  rw [kn_fold]
  exact (fold_addK T [] List.nodup_nil).1
theorem inB_kn (T : List (List Int)) (c : List Int) : inB c (m_known_by T).ks = inB c T := by
  cases h : inB c T with
  | true => rw [inB_t] at h ⊢; exact kn_mem.mpr h
  | false => rw [inB_f] at h ⊢; exact fun z => h (kn_mem.mp z)
/-! ### the missing exchange -/
def canX (T : List (List Int)) (one other : List Int) (t : Int) : Bool := one.any fun out => !inB out other && inB (m_exchanged one out t) T
theorem find_any {α : Type} {p : α → Bool} : ∀ xs : List α, orK (xs.findSome? (fun x => if p x = true then some true else none)) false = xs.any p
  | [] => rfl
  | x :: xs => by
    rw [List.findSome?_cons, List.any_cons]
    cases h : p x with
    | true => rfl
    | false => exact (find_any xs).trans (Bool.false_or _).symm
theorem can_eq (T : List (List Int)) (one other : List Int) (t : Int) : m__law_can T one other t = canX T one other t := by
  unfold m__law_can canX
  rw [← find_any]
  exact forC_or (fun out => if ((!inB out other) && (inB (m_exchanged one out t) T)) = true then some true else none) fun x k => ite_or
theorem canX_t {T : List (List Int)} {one other : List Int} {t : Int} : canX T one other t = true ↔ ∃ out ∈ one, out ∉ other ∧ m_exchanged one out t ∈ T := by
  unfold canX
  rw [List.any_eq_true]
  simp only [Bool.and_eq_true, Bool.not_eq_true', inB_f, inB_t]
theorem outs_kn (T : List (List Int)) (one : List Int) (t : Int) : m_outs_of (m_known_by T) one t = one.filter fun out => inB (m_exchanged one out t) T := by
  unfold m_outs_of
  refine List.filter_congr fun out _ => ?_
  rw [inB_kn]
theorem outs_can (T : List (List Int)) (one other : List Int) (t : Int) : (!((m_outs_of (m_known_by T) one t).filter fun out => !inB out other).isEmpty) = m__law_can T one other t := by
  rw [outs_kn, can_eq]
  cases h : canX T one other t with
  | true =>
    obtain ⟨out, ho, hn, hm⟩ := canX_t.mp h
    have hin : out ∈ (one.filter fun out => inB (m_exchanged one out t) T).filter fun out => !inB out other := by
      rw [List.mem_filter, List.mem_filter]
      exact ⟨⟨ho, by rw [inB_t]; exact hm⟩, by rw [Bool.not_eq_true', inB_f]; exact hn⟩
    cases hl : (one.filter fun out => inB (m_exchanged one out t) T).filter fun out => !inB out other with
    | nil => rw [hl] at hin; cases hin
    | cons a l => rfl
  | false =>
    cases hl : (one.filter fun out => inB (m_exchanged one out t) T).filter fun out => !inB out other with
    | nil => rfl
    | cons a l =>
      have ha : a ∈ (one.filter fun out => inB (m_exchanged one out t) T).filter fun out => !inB out other := by rw [hl]; exact List.mem_cons_self
      rw [List.mem_filter, List.mem_filter] at ha
      have := canX_t.mpr ⟨a, ha.1.1, by have := ha.2; rwa [Bool.not_eq_true', inB_f] at this, by have := ha.1.2; rwa [inB_t] at this⟩
      rw [h] at this
      cases this
theorem fault_eq (c : Int) (T : List (List Int)) : m_fault c T = m__law_fault c T := by
  unfold m_fault m__law_fault
  simp only [bnd, outs_can]
/-- the exchange property -/
def ExOk (c : Int) (T : List (List Int)) : Prop := ∀ one ∈ T, ∀ t, 0 ≤ t → t < c → t ∉ one → ∀ other ∈ T, t ∈ other → ∃ out ∈ one, out ∉ other ∧ m_exchanged one out t ∈ T
theorem fault_none {c : Int} {T : List (List Int)} : m__law_fault c T = none ↔ ExOk c T := by
  have e : m__law_fault c T = orK (T.findSome? (fun one => (rng 0 c).findSome? fun t => if (!inB t one) = true then T.findSome? (fun other => if (inB t other && !(m__law_can T one other t)) = true then some (some (Tri.mk one other t)) else none) else none)) none := by
    unfold m__law_fault
    refine forC_or _ fun one k => forC_or _ fun t k2 => ?_
    cases h : (!inB t one) with
    | false => rfl
    | true => exact forC_or _ fun other k3 => ite_or
  cases hf : T.findSome? (fun one => (rng 0 c).findSome? fun t => if (!inB t one) = true then T.findSome? (fun other => if (inB t other && !(m__law_can T one other t)) = true then some (some (Tri.mk one other t)) else none) else none) with
  | some r =>
    rw [hf] at e
    obtain ⟨one, ho, h1⟩ := List.exists_of_findSome?_eq_some hf
    obtain ⟨t, ht, h2⟩ := List.exists_of_findSome?_eq_some h1
    split at h2
    · rename_i hn
      obtain ⟨other, hoth, h3⟩ := List.exists_of_findSome?_eq_some h2
      split at h3
      · rename_i hc
        cases h3
        rw [e]
        refine ⟨(fun z => by cases z), fun hx => ?_⟩
        simp only [Bool.and_eq_true, inB_t, Bool.not_eq_true', can_eq] at hc hn
        rw [inB_f] at hn
        have := canX_t.mpr (hx one ho t (rng_mem.mp ht).1 (rng_mem.mp ht).2 hn other hoth hc.1)
        rw [this] at hc
        cases hc.2
      · cases h3
    · cases h2
  | none =>
    rw [hf] at e
    refine ⟨fun _ => ?_, fun _ => e⟩
    intro one ho t h0 h1 hn other hoth hto
    rw [List.findSome?_eq_none_iff] at hf
    have g1 := hf one ho
    rw [List.findSome?_eq_none_iff] at g1
    have g2 := g1 t (rng_mem.mpr ⟨h0, h1⟩)
    rw [if_pos (by rw [Bool.not_eq_true', inB_f]; exact hn), List.findSome?_eq_none_iff] at g2
    have g3 := g2 other hoth
    rw [← canX_t, ← can_eq]
    cases hc : m__law_can T one other t with
    | true => rfl
    | false =>
      rw [hc, show inB t other = true by rw [inB_t]; exact hto] at g3
      simp at g3

/-! ### tables of choices -/
theorem srt_self {xs : List Int} (h : xs.Pairwise (· < ·)) : srt xs = xs := (srt_the (List.Perm.refl _) (h.imp fun h => Int.le_of_lt h)).symm
theorem Ris.nd {c : Int} {r : List Int} (h : Ris c r) : r.Nodup := h.1.imp fun h => by omega
theorem Ris.sure {c : Int} {r : List Int} (h : Ris c r) : SureOk c r := ⟨h.2, h.nd⟩
theorem srt_mem {xs : List Int} {y : Int} : y ∈ srt xs ↔ y ∈ xs := (srt_perm xs).mem_iff
theorem srt_ris {c : Int} {xs : List Int} (h : SureOk c xs) : Ris c (srt xs) := by
  refine ⟨?_, fun t ht => h.1 t (srt_mem.mp ht)⟩
  have h1 := srt_up xs
  have h2 : (srt xs).Nodup := (srt_perm xs).nodup_iff.mpr h.2
  exact (h1.and h2).imp fun {a b} ⟨h, n⟩ => by omega
theorem exch_mem {one : List Int} {out t y : Int} : y ∈ m_exchanged one out t ↔ (y ∈ one ∧ y ≠ out) ∨ y = t := by
  unfold m_exchanged
  rw [srt_mem, List.mem_append, List.mem_filter, List.mem_singleton]
  simp
theorem filt_len {xs : List Int} (h : xs.Nodup) {o : Int} (ho : o ∈ xs) : (xs.filter fun y => !decide (y = o)).length + 1 = xs.length := by
  induction xs with
  | nil => cases ho
  | cons x xs ih =>
    rw [List.nodup_cons] at h
    by_cases q : x = o
    · subst q
      have : xs.filter (fun y => !decide (y = x)) = xs := List.filter_eq_self.mpr fun y hy => by
        have : y ≠ x := fun z => h.1 (z ▸ hy)
        simp [this]
      rw [List.filter_cons, if_neg (by simp), this, List.length_cons]
    · rw [List.filter_cons, if_pos (by simp [q]), List.length_cons, List.length_cons]
      rcases List.mem_cons.mp ho with e | e
      · exact absurd e.symm q
      · have := ih h.2 e
        omega
theorem exch_len {one : List Int} {out t : Int} (h : one.Nodup) (ho : out ∈ one) : (m_exchanged one out t).length = one.length := by
  unfold m_exchanged
  rw [srt_len, List.length_append, List.length_singleton, filt_len h ho]
theorem exch_ris {c : Int} {one : List Int} {out t : Int} (h : Ris c one) (ht : 0 ≤ t ∧ t < c) (hn : t ∉ one) : Ris c (m_exchanged one out t) := by
  unfold m_exchanged
  refine srt_ris ⟨fun y hy => ?_, ?_⟩
  · rcases List.mem_append.mp hy with q | q
    · exact h.2 y (List.mem_filter.mp q).1
    · rw [List.mem_singleton.mp q]
      exact ht
  · rw [List.nodup_append]
    refine ⟨h.nd.filter _, by simp, fun a ha b hb => ?_⟩
    rw [List.mem_singleton] at hb
    subst hb
    exact fun z => hn (z ▸ (List.mem_filter.mp ha).1)
theorem ris_ext {c : Int} {a b : List Int} (ha : Ris c a) (hb : Ris c b) (h : ∀ t, t ∈ a ↔ t ∈ b) : a = b := by
  have p : a.Perm b := (List.perm_ext_iff_of_nodup ha.nd hb.nd).mpr h
  have h1 : a = srt b := srt_the p (ha.1.imp fun h => Int.le_of_lt h)
  rw [h1, srt_self hb.1]
theorem sub_len : ∀ {a b : List Int}, a.Nodup → (∀ t ∈ a, t ∈ b) → a.length ≤ b.length
  | [], _, _, _ => Nat.zero_le _
  | x :: xs, b, ha, h => by
    rw [List.nodup_cons] at ha
    have hx := h x List.mem_cons_self
    have := sub_len (b := b.erase x) ha.2 fun t ht => (List.mem_erase_of_ne fun z => ha.1 (by rw [← z]; exact ht)).mpr (h t (List.mem_cons_of_mem _ ht))
    rw [List.length_erase_of_mem hx] at this
    have := List.length_pos_of_mem hx
    rw [List.length_cons]
    omega
/-- all choices have as many things -/
theorem rank_eq {c : Int} {T : List (List Int)} (hR : ∀ r ∈ T, Ris c r) (hx : ExOk c T) : ∀ (n : Nat) (one other : List Int), one ∈ T → other ∈ T → (other.filter fun t => !inB t one).length ≤ n → one.length = other.length := by
  intro n
  induction n with
  | zero =>
    intro one other h1 h2 hl
    have hsub : ∀ t ∈ other, t ∈ one := fun t ht => by
      cases hb : inB t one with
      | true => exact inB_t.mp hb
      | false =>
        have : t ∈ other.filter fun t => !inB t one := List.mem_filter.mpr ⟨ht, by simp [hb]⟩
        have := List.length_pos_of_mem this
        omega
    have hsub2 : ∀ t ∈ one, t ∈ other := fun t ht => by
      cases hb : inB t other with
      | true => exact inB_t.mp hb
      | false =>
        obtain ⟨out, ho, hn, _⟩ := hx other h2 t ((hR one h1).2 t ht).1 ((hR one h1).2 t ht).2 (inB_f.mp hb) one h1 ht
        exact absurd (hsub out ho) hn
    exact Nat.le_antisymm (sub_len (hR one h1).nd hsub2) (sub_len (hR other h2).nd hsub)
  | succ n ih =>
    intro one other h1 h2 hl
    by_cases hz : (other.filter fun t => !inB t one).length ≤ n
    · exact ih one other h1 h2 hz
    · cases hf : other.filter fun t => !inB t one with
      | nil => rw [hf] at hz; simp at hz
      | cons x xs =>
        have hxm : x ∈ other.filter fun t => !inB t one := by rw [hf]; exact List.mem_cons_self
        obtain ⟨hxo, hxn⟩ := List.mem_filter.mp hxm
        have hxn : x ∉ one := by
          simpa [inB_f] using hxn
        obtain ⟨out, ho, hn, hm⟩ := hx one h1 x ((hR other h2).2 x hxo).1 ((hR other h2).2 x hxo).2 hxn other h2 hxo
        rw [← exch_len (t := x) (hR one h1).nd ho]
        refine ih _ other hm h2 ?_
        have hs : (other.filter fun t => !inB t (m_exchanged one out x)).length < (other.filter fun t => !inB t one).length := by
          have hsl : (other.filter fun t => !inB t (m_exchanged one out x)) = (other.filter fun t => !inB t one).filter fun t => !decide (t = x) := by
            rw [List.filter_filter]
            refine List.filter_congr fun t ht => ?_
            have : inB t (m_exchanged one out x) = (inB t one || decide (t = x)) := by
              cases hb : inB t (m_exchanged one out x) with
              | true =>
                rw [inB_t, exch_mem] at hb
                rcases hb with hb | hb
                · simp [inB_t.mpr hb.1]
                · simp [hb]
              | false =>
                rw [inB_f, exch_mem] at hb
                have hne : ¬ t = x := fun z => hb (.inr z)
                have hno : t ∉ one := fun z => hb (.inl ⟨z, fun w => hn (w ▸ ht)⟩)
                simp [inB_f.mpr hno, hne]
            rw [this]
            simp [Bool.and_comm]
          rw [hsl]
          exact List.length_filter_lt_length_iff_exists.mpr ⟨x, hxm, by simp⟩
        omega
theorem rank_same {c : Int} {T : List (List Int)} (hR : ∀ r ∈ T, Ris c r) (hx : ExOk c T) {one other : List Int} (h1 : one ∈ T) (h2 : other ∈ T) : one.length = other.length := rank_eq hR hx _ one other h1 h2 (Nat.le_refl _)
/-- a table that tells a rule -/
structure Tab (c : Int) (T : List (List Int)) : Prop where
  c0 : 0 ≤ c
  c1 : c ≤ 99
  ris : ∀ r ∈ T, Ris c r
  ne : T ≠ []
  ex : ExOk c T
def fullOf (T : List (List Int)) : List (List Int) := rowsT (srtT ((m_known_by T).ks.map Tup.mk))
theorem full_mem {T : List (List Int)} {x : List Int} : x ∈ fullOf T ↔ x ∈ T := by
  unfold fullOf rowsT srtT
  rw [List.mem_map]
  constructor
  · rintro ⟨t, ht, rfl⟩
    rw [List.mem_mergeSort, List.mem_map] at ht
    obtain ⟨k, hk, rfl⟩ := ht
    exact kn_mem.mp hk
  · intro h
    exact ⟨⟨x⟩, by rw [List.mem_mergeSort, List.mem_map]; exact ⟨x, kn_mem.mpr h, rfl⟩, rfl⟩
theorem ex_full {c : Int} {T : List (List Int)} (h : ExOk c T) : ExOk c (fullOf T) := fun one ho t h0 h1 hn other hoth hto => by
  obtain ⟨out, a, b, m⟩ := h one (full_mem.mp ho) t h0 h1 hn other (full_mem.mp hoth) hto
  exact ⟨out, a, b, full_mem.mpr m⟩
theorem okv_row {c : Int} {r : List Int} (h : Ris c r) : okv (m_sure_things c r) = r := by
  rw [sure_ok h.sure]
  exact srt_self h.1
theorem rows_okv {c : Int} {T : List (List Int)} (h : ∀ r ∈ T, Ris c r) : (T.map fun r => okv (m_sure_things c r)) = T := by
  conv => rhs; rw [← List.map_id T]
  exact List.map_congr_left fun r hr => okv_row (h r hr)
def ruleOf (c : Int) (T : List (List Int)) : RuleD := ⟨c, fullOf T, ((gi (fullOf T) 0).length : Int)⟩
theorem Tab.fne {c : Int} {T : List (List Int)} (h : Tab c T) : fullOf T ≠ [] := fun z => by
  cases hT : T with
  | nil => exact h.ne hT
  | cons a l =>
    have : a ∈ fullOf T := full_mem.mpr (by rw [hT]; exact List.mem_cons_self)
    rw [z] at this
    cases this
theorem Tab.rule {c : Int} {T : List (List Int)} (h : Tab c T) : m_Rule c T = .ok (ruleOf c T) := by
  unfold m_Rule
  rw [if_neg (by have := h.ne; simpa using this), rows_okv h.ris]
  show (if (!(m_fault c (fullOf T)).isNone) = true then .error .exchange else .ok (ruleOf c T) : Except Exn RuleD) = _
  rw [fault_eq, fault_none.mpr (ex_full h.ex)]
  rfl
theorem Tab.same {c : Int} {T : List (List Int)} (h : Tab c T) {a b : List Int} (ha : a ∈ T) (hb : b ∈ T) : a.length = b.length := rank_same h.ris h.ex ha hb
theorem Tab.pre {c : Int} {T : List (List Int)} (h : Tab c T) : pre_Rule c T := by
  unfold pre_Rule
  rw [rows_okv h.ris]
  refine ⟨h.c0, by have := h.c1; omega, fun r hr => ⟨_, sure_ok (h.ris r hr).sure⟩, fun r hr => ?_, ?_, fun _ => h.fne⟩
  · have := (h.ris r (full_mem.mp hr)).len
    have := h.c1
    omega
  · by_cases hall : ∀ r ∈ (m_known_by T).ks, r ≠ []
    · exact .inr hall
    · refine .inl ?_
      have : ∃ r ∈ (m_known_by T).ks, r = [] := by
        apply Classical.byContradiction
        intro hcon
        exact hall fun r hr hz => hcon ⟨r, hr, hz⟩
      obtain ⟨r, hr, rfl⟩ := this
      have he : ∀ x ∈ (m_known_by T).ks, x = [] := fun x hx => List.length_eq_zero_iff.mp (h.same (kn_mem.mp hx) (kn_mem.mp hr))
      have hnd := kn_nodup T
      cases hk : (m_known_by T).ks with
      | nil => simp
      | cons a l =>
        cases l with
        | nil => simp
        | cons b l =>
          rw [hk] at he hnd
          rw [List.nodup_cons] at hnd
          have ha := he a List.mem_cons_self
          have hb := he b (List.mem_cons_of_mem _ List.mem_cons_self)
          exact absurd (by rw [ha, hb]; exact List.mem_cons_self) hnd.1
theorem Tab.isok {c : Int} {T : List (List Int)} (h : Tab c T) : isOk (m_Rule c T) := ⟨_, h.rule⟩
theorem Tab.okv {c : Int} {T : List (List Int)} (h : Tab c T) : MP.okv (m_Rule c T) = ruleOf c T := by rw [h.rule]; rfl
theorem Tab.one {c : Int} {r : List Int} (h0 : 0 ≤ c) (h1 : c ≤ 99) (h : Ris c r) : Tab c [r] := ⟨h0, h1, fun x hx => by rw [List.mem_singleton.mp hx]; exact h, by simp, fun one ho t _ _ hn other hoth hto => by
  rw [List.mem_singleton] at ho hoth
  rw [hoth] at hto
  rw [ho] at hn
  exact absurd hto hn⟩
theorem held_spec (ns : Scr) : Tab (m__law_held ns).1 (m__law_held ns).2 := by
  unfold m__law_held
  have ht := table_spec ns
  refine bnd_T (P := fun p : Int × List (List Int) => Tab p.1 p.2) fun made e => ?_
  rw [← e] at ht
  refine ite_P (P := fun p : Int × List (List Int) => Tab p.1 p.2) (fun _ => ?_) fun hb => ?_
  · exact Tab.one ht.1 ht.2.1 (rng_ris (Int.le_refl _)).filter
  · simp only [Bool.or_eq_false_iff, decide_eq_false_iff_not, Bool.not_eq_false'] at hb
    refine ⟨ht.1, ht.2.1, ht.2.2, hb.1, fault_none.mp ?_⟩
    cases hf : m__law_fault made.1 made.2 with
    | none => rfl
    | some x => rw [hf] at hb; cases hb.2

/-! ### when the rule's methods refuse -/
theorem bindX_thing {α β : Type} {r : Except Exn α} {k : α → Except Exn β} {x : Exn} (h : bindX r k = .error x) (hk : ∀ d, ∃ b, k d = .ok b) : r = .error x := by
  cases r with
  | ok d =>
    obtain ⟨b, hb⟩ := hk d
    have h : k d = .error x := h
    rw [hb] at h
    cases h
  | error y =>
    have h : (Except.error y : Except Exn β) = .error x := h
    cases h
    rfl
theorem together_err {r : RuleD} {xs : List Int} {x : Exn} (h : m_together r xs = .error x) : x = .thing := (sure_err (bindX_thing h fun d => ⟨_, rfl⟩)).1
theorem rank_err {r : RuleD} {xs : List Int} {x : Exn} (h : m_rank r xs = .error x) : x = .thing := (sure_err (bindX_thing h fun d => ⟨_, rfl⟩)).1
theorem together_val {r : RuleD} {xs : List Int} (h : SureOk r.count xs) : m_together r xs = .ok (r.full.any fun c => xs.all fun t => inB t c) := by
  unfold m_together
  rw [sure_ok h]
  show (Except.ok _ : Except Exn Bool) = _
  congr 1
  rw [List.any_map]
  congr 1
  funext c
  show m_has_all c (srt xs) = _
  unfold m_has_all
  rw [List.all_map]
  have e : ∀ ys : List Int, (ys.all (id ∘ fun t => inB t c)) = ys.all fun t => inB t c := fun ys => rfl
  rw [e]
  cases hb : xs.all fun t => inB t c with
  | true =>
    rw [List.all_eq_true] at hb ⊢
    exact fun t ht => hb t (srt_mem.mp ht)
  | false =>
    rw [List.all_eq_false] at hb ⊢
    obtain ⟨t, ht, hn⟩ := hb
    exact ⟨t, srt_mem.mpr ht, hn⟩
theorem inB_srt (xs : List Int) (t : Int) : inB t (srt xs) = inB t xs := by
  cases h : inB t xs with
  | true => rw [inB_t] at h ⊢; exact srt_mem.mpr h
  | false => rw [inB_f] at h ⊢; exact fun z => h (srt_mem.mp z)
theorem rank_val {r : RuleD} {xs : List Int} (h : SureOk r.count xs) : m_rank r xs = .ok (lmax (r.full.map fun c => ((c.filter fun t => inB t xs).length : Int))) := by
  unfold m_rank
  rw [sure_ok h]
  show (Except.ok _ : Except Exn Int) = _
  simp only [inB_srt]
theorem together_ok {r : RuleD} {xs : List Int} (h : SureOk r.count xs) : isOk (m_together r xs) := ⟨_, together_val h⟩
theorem rank_ok {r : RuleD} {xs : List Int} (h : SureOk r.count xs) : isOk (m_rank r xs) := ⟨_, rank_val h⟩
theorem together_no {r : RuleD} {xs : List Int} (h : ¬ SureOk r.count xs) : m_together r xs = .error .thing := by
  unfold m_together
  rw [sure_no h]
  rfl
theorem rank_no {r : RuleD} {xs : List Int} (h : ¬ SureOk r.count xs) : m_rank r xs = .error .thing := by
  unfold m_rank
  rw [sure_no h]
  rfl
theorem sure_le {c : Int} {xs : List Int} (h : SureOk c xs) (hc : c ≤ 99) : xs.length ≤ 99 := by
  have := (srt_ris h).len
  rw [srt_len] at this
  omega
theorem any_ext {α : Type} {p : α → Bool} {xs ys : List α} (h : ∀ x, x ∈ xs ↔ x ∈ ys) : xs.any p = ys.any p := by
  cases hb : ys.any p with
  | true =>
    rw [List.any_eq_true] at hb ⊢
    obtain ⟨x, hx, hp⟩ := hb
    exact ⟨x, (h x).mpr hx, hp⟩
  | false =>
    rw [List.any_eq_false] at hb ⊢
    exact fun x hx => hb x ((h x).mp hx)
theorem lmax_ext {xs ys : List Int} (hx : xs ≠ []) (h : ∀ x, x ∈ xs ↔ x ∈ ys) : lmax xs = lmax ys := by
  have hy : ys ≠ [] := fun z => by
    cases xs with
    | nil => exact hx rfl
    | cons a l =>
      have := (h a).mp List.mem_cons_self
      rw [z] at this
      cases this
  exact Int.le_antisymm (le_lmax ((h _).mp (lmax_mem hx))) (le_lmax ((h _).mpr (lmax_mem hy)))
/-- the most, kept as one goes -/
theorem max_fold {α : Type} (f : α → Int) : ∀ (T : List α) (a : Int), (∀ x ∈ T, 0 ≤ f x) → 0 ≤ a → T.foldl (fun b x => if f x > b then f x else b) a = lmax (a :: T.map f) := by
  intro T
  induction T with
  | nil =>
    intro a _ _
    show a = lmax [a]
    have := lmax_mem (xs := [a]) (by simp)
    rw [List.mem_singleton] at this
    exact this.symm
  | cons x T ih =>
    intro a h0 ha
    rw [List.foldl_cons, ih _ (fun y hy => h0 y (List.mem_cons_of_mem _ hy)) (by have := h0 x List.mem_cons_self; split <;> omega)]
    refine Int.le_antisymm (le_lmax ?_) ?_
    · have hm := lmax_mem (xs := (if f x > a then f x else a) :: T.map f) (by simp)
      rcases List.mem_cons.mp hm with e | e
      · rw [e]
        split <;> simp
      · exact List.mem_cons_of_mem _ (List.mem_cons_of_mem _ e)
    · have hm := lmax_mem (xs := a :: (x :: T).map f) (by simp)
      have h1 : (if f x > a then f x else a) ≤ lmax ((if f x > a then f x else a) :: T.map f) := le_lmax List.mem_cons_self
      have h2 : a ≤ (if f x > a then f x else a) := by split <;> omega
      have h3 : f x ≤ (if f x > a then f x else a) := by split <;> omega
      rw [List.map_cons] at hm
      rcases List.mem_cons.mp hm with e | e
      · rw [List.map_cons, e]
        exact Int.le_trans h2 h1
      · rcases List.mem_cons.mp e with e | e
        · rw [List.map_cons, e]
          exact Int.le_trans h3 h1
        · exact le_lmax (List.mem_cons_of_mem _ e)
theorem kept_turn {xs s s' : List Int} {i : Nat} {x : Int} (h : s.Sublist (xs.take i)) (hx : xs[i]? = some x) (e : s' = s ∨ s' = s ++ [x]) : s'.Sublist (xs.take (i + 1)) := by
  have ht : xs.take (i + 1) = xs.take i ++ [x] := by
    rw [List.take_add_one, hx]
    rfl
  rw [ht]
  rcases e with rfl | rfl
  · exact h.trans (List.sublist_append_left _ _)
  · exact h.append (List.Sublist.refl _)
theorem kept_sure {ws s : List Int} {i : Nat} {x c : Int} (h : s.Sublist ((ordL ws).take i)) (hx : (ordL ws)[i]? = some x) (hc : (ws.length : Int) = c) : SureOk c (s ++ [x]) := by
  have h1 : (s ++ [x]).Sublist (ordL ws) := (kept_turn h hx (.inr rfl)).trans (List.take_sublist _ _)
  have ho := ordL_ok ws
  refine ⟨fun t ht => ?_, ho.nodup.sublist h1⟩
  have := ho.mem.mp (h1.mem ht)
  omega
theorem kept_len {ws s : List Int} {i : Nat} (h : s.Sublist ((ordL ws).take i)) : s.length ≤ ws.length := by
  have := h.length_le
  rw [List.length_take, (ordL_ok ws).len] at this
  omega
theorem cut_drop {α : Type} {xs : List α} {n : Nat} (h : n ≤ xs.length) : cut xs (some (n : Int)) none = xs.drop n := by
  unfold cut
  rw [HT.sIx_none, HT.sIx_nat, Nat.min_eq_left h, List.take_of_length_le (by rw [List.length_drop]; omega)]

/-! ### what is picked -/
theorem forC_foldI {α S R : Type} {body : α → S → (S → R) → R} {f : S → α → S} {L : List α} (I : Nat → S → Prop) (h : ∀ i x s kk, L[i]? = some x → I i s → body x s kk = kk (f s x) ∧ I (i + 1) (f s x)) {k : S → R} : ∀ (xs pre : List α) (s : S), L = pre ++ xs → I pre.length s → forC body xs s k = k (xs.foldl f s)
  | [], _, _, _, _ => rfl
  | x :: xs, pre, s, hL, hI => by
    have hx : L[pre.length]? = some x := by rw [hL, List.getElem?_append_right (Nat.le_refl _), Nat.sub_self]; rfl
    obtain ⟨h1, h2⟩ := h pre.length x s (fun s' => forC body xs s' k) hx hI
    show body x s _ = _
    rw [h1]
    have := forC_foldI I h (k := k) xs (pre ++ [x]) (f s x) (by rw [hL, List.append_assoc]; rfl) (by rw [List.length_append, List.length_singleton]; exact h2)
    rw [this]
    rfl
def isIn (T : List (List Int)) (xs : List Int) : Bool := T.any fun c => xs.all fun t => inB t c
theorem isIn_t {T : List (List Int)} {xs : List Int} : isIn T xs = true ↔ ∃ c ∈ T, ∀ t ∈ xs, t ∈ c := by
  unfold isIn
  rw [List.any_eq_true]
  simp only [List.all_eq_true, inB_t]
theorem isIn_ext {T U : List (List Int)} (h : ∀ x, x ∈ T ↔ x ∈ U) (xs : List Int) : isIn T xs = isIn U xs := any_ext h
def keptF (T : List (List Int)) (order : List Int) : List Int := order.foldl (fun s t => if isIn T (s ++ [t]) = true then s ++ [t] else s) []
theorem picked_err {r : RuleD} {ws : List Int} {x : Exn} (h : m_picked r ws = .error x) : x = .weights := by
  unfold m_picked at h
  by_cases hc : (ws.length : Int) = r.count
  · rw [if_neg (by simp [hc])] at h
    have : ∀ y : Except Exn (List Int), (∃ d, y = .ok d) → y ≠ .error x := fun y ⟨d, hd⟩ z => by
      rw [hd] at z
      cases z
    refine absurd h (this _ ?_)
    refine bnd_P (P := fun y : Except Exn (List Int) => ∃ d, y = .ok d) ?_
    exact forC_inv (P := fun y : Except Exn (List Int) => ∃ d, y = .ok d) (fun _ _ => True) trivial (fun i x s kk hx hI k => ite_P (P := fun y : Except Exn (List Int) => ∃ d, y = .ok d) (fun _ => bnd_P (P := fun y : Except Exn (List Int) => ∃ d, y = .ok d) (k _ trivial)) fun _ => k _ trivial) fun s hI => ⟨_, rfl⟩
  · rw [if_pos (by simp [hc])] at h
    cases h
    rfl
theorem picked_no {r : RuleD} {ws : List Int} (h : ¬ (ws.length : Int) = r.count) : m_picked r ws = .error .weights := by
  unfold m_picked
  rw [if_pos (by simp [h])]
theorem picked_val {r : RuleD} {ws : List Int} (h : (ws.length : Int) = r.count) : m_picked r ws = .ok (srt (keptF r.full (ordL ws))) := by
  unfold m_picked
  rw [if_neg (by simp [h])]
  show forC _ (ordL ws) [] _ = _
  exact forC_foldI (L := ordL ws) (f := fun s t => if isIn r.full (s ++ [t]) = true then s ++ [t] else s) (fun i s => s.Sublist ((ordL ws).take i)) (fun i x s kk hx hI => by
    have hS : SureOk r.count (s ++ [x]) := kept_sure hI hx h
    rw [together_val hS]
    show (if isIn r.full (s ++ [x]) = true then kk (s ++ [x]) else kk s) = _ ∧ _
    cases hb : isIn r.full (s ++ [x]) with
    | true => exact ⟨rfl, kept_turn hI hx (.inr rfl)⟩
    | false => exact ⟨rfl, kept_turn hI hx (.inl rfl)⟩) (ordL ws) [] [] rfl (List.nil_sublist _)
theorem kept_ext {T U : List (List Int)} (h : ∀ x, x ∈ T ↔ x ∈ U) (o : List Int) : keptF T o = keptF U o := by
  unfold keptF
  simp only [isIn_ext h]
theorem picked_of {c : Int} {T : List (List Int)} {ws : List Int} (h : (ws.length : Int) = c) : m_picked (ruleOf c T) ws = .ok (srt (keptF T (ordL ws))) := by
  rw [picked_val (r := ruleOf c T) h]
  congr 2
  exact kept_ext (fun x => full_mem) _
theorem picked_ok {r : RuleD} {ws : List Int} (h : (ws.length : Int) = r.count) : isOk (m_picked r ws) := ⟨_, picked_val h⟩
theorem keptF_sub (T : List (List Int)) (o : List Int) : (keptF T o).Sublist o := by
  have : ∀ (xs pre s : List Int), s.Sublist pre → (xs.foldl (fun s t => if isIn T (s ++ [t]) = true then s ++ [t] else s) s).Sublist (pre ++ xs) := by
    intro xs
    induction xs with
    | nil => intro pre s h; rw [List.append_nil]; exact h
    | cons x xs ih =>
      intro pre s h
      rw [List.foldl_cons]
      have := ih (pre ++ [x]) (if isIn T (s ++ [x]) = true then s ++ [x] else s) (by
        split
        · exact h.append (List.Sublist.refl _)
        · exact h.trans (List.sublist_append_left _ _))
      rw [List.append_assoc] at this
      exact this
  exact this o [] [] (List.nil_sublist _)
theorem picked_len {r : RuleD} {ws xs : List Int} (h : (ws.length : Int) = r.count) (e : xs = okv (m_picked r ws)) : xs.length ≤ ws.length := by
  rw [e, picked_val h]
  show (srt _).length ≤ _
  rw [srt_len]
  have := (keptF_sub r.full (ordL ws)).length_le
  rw [(ordL_ok ws).len] at this
  exact this
/-! ### the law's own order -/
theorem filt_split {p : Int → Bool} : ∀ {s : List Int}, s.Pairwise (fun a b => p b = true → p a = true) → (∀ t ∈ s.take (s.filter p).length, p t = true) ∧ ∀ t ∈ s.drop (s.filter p).length, p t = false
  | [], _ => ⟨(fun _ h => by simp at h), (fun _ h => by simp at h)⟩
  | a :: l, h => by
    rw [List.pairwise_cons] at h
    obtain ⟨h1, h2⟩ := filt_split h.2
    cases ha : p a with
    | true =>
      rw [List.filter_cons, if_pos ha, List.length_cons, List.take_succ_cons, List.drop_succ_cons]
      refine ⟨fun t ht => ?_, h2⟩
      rcases List.mem_cons.mp ht with rfl | ht
      · exact ha
      · exact h1 t ht
    | false =>
      have hall : ∀ b ∈ l, p b = false := fun b hb => by
        cases hpb : p b with
        | false => rfl
        | true =>
          have := h.1 b hb hpb
          rw [ha] at this
          cases this
      have hf : l.filter p = [] := List.filter_eq_nil_iff.mpr fun b hb => by rw [hall b hb]; simp
      rw [List.filter_cons, if_neg (by rw [ha]; simp), hf, List.length_nil, List.take_zero, List.drop_zero]
      refine ⟨(fun _ h => nomatch h), fun t ht => ?_⟩
      rcases List.mem_cons.mp ht with rfl | ht
      · exact ha
      · exact hall t ht
def RankI (ws : List Int) (i : Nat) (s : List Int) : Prop := s.Perm (rng 0 (i : Int)) ∧ s.Pairwise fun a b => gi ws b < gi ws a ∨ (gi ws a = gi ws b ∧ a < b)
theorem rankI0 {ws : List Int} : RankI ws 0 [] := ⟨.nil, .nil⟩
theorem rng_snoc (i : Nat) : rng 0 ((i + 1 : Nat) : Int) = rng 0 (i : Int) ++ [(i : Int)] := by
  unfold rng
  have h1 : (((i + 1 : Nat) : Int) - 0).toNat = i + 1 := by omega
  have h2 : ((i : Int) - 0).toNat = i := by omega
  rw [h1, h2, List.range_succ, List.map_append]
  simp
theorem rankI1 {ws : List Int} {i n : Nat} {x pl : Int} {s s' : List Int} (h : RankI ws i s) (hx : x = 0 + (i : Int) ∧ i < n) (ep : pl = ((s.filter fun o => decide (gi ws x ≤ gi ws o)).length : Int)) (es : s' = insAt s pl x) : RankI ws (i + 1) s' := by
  obtain ⟨hp, hw⟩ := h
  have hxi : x = (i : Int) := by omega
  have hmem : ∀ t ∈ s, t < x := fun t ht => by
    have := rng_mem.mp (hp.mem_iff.mp ht)
    omega
  have hsp := filt_split (p := fun o => decide (gi ws x ≤ gi ws o)) (s := s) (hw.imp fun {a b} hab hb => by
    simp only [decide_eq_true_eq] at hb ⊢
    omega)
  have e1 : pl.toNat = (s.filter fun o => decide (gi ws x ≤ gi ws o)).length := by omega
  subst es
  refine ⟨(insAt_perm s pl x).trans ?_, ?_⟩
  · rw [rng_snoc, hxi]
    exact List.Perm.append_right _ hp
  · unfold insAt
    rw [e1]
    have hw2 := hw
    rw [← List.take_append_drop (s.filter fun o => decide (gi ws x ≤ gi ws o)).length s, List.pairwise_append] at hw2
    rw [List.append_assoc, List.pairwise_append]
    refine ⟨hw2.1, ?_, fun a ha b hb => ?_⟩
    · rw [List.singleton_append, List.pairwise_cons]
      refine ⟨fun b hb => .inl ?_, hw2.2.1⟩
      have := hsp.2 b hb
      simp only [decide_eq_false_iff_not] at this
      omega
    · rw [List.singleton_append] at hb
      rcases List.mem_cons.mp hb with rfl | hb
      · have h1 := hsp.1 a ha
        simp only [decide_eq_true_eq] at h1
        have h2 := hmem a (List.mem_of_mem_take ha)
        omega
      · exact hw2.2.2 a ha b hb
theorem ord_the {ws xs : List Int} (p : xs.Perm (rng 0 (ws.length : Int))) (h : xs.Pairwise fun a b => gi ws b < gi ws a ∨ (gi ws a = gi ws b ∧ a < b)) : xs = ordL ws := by
  have ho := ordL_ok ws
  exact List.Perm.eq_of_pairwise (le := fun a b => gi ws b < gi ws a ∨ (gi ws a = gi ws b ∧ a < b)) (fun a b _ _ h1 h2 => by omega) h ho.pw (p.trans ho.perm.symm)

/-! ### the best choice, and the way to it -/
def keptS (T : List (List Int)) (s : List Int) (t : Int) : List Int := if isIn T (s ++ [t]) = true then s ++ [t] else s
theorem keptF_fold (T : List (List Int)) (o : List Int) : keptF T o = o.foldl (keptS T) [] := rfl
theorem fold_more (T : List (List Int)) : ∀ (xs s : List Int), ∃ r, r.Sublist xs ∧ xs.foldl (keptS T) s = s ++ r
  | [], s => ⟨[], .slnil, (List.append_nil s).symm⟩
  | x :: xs, s => by
    obtain ⟨r, hr, e⟩ := fold_more T xs (keptS T s x)
    rw [List.foldl_cons, e]
    unfold keptS
    split
    · exact ⟨x :: r, hr.cons₂ x, by rw [List.append_assoc]; rfl⟩
    · exact ⟨r, hr.cons x, rfl⟩
/-- what was kept ahead of x, and behind it -/
theorem kept_split (T : List (List Int)) {o pre post : List Int} {x : Int} (e : o = pre ++ x :: post) : ∃ r, r.Sublist post ∧ keptF T o = keptS T (keptF T pre) x ++ r := by
  obtain ⟨r, hr, h⟩ := fold_more T post (keptS T (keptF T pre) x)
  refine ⟨r, hr, ?_⟩
  rw [e, keptF_fold, List.foldl_append, List.foldl_cons]
  exact h
theorem keptF_mem {T : List (List Int)} {o : List Int} {t : Int} (h : t ∈ keptF T o) : t ∈ o := (keptF_sub T o).mem h
theorem kept_ahead {T : List (List Int)} {o pre post : List Int} {x t : Int} (e : o = pre ++ x :: post) (h : t ∈ keptF T pre) : t ∈ keptF T o := by
  obtain ⟨r, _, hk⟩ := kept_split T e
  rw [hk]
  refine List.mem_append_left _ ?_
  unfold keptS
  split
  · exact List.mem_append_left _ h
  · exact h
theorem kept_iff {T : List (List Int)} {o pre post : List Int} {x : Int} (hn : o.Nodup) (e : o = pre ++ x :: post) : x ∈ keptF T o ↔ isIn T (keptF T pre ++ [x]) = true := by
  obtain ⟨r, hr, hk⟩ := kept_split T e
  rw [e, List.nodup_append, List.nodup_cons] at hn
  rw [hk]
  unfold keptS
  constructor
  · intro h
    split at h
    · assumption
    · exfalso
      rcases List.mem_append.mp h with q | q
      · exact hn.2.2 x (keptF_mem q) x List.mem_cons_self rfl
      · exact hn.2.1.1 (hr.mem q)
  · intro h
    rw [if_pos h]
    simp
theorem kept_isIn {T : List (List Int)} (hne : T ≠ []) (o : List Int) : isIn T (keptF T o) = true := by
  have : ∀ (xs s : List Int), isIn T s = true → isIn T (xs.foldl (keptS T) s) = true := by
    intro xs
    induction xs with
    | nil => exact fun s h => h
    | cons x xs ih =>
      intro s h
      rw [List.foldl_cons]
      refine ih _ ?_
      unfold keptS
      split
      · assumption
      · exact h
  refine this o [] ?_
  rw [isIn_t]
  cases T with
  | nil => exact absurd rfl hne
  | cons a l => exact ⟨a, List.mem_cons_self, fun _ h => nomatch h⟩
theorem kept_sureO {c : Int} {T : List (List Int)} {ws : List Int} (hl : (ws.length : Int) = c) : SureOk c (keptF T (ordL ws)) := by
  have ho := ordL_ok ws
  refine ⟨fun t ht => ?_, ho.nodup.sublist (keptF_sub T _)⟩
  have := ho.mem.mp (keptF_mem ht)
  omega
/-- what is picked is a full choice -/
theorem kept_full {c : Int} {T : List (List Int)} {ws : List Int} (hT : Tab c T) (hl : (ws.length : Int) = c) : srt (keptF T (ordL ws)) ∈ T := by
  obtain ⟨B, hB, hsub⟩ := isIn_t.mp (kept_isIn hT.ne (ordL ws))
  have ho := ordL_ok ws
  have e : srt (keptF T (ordL ws)) = B := ris_ext (srt_ris (kept_sureO hl)) (hT.ris B hB) fun t => by
    rw [srt_mem]
    refine ⟨hsub t, fun ht => ?_⟩
    have hb := (hT.ris B hB).2 t ht
    obtain ⟨pre, post, hs⟩ := List.append_of_mem (ho.mem.mpr ⟨hb.1, by omega⟩)
    rw [kept_iff ho.nodup hs, isIn_t]
    refine ⟨B, hB, fun u hu => ?_⟩
    rcases List.mem_append.mp hu with q | q
    · exact hsub u (kept_ahead hs q)
    · rw [List.mem_singleton.mp q]
      exact ht
  rw [e]
  exact hB
/-- a step of the way -/
structure StepOk (T : List (List Int)) (ws goal h : List Int) (out t : Int) : Prop where
  oi : out ∈ h
  on : out ∉ goal
  ti : t ∈ goal
  tn : t ∉ h
  w : gi ws out ≤ gi ws t
  m : m_exchanged h out t ∈ T
def walkS (T : List (List Int)) (ws goal : List Int) : List Int → List (Int × Int) → List Int → Prop
  | h, [], h' => h = h'
  | h, p :: r, h' => StepOk T ws goal h p.1 p.2 ∧ walkS T ws goal (m_exchanged h p.1 p.2) r h'
theorem walk_snoc {T : List (List Int)} {ws goal : List Int} {out t : Int} : ∀ {r : List (Int × Int)} {h h' : List Int}, walkS T ws goal h r h' → StepOk T ws goal h' out t → walkS T ws goal h (r ++ [(out, t)]) (m_exchanged h' out t)
  | [], h, h', e, s => by
    have e : h = h' := e
    subst e
    exact ⟨s, rfl⟩
  | p :: r, h, h', ⟨a, b⟩, s => ⟨a, walk_snoc b s⟩
def goers (T : List (List Int)) (goal h : List Int) (t : Int) : List Int := (h.filter fun out => inB (m_exchanged h out t) T).filter fun out => !inB out goal
theorem goers_mem {T : List (List Int)} {goal h : List Int} {t out : Int} : out ∈ goers T goal h t ↔ out ∈ h ∧ m_exchanged h out t ∈ T ∧ out ∉ goal := by
  unfold goers
  rw [List.mem_filter, List.mem_filter, inB_t, Bool.not_eq_true', inB_f]
  constructor
  · rintro ⟨⟨a, b⟩, c⟩; exact ⟨a, b, c⟩
  · rintro ⟨a, b, c⟩; exact ⟨⟨a, b⟩, c⟩
theorem goers_ne {c : Int} {T : List (List Int)} {goal h : List Int} {t : Int} (hT : Tab c T) (hg : goal ∈ T) (hh : h ∈ T) (ht : t ∈ goal) (hn : t ∉ h) : goers T goal h t ≠ [] := fun z => by
  have hb := (hT.ris goal hg).2 t ht
  obtain ⟨out, a, b, m⟩ := hT.ex h hh t hb.1 hb.2 hn goal hg ht
  have := goers_mem.mpr ⟨a, m, b⟩
  rw [z] at this
  cases this
theorem gi0_mem {xs : List Int} (h : xs ≠ []) : gi xs 0 ∈ xs := gi_mem ⟨by have := List.length_pos_iff.mpr h; omega, by have := List.length_pos_iff.mpr h; omega⟩
theorem way_step {c : Int} {T : List (List Int)} {ws h pre post : List Int} {t out : Int} (hT : Tab c T) (hl : (ws.length : Int) = c) (hh : h ∈ T) (e : ordL ws = pre ++ t :: post) (hpre : ∀ u ∈ pre, u ∈ srt (keptF T (ordL ws)) → u ∈ h)
    (ht : t ∈ srt (keptF T (ordL ws))) (hn : t ∉ h) (ho : out ∈ goers T (srt (keptF T (ordL ws))) h t) : StepOk T ws (srt (keptF T (ordL ws))) h out t := by
  obtain ⟨a, m, b⟩ := goers_mem.mp ho
  have hO := ordL_ok ws
  refine ⟨a, b, ht, hn, ?_, m⟩
  have hb := (hT.ris h hh).2 out a
  have hmem : out ∈ pre ++ t :: post := by
    rw [← e]
    exact hO.mem.mpr ⟨hb.1, by omega⟩
  have hpw := hO.pw
  rw [e, List.pairwise_append, List.pairwise_cons] at hpw
  rcases List.mem_append.mp hmem with q | q
  · exfalso
    obtain ⟨p1, p2, hp⟩ := List.append_of_mem q
    have e2 : ordL ws = p1 ++ out :: (p2 ++ t :: post) := by rw [e, hp, List.append_assoc]; rfl
    have hk : out ∉ keptF T (ordL ws) := fun z => b (srt_mem.mpr z)
    rw [kept_iff hO.nodup e2, isIn_t] at hk
    refine hk ⟨h, hh, fun u hu => ?_⟩
    rcases List.mem_append.mp hu with q2 | q2
    · refine hpre u ?_ (srt_mem.mpr (kept_ahead e2 q2))
      rw [hp]
      exact List.mem_append_left _ (keptF_mem q2)
    · rw [List.mem_singleton.mp q2]
      exact a
  · rcases List.mem_cons.mp q with z | z
    · exact absurd (z ▸ a) hn
    · have := hpw.2.1.1 out z
      omega
def stepF (T : List (List Int)) (goal : List Int) (s : List Int × List (Int × Int)) (t : Int) : List Int × List (Int × Int) :=
  if ((inB t goal) && (!inB t s.1)) = true then (m_exchanged s.1 (gi (goers T goal s.1 t) 0) t, s.2 ++ [(gi (goers T goal s.1 t) 0, t)]) else s
def WayI (T : List (List Int)) (ws goal start pre : List Int) (s : List Int × List (Int × Int)) : Prop := s.1 ∈ T ∧ (∀ u ∈ pre, u ∈ goal → u ∈ s.1) ∧ walkS T ws goal start s.2 s.1 ∧ s.2.length ≤ pre.length
theorem way_turn {c : Int} {T : List (List Int)} {ws start pre post : List Int} {t : Int} {s : List Int × List (Int × Int)} (hT : Tab c T) (hl : (ws.length : Int) = c) (e : ordL ws = pre ++ t :: post) (h : WayI T ws (srt (keptF T (ordL ws))) start pre s) : WayI T ws (srt (keptF T (ordL ws))) start (pre ++ [t]) (stepF T (srt (keptF T (ordL ws))) s t) := by
  obtain ⟨h1, h2, h3, h4⟩ := h
  have hg := kept_full hT hl
  unfold stepF
  split
  · rename_i hb
    simp only [Bool.and_eq_true, inB_t, Bool.not_eq_true', inB_f] at hb
    have hne := goers_ne hT hg h1 hb.1 hb.2
    have hs := way_step hT hl h1 e h2 hb.1 hb.2 (gi0_mem hne)
    refine ⟨hs.m, fun u hu hug => ?_, walk_snoc h3 hs, by simp; exact h4⟩
    rw [exch_mem]
    rcases List.mem_append.mp hu with q | q
    · exact .inl ⟨h2 u q hug, fun z => hs.on (z ▸ hug)⟩
    · exact .inr (List.mem_singleton.mp q)
  · rename_i hb
    refine ⟨h1, fun u hu hug => ?_, h3, by simp; omega⟩
    rcases List.mem_append.mp hu with q | q
    · exact h2 u q hug
    · rw [List.mem_singleton.mp q] at hug ⊢
      cases hin : inB t s.1 with
      | true => exact inB_t.mp hin
      | false =>
        rw [inB_t.mpr hug, hin] at hb
        simp at hb
theorem way_fold {c : Int} {T : List (List Int)} {ws start : List Int} (hT : Tab c T) (hl : (ws.length : Int) = c) : ∀ (xs pre : List Int) (s : List Int × List (Int × Int)), ordL ws = pre ++ xs → WayI T ws (srt (keptF T (ordL ws))) start pre s → WayI T ws (srt (keptF T (ordL ws))) start (ordL ws) (xs.foldl (stepF T (srt (keptF T (ordL ws)))) s)
  | [], pre, s, e, h => by
    rw [List.append_nil] at e
    rw [e] at h ⊢
    exact h
  | x :: xs, pre, s, e, h => by
    rw [List.foldl_cons]
    exact way_fold hT hl xs (pre ++ [x]) _ (by rw [e, List.append_assoc]; rfl) (way_turn hT hl e h)
def wayF (T : List (List Int)) (ws start : List Int) : List Int × List (Int × Int) := (ordL ws).foldl (stepF T (srt (keptF T (ordL ws)))) (start, [])
theorem way_spec {c : Int} {T : List (List Int)} {ws start : List Int} (hT : Tab c T) (hl : (ws.length : Int) = c) (hs : start ∈ T) : (wayF T ws start).1 = srt (keptF T (ordL ws)) ∧ walkS T ws (srt (keptF T (ordL ws))) start (wayF T ws start).2 (srt (keptF T (ordL ws))) ∧ (wayF T ws start).2.length ≤ ws.length := by
  obtain ⟨h1, h2, h3, h4⟩ := way_fold (start := start) hT hl (ordL ws) [] (start, []) rfl ⟨hs, fun _ h => (nomatch h), rfl, Nat.le_refl _⟩
  have hg := kept_full hT hl
  have hO := ordL_ok ws
  have e : (wayF T ws start).1 = srt (keptF T (ordL ws)) := by
    have hsub : ∀ u ∈ srt (keptF T (ordL ws)), u ∈ (wayF T ws start).1 := fun u hu => h2 u (keptF_mem (srt_mem.mp hu)) hu
    have hlen : (srt (keptF T (ordL ws))).length = (wayF T ws start).1.length := hT.same hg h1
    refine ris_ext (hT.ris _ h1) (hT.ris _ hg) fun u => ⟨fun hu => ?_, hsub u⟩
    apply Classical.byContradiction
    intro hn
    have := sub_len (a := u :: srt (keptF T (ordL ws))) (b := (wayF T ws start).1) (List.nodup_cons.mpr ⟨hn, (hT.ris _ hg).nd⟩) (fun v hv => by
      rcases List.mem_cons.mp hv with rfl | hv
      · exact hu
      · exact hsub v hv)
    rw [List.length_cons] at this
    omega
  refine ⟨e, ?_, by rw [hO.len] at h4; exact h4⟩
  have h3 : walkS T ws (srt (keptF T (ordL ws))) start (wayF T ws start).2 (wayF T ws start).1 := h3
  rw [e] at h3
  exact h3
theorem inB_full (T : List (List Int)) (x : List Int) : inB x (fullOf T) = inB x T := by
  cases h : inB x T with
  | true => rw [inB_t] at h ⊢; exact full_mem.mpr h
  | false => rw [inB_f] at h ⊢; exact fun z => h (full_mem.mp z)
theorem Tab.full {c : Int} {T : List (List Int)} (h : Tab c T) : Tab c (fullOf T) := ⟨h.c0, h.c1, fun r hr => h.ris r (full_mem.mp hr), h.fne, ex_full h.ex⟩
theorem tab_of {r : RuleD} (h0 : 0 ≤ r.count) (h1 : r.count ≤ 99) (hne : r.full ≠ []) (hs : ∀ x ∈ r.full, m_sure_things r.count x = .ok x) (hf : m_fault r.count r.full = none) : Tab r.count r.full := ⟨h0, h1, fun x hx => by
  obtain ⟨h2, h3⟩ := sure_is (hs x hx)
  rw [h3]
  exact srt_ris h2, hne, by rw [fault_eq] at hf; exact fault_none.mp hf⟩
theorem way_pre {r : RuleD} {ws ch : List Int} (hT : Tab r.count r.full) (h1 : ws.length ≤ 1000) (h2 : ch.length ≤ 1000) : pre_way r ws ch := ⟨h1, h2, hT.c0, hT.c1, hT.ne, fun x hx => by rw [sure_ok (hT.ris x hx).sure, srt_self (hT.ris x hx).1], by rw [fault_eq]; exact fault_none.mpr hT.ex⟩
theorem outs_val {r : RuleD} {h : List Int} {t : Int} (hT : Tab r.count r.full) (hh : h ∈ r.full) (ht : 0 ≤ t ∧ t < r.count) (hn : t ∉ h) : m_outs r h t = .ok (h.filter fun out => inB (m_exchanged h out t) r.full) := by
  have hr := hT.ris h hh
  have hs : srt h = h := srt_self hr.1
  unfold m_outs
  rw [sure_full_ok hr.sure (by rw [hs]; exact hh), hs]
  show (if ((!((decide ((0 : Int) ≤ t)) && (decide (t < r.count)))) || (inB t h)) = true then (.error .thing) else (.ok (m_outs_of (m_known_by r.full) h t)) : Except Exn (List Int)) = _
  rw [if_neg (by simp [ht.1, ht.2, inB_f.mpr hn]), outs_kn]
theorem way_val {r : RuleD} {ws ch : List Int} (hT : Tab r.count r.full) (hl : (ws.length : Int) = r.count) (hS : SureOk r.count ch) (hm : srt ch ∈ r.full) : m_way r ws ch = .ok (wayF r.full ws (srt ch)).2 := by
  unfold m_way
  rw [picked_val hl, sure_full_ok hS hm]
  show forC _ (ordL ws) (srt ch, []) _ = _
  have hO := ordL_ok ws
  have hg := kept_full hT hl
  refine (forC_foldI (L := ordL ws) (f := stepF r.full (srt (keptF r.full (ordL ws)))) (fun i s => ∃ pre post, ordL ws = pre ++ post ∧ pre.length = i ∧ WayI r.full ws (srt (keptF r.full (ordL ws))) (srt ch) pre s) (fun i x s kk hx hI => ?_) (ordL ws) [] (srt ch, []) rfl ⟨[], ordL ws, rfl, rfl, hm, (fun _ h => nomatch h), rfl, Nat.le_refl _⟩).trans rfl
  obtain ⟨pre, post, e, hlen, hW⟩ := hI
  have hpost : ∃ p2, post = x :: p2 := by
    rw [e, List.getElem?_append_right (by omega), hlen, Nat.sub_self] at hx
    cases post with
    | nil => simp at hx
    | cons a p2 =>
      simp at hx
      exact ⟨p2, by rw [hx]⟩
  obtain ⟨p2, rfl⟩ := hpost
  have hxm : x ∈ ordL ws := List.mem_of_getElem? hx
  have hb := hO.mem.mp hxm
  refine ⟨?_, pre ++ [x], p2, by rw [e, List.append_assoc]; rfl, by rw [List.length_append, hlen]; rfl, way_turn hT hl e hW⟩
  unfold stepF
  cases hc : ((inB x (srt (keptF r.full (ordL ws)))) && (!inB x s.1)) with
  | false => rfl
  | true =>
    have hc2 := hc
    simp only [Bool.and_eq_true, inB_t, Bool.not_eq_true', inB_f] at hc2
    rw [outs_val hT hW.1 ⟨hb.1, by omega⟩ hc2.2]
    rfl
theorem way_ok {r : RuleD} {ws ch : List Int} (hT : Tab r.count r.full) (hl : (ws.length : Int) = r.count) (hS : SureOk r.count ch) (hm : srt ch ∈ r.full) : isOk (m_way r ws ch) := ⟨_, way_val hT hl hS hm⟩
theorem way_no {r : RuleD} {ws ch : List Int} (h : ¬ (ws.length : Int) = r.count) : m_way r ws ch = .error .weights := by
  unfold m_way
  rw [picked_no h]
  rfl
theorem perm_sum {a b : List Int} (h : a.Perm b) : a.sum = b.sum := by
  induction h with
  | nil => rfl
  | cons x _ ih => rw [List.sum_cons, List.sum_cons, ih]
  | swap x y l => rw [List.sum_cons, List.sum_cons, List.sum_cons, List.sum_cons]; omega
  | trans _ _ h1 h2 => exact h1.trans h2
/-- adding up along the way -/
def wsum (ws xs : List Int) : Int := (xs.map fun t => gi ws t).sum
theorem wsum_perm {ws xs ys : List Int} (h : xs.Perm ys) : wsum ws xs = wsum ws ys := by
  unfold wsum
  exact perm_sum (h.map _)
theorem wsum_filter {ws h : List Int} {out : Int} (hn : h.Nodup) (ho : out ∈ h) : wsum ws (h.filter fun y => !decide (y = out)) + gi ws out = wsum ws h := by
  induction h with
  | nil => cases ho
  | cons x xs ih =>
    rw [List.nodup_cons] at hn
    by_cases q : x = out
    · subst q
      have : xs.filter (fun y => !decide (y = x)) = xs := List.filter_eq_self.mpr fun y hy => by
        have : y ≠ x := fun z => hn.1 (z ▸ hy)
        simp [this]
      rw [List.filter_cons, if_neg (by simp), this]
      unfold wsum
      rw [List.map_cons, List.sum_cons]
      omega
    · rw [List.filter_cons, if_pos (by simp [q])]
      rcases List.mem_cons.mp ho with e | e
      · exact absurd e.symm q
      · have := ih hn.2 e
        unfold wsum at this ⊢
        rw [List.map_cons, List.sum_cons, List.map_cons, List.sum_cons]
        omega
theorem wsum_exch {ws h : List Int} {out t : Int} (hn : h.Nodup) (ho : out ∈ h) : wsum ws (m_exchanged h out t) = wsum ws h - gi ws out + gi ws t := by
  unfold m_exchanged
  rw [wsum_perm (srt_perm _)]
  have := wsum_filter (ws := ws) hn ho
  unfold wsum at this ⊢
  rw [List.map_append, List.sum_append]
  simp only [List.map_cons, List.map_nil, List.sum_cons, List.sum_nil]
  omega
theorem walk_sum {c : Int} {T : List (List Int)} {ws goal : List Int} (hR : ∀ r ∈ T, Ris c r) : ∀ {r : List (Int × Int)} {h h' : List Int}, h ∈ T → walkS T ws goal h r h' → wsum ws h ≤ wsum ws h'
  | [], h, h', _, e => by
    have e : h = h' := e
    rw [e]
    exact Int.le_refl _
  | p :: r, h, h', hh, ⟨a, b⟩ => by
    have h1 := walk_sum hR a.m b
    rw [wsum_exch (hR h hh).nd a.oi] at h1
    have := a.w
    omega
/-- none is heavier than what is picked -/
theorem best {c : Int} {T : List (List Int)} {ws h : List Int} (hT : Tab c T) (hl : (ws.length : Int) = c) (hh : h ∈ T) : wsum ws h ≤ wsum ws (srt (keptF T (ordL ws))) := walk_sum hT.ris hh (way_spec hT hl hh).2.1
theorem picked_is {r : RuleD} {ws d : List Int} (h : m_picked r ws = .ok d) : (ws.length : Int) = r.count ∧ d = srt (keptF r.full (ordL ws)) := by
  by_cases hc : (ws.length : Int) = r.count
  · rw [picked_val hc] at h
    cases h
    exact ⟨hc, rfl⟩
  · rw [picked_no hc] at h
    cases h
theorem tab_pre {r : RuleD} {ws ch : List Int} (h : ws.length ≤ 1000 ∧ ch.length ≤ 1000 ∧ 0 ≤ r.count ∧ r.count ≤ 99 ∧ r.full ≠ [] ∧ (∀ x ∈ r.full, m_sure_things r.count x = .ok x) ∧ m_fault r.count r.full = none) : Tab r.count r.full := tab_of h.2.2.1 h.2.2.2.1 h.2.2.2.2.1 h.2.2.2.2.2.1 h.2.2.2.2.2.2
theorem way_outs {r : RuleD} {g h : List Int} {t : Int} (hT : Tab r.count r.full) (hg : g ∈ r.full) (hh : h ∈ r.full) (ht : t ∈ g) (hn : t ∉ h) : isOk (m_outs r h t) := ⟨_, outs_val hT hh ((hT.ris g hg).2 t ht) hn⟩
theorem way_goers {r : RuleD} {g h : List Int} {t : Int} (hT : Tab r.count r.full) (hg : g ∈ r.full) (hh : h ∈ r.full) (ht : t ∈ g) (hn : t ∉ h) : ((okv (m_outs r h t)).filter fun one => !inB one g) = goers r.full g h t := by
  rw [outs_val hT hh ((hT.ris g hg).2 t ht) hn]
  rfl
theorem way_ix {r : RuleD} {g h : List Int} {t : Int} (hT : Tab r.count r.full) (hg : g ∈ r.full) (hh : h ∈ r.full) (ht : t ∈ g) (hn : t ∉ h) : -(((okv (m_outs r h t)).filter fun one => !inB one g).length : Int) ≤ 0 ∧ 0 < (((okv (m_outs r h t)).filter fun one => !inB one g).length : Int) := by
  rw [way_goers hT hg hh ht hn]
  have := List.length_pos_iff.mpr (goers_ne hT hg hh ht hn)
  omega
theorem way_put {r : RuleD} {g h h' : List Int} {t out : Int} {st st' : List (Int × Int)} {i : Nat} (hT : Tab r.count r.full) (hg : g ∈ r.full) (inv : h ∈ r.full ∧ st.length ≤ i) (ht : t ∈ g) (hn : t ∉ h) (eo : out = gi ((okv (m_outs r h t)).filter fun one => !inB one g) 0) (es : st' = st ++ [(out, t)]) (eh : h' = m_exchanged h out t) : h' ∈ r.full ∧ st'.length ≤ i + 1 := by
  rw [way_goers hT hg inv.1 ht hn] at eo
  have hm := goers_mem.mp (gi0_mem (goers_ne hT hg inv.1 ht hn))
  rw [← eo] at hm
  refine ⟨by rw [eh]; exact hm.2.1, ?_⟩
  rw [es, List.length_append, List.length_singleton]
  have := inv.2
  omega
theorem tab_len {c : Int} {T : List (List Int)} {h : List Int} (hT : Tab c T) (hh : h ∈ T) : h.length ≤ 99 := by
  have h1 := (hT.ris h hh).len
  have h2 := hT.c1
  omega
theorem map_srt {c : Int} {T : List (List Int)} (h : ∀ r ∈ T, Ris c r) : (T.map fun r => srt r) = T := by
  conv => rhs; rw [← List.map_id T]
  exact List.map_congr_left fun r hr => srt_self (h r hr).1
theorem srt_tab {c : Int} {T : List (List Int)} (h : Tab c T) : Tab c (T.map fun r => srt r) := by rw [map_srt h.ris]; exact h
theorem sure_perm {c : Int} {a b : List Int} (h : Ris c a) (p : b.Perm a) : SureOk c b ∧ srt b = a := ⟨⟨fun t ht => h.2 t (p.mem_iff.mp ht), p.nodup_iff.mpr h.nd⟩, (srt_the p.symm (h.1.imp fun h => Int.le_of_lt h)).symm⟩
theorem gi0_mem' {T : List (List Int)} (h : T ≠ []) : gi T 0 ∈ T := gi_mem ⟨by have := List.length_pos_iff.mpr h; omega, by have := List.length_pos_iff.mpr h; omega⟩
theorem least_mem {T : List (List Int)} (h : T ≠ []) (g : List Int) : m__law_least_alike T g ∈ T := by
  unfold m__law_least_alike
  refine bnd_T (P := (· ∈ T)) fun b e => ?_
  refine forC_inv (P := (· ∈ T)) (fun _ s => s ∈ T) (by rw [e]; exact gi0_mem' h) (fun i x s kk hx hI k => ite_P (P := (· ∈ T)) (fun _ => bnd_T (P := (· ∈ T)) fun y ey => k _ (by rw [ey]; exact List.mem_of_getElem? hx)) fun _ => k _ hI) fun s hI => hI
theorem least_in {T : List (List Int)} {g x : List Int} (h : T ≠ []) (e : x = m__law_least_alike T g) : x ∈ T := by
  rw [e]
  exact least_mem h g

/-! ### more of ways -/
theorem join_T {S R : Type} {P : R → Prop} {I : S → Prop} {m : S → R} {n : (S → R) → R} (h : ∀ s, I s → P (m s)) (hn : ∀ kk, (∀ s, I s → P (kk s)) → P (n kk)) : P (joinC m n) := hn m h
theorem goers_full (T : List (List Int)) (g h : List Int) (t : Int) : goers (fullOf T) g h t = goers T g h t := by
  unfold goers
  congr 1
  exact List.filter_congr fun x _ => inB_full T _
theorem wayF_full (T : List (List Int)) (ws h : List Int) : wayF (fullOf T) ws h = wayF T ws h := by
  unfold wayF
  rw [kept_ext (fun x => full_mem) (ordL ws)]
  congr 1
  funext s t
  unfold stepF
  rw [goers_full]
theorem way_of {c : Int} {T : List (List Int)} {ws ch : List Int} (hT : Tab c T) (hl : (ws.length : Int) = c) (hS : SureOk c ch) (hm : srt ch ∈ T) : m_way (ruleOf c T) ws ch = .ok (wayF T ws (srt ch)).2 := by
  rw [way_val (r := ruleOf c T) hT.full hl hS (full_mem.mpr hm)]
  show Except.ok (wayF (fullOf T) ws (srt ch)).2 = _
  rw [wayF_full]
theorem way_thing {r : RuleD} {ws ch : List Int} (hl : (ws.length : Int) = r.count) (h : ¬ SureOk r.count ch) : m_way r ws ch = .error .thing := by
  unfold m_way
  rw [picked_val hl]
  show bindX (m_sure_full r ch) _ = _
  have : m_sure_full r ch = .error .thing := by
    unfold m_sure_full
    rw [sure_no h]
    rfl
  rw [this]
  rfl
theorem sure_full_no {r : RuleD} {ch : List Int} (h : SureOk r.count ch) (hm : srt ch ∉ r.full) : m_sure_full r ch = .error .choice := by
  unfold m_sure_full
  rw [sure_ok h]
  show (if (!inB (srt ch) r.full) = true then _ else _) = _
  rw [inB_f.mpr hm]
  rfl
theorem way_choice {r : RuleD} {ws ch : List Int} (hl : (ws.length : Int) = r.count) (h : SureOk r.count ch) (hm : srt ch ∉ r.full) : m_way r ws ch = .error .choice := by
  unfold m_way
  rw [picked_val hl]
  show bindX (m_sure_full r ch) _ = _
  rw [sure_full_no h hm]
  rfl
theorem way_err {r : RuleD} {ws ch : List Int} {x : Exn} (hT : Tab r.count r.full) (h : m_way r ws ch = .error x) : x = .weights ∨ x = .choice ∨ x = .thing := by
  by_cases hl : (ws.length : Int) = r.count
  · by_cases hS : SureOk r.count ch
    · by_cases hm : srt ch ∈ r.full
      · rw [way_val hT hl hS hm] at h
        cases h
      · rw [way_choice hl hS hm] at h
        cases h
        exact .inr (.inl rfl)
    · rw [way_thing hl hS] at h
      cases h
      exact .inr (.inr rfl)
  · rw [way_no hl] at h
    cases h
    exact .inl rfl
theorem wayF_self (T : List (List Int)) (ws : List Int) : (wayF T ws (srt (keptF T (ordL ws)))).2 = [] := by
  unfold wayF
  have : ∀ (g xs : List Int), xs.foldl (stepF T g) (g, []) = (g, []) := by
    intro g xs
    induction xs with
    | nil => rfl
    | cons x xs ih =>
      rw [List.foldl_cons]
      have : stepF T g (g, []) x = (g, []) := by
        unfold stepF
        cases h : inB x g <;> simp [h]
      rw [this, ih]
  rw [this]
/-- the law's own steps -/
theorem ws_loop {c : Int} {T : List (List Int)} {ws start : List Int} {R : Type} {body : Int → List Int × List (Int × Int) → (List Int × List (Int × Int) → R) → R} {k : List Int × List (Int × Int) → R} (hT : Tab c T) (hl : (ws.length : Int) = c) (hs : start ∈ T)
    (h : ∀ x s kk, s.1 ∈ T → (x ∈ srt (keptF T (ordL ws)) → x ∉ s.1 → goers T (srt (keptF T (ordL ws))) s.1 x ≠ []) → body x s kk = kk (stepF T (srt (keptF T (ordL ws))) s x)) : forC body (ordL ws) (start, []) k = k (wayF T ws start) := by
  have hO := ordL_ok ws
  have hg := kept_full hT hl
  refine forC_foldI (L := ordL ws) (f := stepF T (srt (keptF T (ordL ws)))) (fun i s => ∃ pre post, ordL ws = pre ++ post ∧ pre.length = i ∧ WayI T ws (srt (keptF T (ordL ws))) start pre s) (fun i x s kk hx hI => ?_) (ordL ws) [] (start, []) rfl ⟨[], ordL ws, rfl, rfl, hs, (fun _ h => nomatch h), rfl, Nat.le_refl _⟩
  obtain ⟨pre, post, e, hlen, hW⟩ := hI
  have hpost : ∃ p2, post = x :: p2 := by
    rw [e, List.getElem?_append_right (by omega), hlen, Nat.sub_self] at hx
    cases post with
    | nil => simp at hx
    | cons a p2 =>
      simp at hx
      exact ⟨p2, by rw [hx]⟩
  obtain ⟨p2, rfl⟩ := hpost
  exact ⟨h x s kk hW.1 fun h1 h2 => goers_ne hT hg hW.1 h1 h2, pre ++ [x], p2, by rw [e, List.append_assoc]; rfl, by rw [List.length_append, hlen]; rfl, way_turn hT hl e hW⟩
theorem forC_first {p : Int → Bool} {body : Int → Unit → (Unit → Int) → Int} (hb : ∀ x s kk, body x s kk = if p x = true then x else kk s) {k : Unit → Int} : ∀ xs : List Int, xs.filter p ≠ [] → forC body xs () k = gi (xs.filter p) 0
  | [], h => absurd rfl h
  | x :: xs, h => by
    show body x () (fun s => forC body xs s k) = _
    rw [hb]
    by_cases hp : p x = true
    · rw [if_pos hp, List.filter_cons, if_pos hp]
      have : gi (x :: List.filter p xs) 0 = (x :: List.filter p xs)[(0 : Int).toNat]'(by simp) := gi_nat (Int.le_refl _) (by simp)
      rw [this]
      rfl
    · rw [List.filter_cons, if_neg hp] at h ⊢
      rw [if_neg hp]
      exact forC_first hb xs h
theorem neg_gi {ws : List Int} {i : Int} (h : 0 ≤ i ∧ i < ws.length) : gi (ws.map fun w => -w) i = -gi ws i := by
  rw [gi_nat h.1 (by rw [List.length_map]; exact h.2), gi_nat h.1 h.2, List.getElem_map]
theorem way_len {r : RuleD} {ws ch : List Int} (hT : Tab r.count r.full) (hl : (ws.length : Int) = r.count) (hS : SureOk r.count ch) (hm : srt ch ∈ r.full) : (okv (m_way r ws ch)).length ≤ ws.length := by
  rw [way_val hT hl hS hm]
  exact (way_spec hT hl hm).2.2
theorem way_okr {r : RuleD} {c : Int} {T : List (List Int)} {ws ch : List Int} (hr : r = ruleOf c T) (hT : Tab c T) (hl : (ws.length : Int) = c) (h : ch ∈ T) : isOk (m_way r ws ch) := by
  have hR := hT.ris ch h
  rw [hr, way_of hT hl hR.sure (by rw [srt_self hR.1]; exact h)]
  exact ⟨_, rfl⟩
theorem way_prer {r : RuleD} {c : Int} {T : List (List Int)} {ws ch : List Int} (hr : r = ruleOf c T) (hT : Tab c T) (h1 : ws.length ≤ 1000) (h2 : ch.length ≤ 1000) : pre_way r ws ch := by
  rw [hr]
  exact way_pre hT.full h1 h2
theorem gi_lastG {α : Type} [Inhabited α] {xs : List α} {a : α} : gi (xs ++ [a]) (-1) = a := by
  unfold gi
  rw [atI_last]
  rfl
theorem walk_in {c : Int} {T : List (List Int)} {ws goal : List Int} (hT : Tab c T) (hg : goal ∈ T) : ∀ {xs : List (Int × Int)} {h h' : List Int}, h ∈ T → walkS T ws goal h xs h' → ∀ p ∈ xs, (0 ≤ p.1 ∧ p.1 < c) ∧ 0 ≤ p.2 ∧ p.2 < c
  | [], _, _, _, _, p, hp => nomatch hp
  | q :: xs, h, h', hh, ⟨a, b⟩, p, hp => by
    rcases List.mem_cons.mp hp with e | hp
    · rw [e]
      exact ⟨(hT.ris h hh).2 _ a.oi, (hT.ris goal hg).2 _ a.ti⟩
    · exact walk_in hT hg a.m b p hp
theorem way_in {r : RuleD} {c : Int} {T : List (List Int)} {ws ch : List Int} (hr : r = ruleOf c T) (hT : Tab c T) (hl : (ws.length : Int) = c) (h : ch ∈ T) : ∀ p ∈ okv (m_way r ws ch), (0 ≤ p.1 ∧ p.1 < (ws.length : Int)) ∧ 0 ≤ p.2 ∧ p.2 < (ws.length : Int) := by
  have hR := hT.ris ch h
  rw [hr, way_of hT hl hR.sure (by rw [srt_self hR.1]; exact h), srt_self hR.1, hl]
  exact walk_in hT (kept_full hT hl) h (way_spec hT hl h).2.1
theorem way_lenr {r : RuleD} {c : Int} {T : List (List Int)} {ws ch : List Int} (hr : r = ruleOf c T) (hT : Tab c T) (hl : (ws.length : Int) = c) (h : ch ∈ T) : (okv (m_way r ws ch)).length ≤ ws.length := by
  have hR := hT.ris ch h
  rw [hr, way_of hT hl hR.sure (by rw [srt_self hR.1]; exact h), srt_self hR.1]
  exact (way_spec hT hl h).2.2
theorem picked_in {r : RuleD} {c : Int} {T : List (List Int)} {ws : List Int} (hr : r = ruleOf c T) (hT : Tab c T) (hl : (ws.length : Int) = c) : okv (m_picked r ws) ∈ T := by
  rw [hr, picked_of hl]
  exact kept_full hT hl

/-! ### rows in order -/
theorem ll_trans (a b c : List Int) : decide (a ≤ b) = true → decide (b ≤ c) = true → decide (a ≤ c) = true := by
  simp only [decide_eq_true_eq]
  exact List.le_trans
theorem ll_total (a b : List Int) : (decide (a ≤ b) || decide (b ≤ a)) = true := by
  simp only [Bool.or_eq_true, decide_eq_true_eq]
  exact List.le_total a b
theorem srtL_perm (T : List (List Int)) : (srtL T).Perm T := List.mergeSort_perm _ _
theorem srtL_mem {T : List (List Int)} {x : List Int} : x ∈ srtL T ↔ x ∈ T := (srtL_perm T).mem_iff
theorem srtL_pw (T : List (List Int)) : (srtL T).Pairwise (· ≤ ·) := (List.pairwise_mergeSort (le := fun a b : List Int => decide (a ≤ b)) ll_trans ll_total T).imp fun h => by simpa using h
theorem lt_of {a b : List Int} (h : a ≤ b) (n : a ≠ b) : a < b := by
  apply Classical.byContradiction
  intro z
  exact n (List.le_antisymm h (List.not_lt.mp z))
theorem pw_lt {T : List (List Int)} (h : T.Pairwise (· ≤ ·)) (n : T.Nodup) : T.Pairwise (· < ·) := h.imp₂ (fun _ _ => lt_of) n
theorem lt_nd {T : List (List Int)} (h : T.Pairwise (· < ·)) : T.Nodup := h.imp fun h z => by
  rw [z] at h
  exact List.lt_irrefl _ h
theorem lex_ext {a b : List (List Int)} (ha : a.Pairwise (· < ·)) (hb : b.Pairwise (· < ·)) (h : ∀ x, x ∈ a ↔ x ∈ b) : a = b := by
  have p : a.Perm b := (List.perm_ext_iff_of_nodup (lt_nd ha) (lt_nd hb)).mpr h
  exact List.Perm.eq_of_pairwise (le := fun a b : List Int => a < b) (fun a b _ _ h1 h2 => absurd (List.lt_trans h1 h2) (List.lt_irrefl _)) ha hb p
theorem full_lt (T : List (List Int)) : (fullOf T).Pairwise (· < ·) := by
  have e : fullOf T = srtL (m_known_by T).ks := by
    unfold fullOf rowsT srtT srtL
    rw [List.map_mergeSort (r := fun a b : Tup => decide (a.ns ≤ b.ns)) (s := fun a b : List Int => decide (a ≤ b)) (fun _ _ _ _ => rfl), List.map_map]
    congr 1
    exact List.map_id' _
  rw [e]
  exact pw_lt (srtL_pw _) ((srtL_perm _).nodup_iff.mpr (kn_nodup T))
/-- what strictly rises and has the same rows is it -/
theorem full_the {T U : List (List Int)} (hU : U.Pairwise (· < ·)) (h : ∀ x, x ∈ T ↔ x ∈ U) : fullOf T = U := lex_ext (full_lt T) hU fun x => full_mem.trans (h x)
def dedF (s : List (List Int)) (x : List Int) : List (List Int) := if (!inB x s) = true then s ++ [x] else s
def ded (xs : List (List Int)) : List (List Int) := xs.foldl dedF []
theorem ded_spec : ∀ (xs s : List (List Int)), s.Nodup → (xs.foldl dedF s).Nodup ∧ (∀ x, x ∈ xs.foldl dedF s ↔ x ∈ s ∨ x ∈ xs) ∧ ∃ r, r.Sublist xs ∧ xs.foldl dedF s = s ++ r
  | [], s, h => ⟨h, fun x => by simp, [], .slnil, by simp⟩
  | x :: xs, s, h => by
    rw [List.foldl_cons]
    by_cases hx : x ∈ s
    · have e : dedF s x = s := by
        unfold dedF
        rw [inB_t.mpr hx]
        rfl
      rw [e]
      obtain ⟨h1, h2, r, h3, h4⟩ := ded_spec xs s h
      refine ⟨h1, fun y => ?_, r, h3.cons x, h4⟩
      rw [h2 y, List.mem_cons]
      constructor
      · rintro (a | a)
        · exact .inl a
        · exact .inr (.inr a)
      · rintro (a | a | a)
        · exact .inl a
        · exact .inl (a ▸ hx)
        · exact .inr a
    · have e : dedF s x = s ++ [x] := by
        unfold dedF
        rw [inB_f.mpr hx]
        rfl
      rw [e]
      have hn : (s ++ [x]).Nodup := by
        rw [List.nodup_append]
        refine ⟨h, by simp, fun a ha b hb => ?_⟩
        rw [List.mem_singleton.mp hb]
        intro z
        exact hx (z ▸ ha)
      obtain ⟨h1, h2, r, h3, h4⟩ := ded_spec xs (s ++ [x]) hn
      refine ⟨h1, fun y => ?_, x :: r, h3.cons₂ x, by rw [h4, List.append_assoc]; rfl⟩
      rw [h2 y, List.mem_append, List.mem_singleton, List.mem_cons, or_assoc]
theorem ded_nd (xs : List (List Int)) : (ded xs).Nodup := (ded_spec xs [] .nil).1
theorem ded_mem {xs : List (List Int)} {x : List Int} : x ∈ ded xs ↔ x ∈ xs := by
  have := (ded_spec xs [] .nil).2.1 x
  unfold ded
  rw [this]
  simp
theorem ded_sub (xs : List (List Int)) : (ded xs).Sublist xs := by
  obtain ⟨r, h1, h2⟩ := (ded_spec xs [] .nil).2.2
  unfold ded
  rw [h2]
  exact h1
theorem ded_lt {xs : List (List Int)} (h : xs.Pairwise (· ≤ ·)) : (ded xs).Pairwise (· < ·) := pw_lt (h.sublist (ded_sub xs)) (ded_nd xs)
theorem full_ded {T : List (List Int)} : fullOf T = srtL (ded T) := full_the (pw_lt (srtL_pw _) ((srtL_perm _).nodup_iff.mpr (ded_nd T))) fun x => by rw [srtL_mem, ded_mem]
theorem full_ded2 {T U : List (List Int)} (hU : U.Pairwise (· ≤ ·)) (h : ∀ x, x ∈ T ↔ x ∈ U) : fullOf T = ded U := full_the (ded_lt hU) fun x => by rw [ded_mem, h]
theorem Tab.ext {c : Int} {T U : List (List Int)} (hT : Tab c T) (h : ∀ x, x ∈ U ↔ x ∈ T) : Tab c U := by
  refine ⟨hT.c0, hT.c1, fun r hr => hT.ris r ((h r).mp hr), fun z => ?_, fun one ho t h0 h1 hn other hoth hto => ?_⟩
  · cases hd : T with
    | nil => exact hT.ne hd
    | cons a l =>
      have := (h a).mpr (by rw [hd]; exact List.mem_cons_self)
      rw [z] at this
      cases this
  · obtain ⟨out, a, b, m⟩ := hT.ex one ((h _).mp ho) t h0 h1 hn other ((h _).mp hoth) hto
    exact ⟨out, a, b, (h _).mpr m⟩

/-! ### a thing gone -/
def sh (t x : Int) : Int := x - (if (decide (t < x)) = true then (1 : Int) else 0)
theorem sh_v (t x : Int) : (t < x ∧ sh t x = x - 1) ∨ (x ≤ t ∧ sh t x = x) := by
  unfold sh
  by_cases h : t < x
  · exact .inl ⟨h, by rw [if_pos (by simp [h])]⟩
  · exact .inr ⟨by omega, by rw [if_neg (by simp [h])]; omega⟩
def closeRow (t : Int) (r : List Int) : List Int := (r.filter fun (one : Int) => (!decide (one = t))).map fun (one : Int) => (one - (if (decide (t < one)) = true then (1 : Int) else 0))
theorem close_mem {t y : Int} {r : List Int} : y ∈ closeRow t r ↔ ∃ x, x ∈ r ∧ x ≠ t ∧ y = sh t x := by
  unfold closeRow
  rw [List.mem_map]
  constructor
  · rintro ⟨x, h, e⟩
    rw [List.mem_filter] at h
    exact ⟨x, h.1, by simpa using h.2, e.symm⟩
  · rintro ⟨x, h1, h2, e⟩
    exact ⟨x, List.mem_filter.mpr ⟨h1, by simpa using h2⟩, e.symm⟩
theorem close_ris {c t : Int} {r : List Int} (h : Ris c r) (ht : 0 ≤ t ∧ t < c) : Ris (c - 1) (closeRow t r) := by
  refine ⟨?_, fun y hy => ?_⟩
  · unfold closeRow
    rw [List.pairwise_map]
    refine ((h.filter (p := fun (one : Int) => (!decide (one = t)))).1).imp_of_mem fun {a b} ha hb hab => ?_
    have h1 := (List.mem_filter.mp ha).2
    have h2 := (List.mem_filter.mp hb).2
    simp only [Bool.not_eq_true', decide_eq_false_iff_not] at h1 h2
    have := sh_v t a
    have := sh_v t b
    show sh t a < sh t b
    omega
  · obtain ⟨x, h1, h2, e⟩ := close_mem.mp hy
    have := h.2 x h1
    have := sh_v t x
    omega
theorem minor_tab {c t : Int} {T : List (List Int)} {b : Bool} (hT : Tab c T) (ht : 0 ≤ t ∧ t < c) (hne : (T.filter fun B => inB t B == b) ≠ []) : Tab (c - 1) ((T.filter fun B => inB t B == b).map (closeRow t)) := by
  refine ⟨by omega, by have := hT.c1; omega, fun r hr => ?_, fun z => hne (List.map_eq_nil_iff.mp z), ?_⟩
  · obtain ⟨B, hB, rfl⟩ := List.mem_map.mp hr
    exact close_ris (hT.ris B (List.mem_filter.mp hB).1) ht
  · intro one ho y h0 h1 hn other hoth hy
    obtain ⟨B1, hB1, rfl⟩ := List.mem_map.mp ho
    obtain ⟨B2, hB2, rfl⟩ := List.mem_map.mp hoth
    obtain ⟨m1, b1⟩ := List.mem_filter.mp hB1
    obtain ⟨m2, b2⟩ := List.mem_filter.mp hB2
    have e12 : t ∈ B1 ↔ t ∈ B2 := by
      have : inB t B1 = inB t B2 := by rw [eq_of_beq b1, eq_of_beq b2]
      rw [← inB_t, ← inB_t, this]
    obtain ⟨x, hx, hxt, rfl⟩ := close_mem.mp hy
    have hx1 : x ∉ B1 := fun z => hn (close_mem.mpr ⟨x, z, hxt, rfl⟩)
    have hxb := (hT.ris B2 m2).2 x hx
    obtain ⟨out, o1, o2, om⟩ := hT.ex B1 m1 x hxb.1 hxb.2 hx1 B2 m2 hx
    have hot : out ≠ t := fun z => o2 (z ▸ e12.mp (z ▸ o1))
    refine ⟨sh t out, close_mem.mpr ⟨out, o1, hot, rfl⟩, fun z => ?_, ?_⟩
    · obtain ⟨w, w1, w2, we⟩ := close_mem.mp z
      have h3 := sh_v t out
      have h4 := sh_v t w
      have : out = w := by omega
      exact o2 (this ▸ w1)
    · rw [List.mem_map]
      refine ⟨m_exchanged B1 out x, List.mem_filter.mpr ⟨om, ?_⟩, ?_⟩
      · have : inB t (m_exchanged B1 out x) = inB t B1 := by
          cases h : inB t B1 with
          | true =>
            rw [inB_t] at h ⊢
            exact exch_mem.mpr (.inl ⟨h, Ne.symm hot⟩)
          | false =>
            rw [inB_f] at h ⊢
            intro z
            rcases exch_mem.mp z with q | q
            · exact h q.1
            · exact hxt q.symm
        rw [this]
        exact b1
      · have r1 := close_ris (hT.ris B1 m1) ht
        refine ris_ext (c := c - 1) (close_ris (hT.ris _ om) ht) (exch_ris r1 ⟨h0, h1⟩ hn) fun z => ?_
        rw [close_mem, exch_mem, close_mem]
        constructor
        · rintro ⟨w, w1, w2, rfl⟩
          rcases exch_mem.mp w1 with q | q
          · refine .inl ⟨⟨w, q.1, w2, rfl⟩, fun e => q.2 ?_⟩
            have h3 := sh_v t out
            have h4 := sh_v t w
            omega
          · exact .inr (q ▸ rfl)
        · rintro (⟨⟨w, w1, w2, rfl⟩, w3⟩ | rfl)
          · exact ⟨w, exch_mem.mpr (.inl ⟨w1, fun e => w3 (e ▸ rfl)⟩), w2, rfl⟩
          · exact ⟨x, exch_mem.mpr (.inr rfl), hxt, rfl⟩
def lackT (T : List (List Int)) (t : Int) : List (List Int) := if (decide ((T.filter fun c => (!inB t c)) = ([] : List (List Int)))) = true then T else T.filter fun c => (!inB t c)
def haveT (T : List (List Int)) (t : Int) : List (List Int) := if (decide ((T.filter fun c => (inB t c)) = ([] : List (List Int)))) = true then T else T.filter fun c => (inB t c)
theorem lack_is {T : List (List Int)} (hne : T ≠ []) (t : Int) : ∃ b, lackT T t = T.filter (fun B => inB t B == b) ∧ (T.filter fun B => inB t B == b) ≠ [] := by
  unfold lackT
  by_cases h : (T.filter fun c => (!inB t c)) = []
  · rw [if_pos (by simpa using h)]
    have e : T.filter (fun B => inB t B == true) = T := List.filter_eq_self.mpr fun B hB => by
      have := List.filter_eq_nil_iff.mp h B hB
      simpa using this
    exact ⟨true, e.symm, by rw [e]; exact hne⟩
  · rw [if_neg (by simpa using h)]
    have e : (fun B => inB t B == false) = fun c => (!inB t c) := by
      funext B
      cases inB t B <;> rfl
    exact ⟨false, by rw [e], by rw [e]; exact h⟩
theorem have_is {T : List (List Int)} (hne : T ≠ []) (t : Int) : ∃ b, haveT T t = T.filter (fun B => inB t B == b) ∧ (T.filter fun B => inB t B == b) ≠ [] := by
  unfold haveT
  by_cases h : (T.filter fun c => (inB t c)) = []
  · rw [if_pos (by simpa using h)]
    have e : T.filter (fun B => inB t B == false) = T := List.filter_eq_self.mpr fun B hB => by
      have := List.filter_eq_nil_iff.mp h B hB
      simpa using this
    exact ⟨false, e.symm, by rw [e]; exact hne⟩
  · rw [if_neg (by simpa using h)]
    have e : (fun B => inB t B == true) = fun c => (inB t c) := by
      funext B
      cases inB t B <;> rfl
    exact ⟨true, by rw [e], by rw [e]; exact h⟩
theorem lack_tab {c t : Int} {T : List (List Int)} (hT : Tab c T) (ht : 0 ≤ t ∧ t < c) : Tab (c - 1) ((lackT T t).map (closeRow t)) := by
  obtain ⟨b, e, h⟩ := lack_is hT.ne t
  rw [e]
  exact minor_tab hT ht h
theorem have_tab {c t : Int} {T : List (List Int)} (hT : Tab c T) (ht : 0 ≤ t ∧ t < c) : Tab (c - 1) ((haveT T t).map (closeRow t)) := by
  obtain ⟨b, e, h⟩ := have_is hT.ne t
  rw [e]
  exact minor_tab hT ht h
theorem close_turn {t : Int} {T s s' : List (List Int)} {i : Nat} {x : List Int} (h : s = (T.take i).map (closeRow t)) (hx : T[i]? = some x) (e : s' = s ++ [closeRow t x]) : s' = (T.take (i + 1)).map (closeRow t) := by
  rw [e, h, List.take_succ, hx]
  simp
theorem lack_mem {T U : List (List Int)} (h : ∀ x, x ∈ T ↔ x ∈ U) (t : Int) : ∀ x, x ∈ lackT T t ↔ x ∈ lackT U t := fun x => by
  have e : ((T.filter fun c => (!inB t c)) = []) ↔ ((U.filter fun c => (!inB t c)) = []) := by
    rw [List.filter_eq_nil_iff, List.filter_eq_nil_iff]
    exact ⟨fun q y hy => q y ((h y).mpr hy), fun q y hy => q y ((h y).mp hy)⟩
  unfold lackT
  by_cases z : (T.filter fun c => (!inB t c)) = []
  · rw [if_pos (by simpa using z), if_pos (by simpa using e.mp z)]
    exact h x
  · rw [if_neg (by simpa using z), if_neg (by simpa using fun q => z (e.mpr q)), List.mem_filter, List.mem_filter, h]
theorem have_mem {T U : List (List Int)} (h : ∀ x, x ∈ T ↔ x ∈ U) (t : Int) : ∀ x, x ∈ haveT T t ↔ x ∈ haveT U t := fun x => by
  have e : ((T.filter fun c => (inB t c)) = []) ↔ ((U.filter fun c => (inB t c)) = []) := by
    rw [List.filter_eq_nil_iff, List.filter_eq_nil_iff]
    exact ⟨fun q y hy => q y ((h y).mpr hy), fun q y hy => q y ((h y).mp hy)⟩
  unfold haveT
  by_cases z : (T.filter fun c => (inB t c)) = []
  · rw [if_pos (by simpa using z), if_pos (by simpa using e.mp z)]
    exact h x
  · rw [if_neg (by simpa using z), if_neg (by simpa using fun q => z (e.mpr q)), List.mem_filter, List.mem_filter, h]

/-! ### tables are small -/
def Small (t : Int × List (List Int)) : Prop := t.2.length ≤ 1000
theorem pow_le {n m : Nat} (h : n ≤ m) : 2 ^ n ≤ 2 ^ m := Nat.pow_le_pow_right (by omega) h
theorem parts_small {ns : Scr} {kind c more : Int} (h : 0 ≤ c ∧ c ≤ 7) : Small (m__law_parts ns kind c more) := by
  unfold m__law_parts
  refine bnd_P (P := Small) (ite_P (P := Small) (fun _ => ?_) (fun _ => ite_P (P := Small) (fun _ => bnd_P (P := Small) (bnd_P (P := Small) ?_)) fun _ => ?_))
  · show (List.map _ _).length ≤ 1000
    rw [List.length_map, rng_len]
    omega
  · have hc : 0 ≤ 7 + more / 9 % 3 ∧ 7 + more / 9 % 3 ≤ 9 := by omega
    refine forC_inv (P := Small) (fun i s => DuoI (7 + more / 9 % 3) i s) (duoI0 rfl) (fun i x s kk hx hI k => bnd_P (P := Small) (k _ (duoI1 hI (rng_get hx) (by omega) rfl))) fun s hI => ?_
    have := hI.1
    rw [rng_len] at this
    show s.length ≤ 1000
    omega
  · show (List.filter _ _).length ≤ 1000
    refine fl_len ?_
    have h1 := (subsets_spec h.1).1
    have h2 := pow_le (show c.toNat ≤ 7 by omega)
    rw [h1]
    omega
theorem few_small (ns : Scr) : Small (m__law_few ns) := by
  unfold m__law_few
  refine bnd_P (P := Small) (bnd_P (P := Small) (bnd_P (P := Small) (ite_P (P := Small) (fun _ => bnd_P (P := Small) ?_) fun _ => ite_P (P := Small) (fun _ => ?_) fun _ => bnd_P (P := Small) (bnd_P (P := Small) ?_))))
  · have key : ∀ m : Int, 0 ≤ m → m ≤ 5 → Small (2 * m, m__law_pairs_by m) := fun m h0 h1 => by
      have h2 := (pairs_spec h0).1
      have h3 := pow_le (show m.toNat ≤ 5 by omega)
      show (m__law_pairs_by m).length ≤ 1000
      omega
    show Small (if _ then _ else _)
    exact ite_P (P := Small) (fun _ => key _ (by omega) (by omega)) fun _ => key _ (by omega) (by omega)
  · have := menu1 (m__law_cell_at ns 0 / 9)
    exact parts_small ⟨this.1, by omega⟩
  · have hc := menu2 (m__law_cell_at ns 0 / 9)
    generalize gi [(6 : Int), 5, 4, 3, 7, 7, 2] (m__law_cell_at ns 0 / 9 % 7) = c at hc
    refine forC_inv (P := Small) (fun i s => RowI i s) (rowI0 rfl) (fun i x s kk hx hI k => bnd_P (P := Small) (k _ (rowI1 hI (rng_get hx) rfl))) fun s hI => ?_
    rw [rng_len, Int.sub_zero] at hI
    refine bnd_P (P := Small) (bnd_P (P := Small) (bnd_P (P := Small) (bnd_P (P := Small) ?_)))
    have hs : s.length ≤ 1000 := by
      have h1 := hI.1
      have h2 := pow_le (show c.toNat ≤ 7 by omega)
      omega
    show Small (if _ then _ else _)
    exact ite_P (P := Small) (fun _ => bnd_P (P := Small) (Nat.le_trans (List.length_eraseIdx_le _ _) (fl_len (fl_len hs)))) fun _ => fl_len (fl_len hs)
theorem table_small (ns : Scr) : Small (m__law_table ns) := by
  unfold m__law_table
  refine bnd_P (P := Small) (bnd_P (P := Small) (ite_P (P := Small) (fun _ => bnd_P (P := Small) (bnd_P (P := Small) ?_)) fun _ => ite_P (P := Small) (fun _ => bnd_P (P := Small) ?_) fun _ => bnd_P (P := Small) (bnd_P (P := Small) (ite_P (P := Small) (fun _ => few_small ns) fun hb => bnd_P (P := Small) (bnd_P (P := Small) (bnd_P (P := Small) ?_))))))
  · show (List.map _ _).length ≤ 1000
    rw [List.length_map]
    refine fl_len ?_
    rw [rng_len]
    omega
  · show (List.map _ _).length ≤ 1000
    rw [List.length_map, rng_len]
    omega
  · have hf := few_small ns
    refine forC_inv (P := Small) (fun i s => s.length ≤ i) (Nat.le_refl _) (fun i x s kk hx hI k => bnd_P (P := Small) (k _ ?_)) fun s hI => Nat.le_trans hI hf
    rw [List.length_append, List.length_singleton]
    omega
theorem held_small (ns : Scr) : Small (m__law_held ns) := by
  unfold m__law_held
  refine bnd_T (P := Small) fun made e => ?_
  refine ite_P (P := Small) (fun _ => ?_) fun hb => by rw [e]; exact table_small ns
  show (List.length [_]) ≤ 1000
  rw [List.length_singleton]
  omega
theorem nd_len : ∀ {a b : List (List Int)}, a.Nodup → (∀ t ∈ a, t ∈ b) → a.length ≤ b.length
  | [], _, _, _ => Nat.zero_le _
  | x :: xs, b, h, hs => by
    rw [List.nodup_cons] at h
    have hx := hs x List.mem_cons_self
    have := nd_len (a := xs) (b := b.erase x) h.2 fun t ht => (List.mem_erase_of_ne fun (z : t = x) => h.1 (by rw [← z]; exact ht)).mpr (hs t (List.mem_cons_of_mem _ ht))
    rw [List.length_erase_of_mem hx] at this
    have := List.length_pos_of_mem hx
    rw [List.length_cons]
    omega
theorem full_len (T : List (List Int)) : (fullOf T).length ≤ T.length := nd_len (lt_nd (full_lt T)) fun t ht => full_mem.mp ht
theorem lack_sub {T : List (List Int)} {t : Int} {c : List Int} (h : c ∈ lackT T t) : c ∈ T := by
  unfold lackT at h
  split at h
  · exact h
  · exact (List.mem_filter.mp h).1
theorem have_sub {T : List (List Int)} {t : Int} {c : List Int} (h : c ∈ haveT T t) : c ∈ T := by
  unfold haveT at h
  split at h
  · exact h
  · exact (List.mem_filter.mp h).1
theorem lack_le (T : List (List Int)) (t : Int) : (lackT T t).length ≤ T.length := by
  unfold lackT
  split
  · exact Nat.le_refl _
  · exact List.length_filter_le _ _
theorem have_le (T : List (List Int)) (t : Int) : (haveT T t).length ≤ T.length := by
  unfold haveT
  split
  · exact Nat.le_refl _
  · exact List.length_filter_le _ _
theorem lack_y {T l l' : List (List Int)} {t : Int} (e : l = T.filter fun c => (!inB t c)) (h : l = []) (e' : l' = T) : l' = lackT T t := by
  unfold lackT
  rw [← e, if_pos (by simpa using h), e']
theorem lack_n {T l : List (List Int)} {t : Int} (e : l = T.filter fun c => (!inB t c)) (h : ¬ l = []) : l = lackT T t := by
  unfold lackT
  rw [← e, if_neg (by simpa using h)]
theorem have_y {T l l' : List (List Int)} {t : Int} (e : l = T.filter fun c => (inB t c)) (h : l = []) (e' : l' = T) : l' = haveT T t := by
  unfold haveT
  rw [← e, if_pos (by simpa using h), e']
theorem have_n {T l : List (List Int)} {t : Int} (e : l = T.filter fun c => (inB t c)) (h : ¬ l = []) : l = haveT T t := by
  unfold haveT
  rw [← e, if_neg (by simpa using h)]
/-! ### rules looked at -/
theorem rows_are_of (a : List (List Int)) : m__law_rows_are a a = true := by
  unfold m__law_rows_are
  refine ite_n (P := (· = true)) (by simp) ?_
  exact forC_inv (P := (· = true)) (fun _ _ => True) trivial (fun i x s kk hx hI k => ite_n (P := (· = true)) (by rw [row_is_eq]; simp) (k _ trivial)) fun s hI => rfl
theorem rule_is_of {r : RuleD} {c : Int} {T U : List (List Int)} (hr : r = ruleOf c T) (hU : fullOf T = U) : m__law_rule_is r c U = true := by
  subst hr
  subst hU
  unfold m__law_rule_is
  refine ite_n (P := (· = true)) (by show (_ || ((!decide (c = c)) || _)) = false; simp; exact ⟨rfl, rfl⟩) ?_
  show (decide (((gi (fullOf T) 0).length : Int) = ((gi (fullOf T) 0).length : Int)) && m__law_rows_are (fullOf T) (fullOf T)) = true
  rw [rows_are_of]
  simp
theorem full_row {c : Int} {T : List (List Int)} (hT : Tab c T) : (gi (ruleOf c T).full 0).length ≤ 99 := tab_len hT.full (gi0_mem' hT.fne)

/-! ### turned about -/
theorem ris_sub_eq {c : Int} {a b : List Int} (ha : Ris c a) (hb : Ris c b) (h : ∀ t ∈ a, t ∈ b) (hl : b.length ≤ a.length) : a = b := by
  refine ris_ext ha hb fun u => ⟨h u, fun hu => ?_⟩
  apply Classical.byContradiction
  intro hn
  have := sub_len (a := u :: a) (b := b) (List.nodup_cons.mpr ⟨hn, ha.nd⟩) (fun v hv => by
    rcases List.mem_cons.mp hv with rfl | hv
    · exact hu
    · exact h v hv)
  rw [List.length_cons] at this
  omega
/-- the other exchange -/
theorem back_ex {c : Int} {T : List (List Int)} (hT : Tab c T) {B1 B2 : List Int} {x : Int} (h1 : B1 ∈ T) (h2 : B2 ∈ T) (hx : x ∈ B1) (hx2 : x ∉ B2) : ∃ y, y ∈ B2 ∧ y ∉ B1 ∧ m_exchanged B1 x y ∈ T := by
  have key : ∀ (n : Nat) (B : List Int), B ∈ T → x ∉ B → (∀ t ∈ B, t ∈ B1 ∨ t ∈ B2) → (B.filter fun t => !inB t B1).length ≤ n → ∃ y, y ∈ B2 ∧ y ∉ B1 ∧ m_exchanged B1 x y ∈ T := by
    intro n
    induction n with
    | zero =>
      intro B hB hxB hsub hn
      exfalso
      have hs : ∀ t ∈ B, t ∈ B1 := fun t ht => by
        cases hb : inB t B1 with
        | true => exact inB_t.mp hb
        | false =>
          have := List.length_pos_of_mem (List.mem_filter.mpr ⟨ht, by simp [hb]⟩ : t ∈ B.filter fun t => !inB t B1)
          omega
      have := ris_sub_eq (hT.ris B hB) (hT.ris B1 h1) hs (Nat.le_of_eq (hT.same h1 hB))
      exact hxB (this ▸ hx)
    | succ n ih =>
      intro B hB hxB hsub hn
      by_cases hz : ∃ z, z ∈ B1 ∧ z ≠ x ∧ z ∉ B
      · obtain ⟨z, z1, z2, z3⟩ := hz
        have hzb := (hT.ris B1 h1).2 z z1
        obtain ⟨w, w1, w2, wm⟩ := hT.ex B hB z hzb.1 hzb.2 z3 B1 h1 z1
        refine ih (m_exchanged B w z) wm (fun q => ?_) (fun t ht => ?_) ?_
        · rcases exch_mem.mp q with q | q
          · exact hxB q.1
          · exact z2 q.symm
        · rcases exch_mem.mp ht with q | q
          · exact hsub t q.1
          · exact .inl (q ▸ z1)
        · have hw : w ∈ B.filter fun t => !inB t B1 := List.mem_filter.mpr ⟨w1, by simp [inB_f.mpr w2]⟩
          have hnd : (B.filter fun t => !inB t B1).Nodup := (hT.ris B hB).nd.sublist List.filter_sublist
          have h3 := filt_len hnd hw
          have h4 := sub_len (a := (m_exchanged B w z).filter fun t => !inB t B1) (b := (B.filter fun t => !inB t B1).filter fun y => !decide (y = w)) ((hT.ris _ wm).nd.sublist List.filter_sublist) (fun t ht => by
            obtain ⟨t1, t2⟩ := List.mem_filter.mp ht
            have t2 : t ∉ B1 := by simpa [inB_f] using t2
            rcases exch_mem.mp t1 with q | q
            · exact List.mem_filter.mpr ⟨List.mem_filter.mpr ⟨q.1, by simp [inB_f.mpr t2]⟩, by simp [q.2]⟩
            · exact absurd (q ▸ z1) t2)
          omega
      · have hall : ∀ z ∈ B1, z ≠ x → z ∈ B := fun z z1 z2 => Classical.byContradiction fun z3 => hz ⟨z, z1, z2, z3⟩
        have hy : ∃ y, y ∈ B ∧ y ∉ B1 := by
          apply Classical.byContradiction
          intro hno
          have hs : ∀ t ∈ B, t ∈ B1 := fun t ht => Classical.byContradiction fun q => hno ⟨t, ht, q⟩
          have := ris_sub_eq (hT.ris B hB) (hT.ris B1 h1) hs (Nat.le_of_eq (hT.same h1 hB))
          exact hxB (this ▸ hx)
        obtain ⟨y, y1, y2⟩ := hy
        refine ⟨y, (hsub y y1).resolve_left y2, y2, ?_⟩
        have hr := exch_ris (out := x) (hT.ris B1 h1) ((hT.ris B hB).2 y y1) y2
        have : m_exchanged B1 x y = B := by
          refine ris_sub_eq hr (hT.ris B hB) (fun t ht => ?_) ?_
          · rcases exch_mem.mp ht with q | q
            · exact hall t q.1 q.2
            · exact q ▸ y1
          · rw [exch_len (hT.ris B1 h1).nd hx]
            exact Nat.le_of_eq (hT.same hB h1)
        rw [this]
        exact hB
  exact key _ B2 h2 hx2 (fun t ht => .inr ht) (Nat.le_refl _)
def leftRow (c : Int) (r : List Int) : List Int := (rng 0 c).filter fun t => (!inB t r)
theorem left_mem {c t : Int} {r : List Int} : t ∈ leftRow c r ↔ (0 ≤ t ∧ t < c) ∧ t ∉ r := by
  unfold leftRow
  rw [List.mem_filter, rng_mem, Bool.not_eq_true', inB_f]
theorem left_ris (c : Int) (r : List Int) : Ris c (leftRow c r) := (rng_ris (Int.le_refl _)).filter
theorem left_left {c : Int} {r : List Int} (h : Ris c r) : leftRow c (leftRow c r) = r := ris_ext (left_ris c _) h fun t => by
  rw [left_mem, left_mem]
  constructor
  · rintro ⟨a, b⟩
    apply Classical.byContradiction
    intro z
    exact b ⟨a, z⟩
  · intro a
    exact ⟨h.2 t a, fun z => z.2 a⟩
theorem left_tab {c : Int} {T : List (List Int)} (hT : Tab c T) : Tab c (T.map (leftRow c)) := by
  refine ⟨hT.c0, hT.c1, fun r hr => ?_, fun z => hT.ne (List.map_eq_nil_iff.mp z), ?_⟩
  · obtain ⟨B, _, rfl⟩ := List.mem_map.mp hr
    exact left_ris c B
  · intro one ho x h0 h1 hn other hoth hx
    obtain ⟨B1, hB1, rfl⟩ := List.mem_map.mp ho
    obtain ⟨B2, hB2, rfl⟩ := List.mem_map.mp hoth
    have hx1 : x ∈ B1 := Classical.byContradiction fun z => hn (left_mem.mpr ⟨⟨h0, h1⟩, z⟩)
    have hx2 := (left_mem.mp hx).2
    obtain ⟨y, y1, y2, ym⟩ := back_ex hT hB1 hB2 hx1 hx2
    have hyb := (hT.ris B2 hB2).2 y y1
    refine ⟨y, left_mem.mpr ⟨hyb, y2⟩, fun z => (left_mem.mp z).2 y1, List.mem_map.mpr ⟨_, ym, ?_⟩⟩
    refine ris_ext (c := c) (left_ris c _) (exch_ris (left_ris c B1) ⟨h0, h1⟩ hn) fun t => ?_
    rw [left_mem, exch_mem, exch_mem, left_mem]
    constructor
    · rintro ⟨a, b⟩
      by_cases hb : t ∈ B1
      · refine .inr (Classical.byContradiction fun z => b (.inl ⟨hb, z⟩))
      · exact .inl ⟨⟨a, hb⟩, fun z => b (.inr z)⟩
    · rintro (⟨⟨a, b⟩, d⟩ | rfl)
      · refine ⟨a, fun z => ?_⟩
        rcases z with z | z
        · exact b z.1
        · exact d z
      · refine ⟨⟨h0, h1⟩, fun z => ?_⟩
        rcases z with z | z
        · exact z.2 rfl
        · exact y2 (z ▸ hx1)
theorem left_turn {c : Int} {T s s' : List (List Int)} {i : Nat} {x : List Int} (h : s = (T.take i).map (leftRow c)) (hx : T[i]? = some x) (e : s' = s ++ [leftRow c x]) : s' = (T.take (i + 1)).map (leftRow c) := by
  rw [e, h, List.take_succ, hx]
  simp
theorem left_pw {c : Int} {T : List (List Int)} (hR : ∀ r ∈ T, Ris c r) (h : T.Nodup) : (T.map (leftRow c)).Nodup := by
  unfold List.Nodup
  rw [List.pairwise_map]
  refine List.Pairwise.imp_of_mem (fun {a b} ha hb hab z => hab ?_) h
  rw [← left_left (hR a ha), ← left_left (hR b hb), z]
/-- what the turned one has, in order -/
theorem left_full {c : Int} {T : List (List Int)} (hR : ∀ r ∈ T, Ris c r) (h : T.Nodup) : fullOf (T.map (leftRow c)) = srtL (T.map (leftRow c)) := full_the (pw_lt (srtL_pw _) ((srtL_perm _).nodup_iff.mpr (left_pw hR h))) fun x => by rw [srtL_mem]
theorem left_back {c : Int} {T : List (List Int)} (hR : ∀ r ∈ T, Ris c r) (h : T.Pairwise (· < ·)) : fullOf ((fullOf (T.map (leftRow c))).map (leftRow c)) = T := full_the h fun x => by
  rw [List.mem_map]
  constructor
  · rintro ⟨y, hy, rfl⟩
    rw [full_mem, List.mem_map] at hy
    obtain ⟨z, hz, rfl⟩ := hy
    rw [left_left (hR z hz)]
    exact hz
  · intro hx
    exact ⟨leftRow c x, full_mem.mpr (List.mem_map.mpr ⟨x, hx, rfl⟩), left_left (hR x hx)⟩
theorem wsum_split {c : Int} {ws r : List Int} (h : Ris c r) : wsum ws (leftRow c r) + wsum ws r = wsum ws (rng 0 c) := by
  have e : r = (rng 0 c).filter fun t => inB t r := ris_ext h ((rng_ris (Int.le_refl _)).filter) fun t => by
    rw [List.mem_filter, rng_mem, inB_t]
    exact ⟨fun a => ⟨h.2 t a, a⟩, fun a => a.2⟩
  have : ∀ (p : Int → Bool) (xs : List Int), wsum ws (xs.filter fun t => !p t) + wsum ws (xs.filter p) = wsum ws xs := by
    intro p xs
    induction xs with
    | nil => rfl
    | cons x xs ih =>
      unfold wsum at ih ⊢
      cases hp : p x with
      | true =>
        rw [List.filter_cons, if_neg (by simp [hp]), List.filter_cons, if_pos hp, List.map_cons, List.sum_cons, List.map_cons, List.sum_cons]
        omega
      | false =>
        rw [List.filter_cons, if_pos (by simp [hp]), List.filter_cons, if_neg (by simp [hp]), List.map_cons, List.sum_cons, List.map_cons, List.sum_cons]
        omega
  have h2 := this (fun t => inB t r) (rng 0 c)
  rw [← e] at h2
  exact h2
theorem wsum_neg {c : Int} {ws r : List Int} (h : Ris c r) (hl : (ws.length : Int) = c) : wsum (ws.map fun w => -w) r = -wsum ws r := by
  have : ∀ xs : List Int, (∀ t ∈ xs, 0 ≤ t ∧ t < c) → wsum (ws.map fun w => -w) xs = -wsum ws xs := by
    intro xs
    induction xs with
    | nil => intro _; rfl
    | cons x xs ih =>
      intro hx
      have h1 := ih fun t ht => hx t (List.mem_cons_of_mem _ ht)
      have h2 := neg_gi (ws := ws) (i := x) (by have := hx x List.mem_cons_self; omega)
      unfold wsum at h1 ⊢
      rw [List.map_cons, List.sum_cons, List.map_cons, List.sum_cons, h1, h2]
      omega
  exact this r h.2
/-- what is picked of the turned one leaves as much as what is picked -/
theorem left_best {c : Int} {T : List (List Int)} {ws o : List Int} (hT : Tab c T) (hl : (ws.length : Int) = c) (ho : o = srt (keptF (T.map (leftRow c)) (ordL (ws.map fun w => -w)))) :
    leftRow c o ∈ T ∧ wsum ws (leftRow c o) = wsum ws (srt (keptF T (ordL ws))) := by
  have hD := left_tab hT
  have hl2 : ((ws.map fun w => -w).length : Int) = c := by rw [List.length_map]; exact hl
  have mo : o ∈ T.map (leftRow c) := by rw [ho]; exact kept_full hD hl2
  obtain ⟨B, hB, e⟩ := List.mem_map.mp mo
  have hlo : leftRow c o = B := by rw [← e]; exact left_left (hT.ris B hB)
  rw [hlo]
  refine ⟨hB, Int.le_antisymm (best hT hl hB) ?_⟩
  have mg := kept_full hT hl
  have h1 := best hD hl2 (List.mem_map.mpr ⟨_, mg, rfl⟩ : leftRow c (srt (keptF T (ordL ws))) ∈ T.map (leftRow c))
  rw [← ho, ← e, wsum_neg (left_ris c _) hl, wsum_neg (left_ris c _) hl] at h1
  have h2 := wsum_split (ws := ws) (hT.ris B hB)
  have h3 := wsum_split (ws := ws) (hT.ris _ mg)
  omega
end MP
namespace MP
open PySem PySem.Spec PyProof.Rows L2 Rep
def pre__law_canM (_law_table_here : (List (List Int))) (_law_one : (List Int)) (_law_other : (List Int)) (_law_thing : Int) : Prop := _law_one.length ≤ 1000000
def pre__law_faultM (_law_count : Int) (_law_table_here : (List (List Int))) : Prop := 0 ≤ _law_count ∧ _law_count ≤ 1000 ∧ ∀ c ∈ _law_table_here, c.length ≤ 1000000
def pre_exchangedM (choice : (List Int)) (out : Int) (thing : Int) : Prop := choice.length ≤ 1000000
def pre_outs_ofM (known : Known) (choice : (List Int)) (thing : Int) : Prop := choice.length ≤ 1000000
def pre_faultM (count : Int) (table : (List (List Int))) : Prop := 0 ≤ count ∧ count ≤ 1000 ∧ ∀ c ∈ table, c.length ≤ 1000000
def m_RuleX (count : Int) (table : List (List Int)) : Except Exn RuleD :=
  (if decide ((table.length : Int) = 0) = true then .error .choice
  else bindX (bindX (mapX (m_sure_things count) table) fun rows => .ok (m_known_by rows)) fun known =>
    bnd (rowsT (srtT (known.ks.map Tup.mk))) fun full =>
      (if (!(m_fault count full).isNone) = true then .error .exchange else .ok ⟨count, full, ((gi full 0).length : Int)⟩))
def pre_RuleX (count : Int) (table : List (List Int)) : Prop := 0 ≤ count ∧ count ≤ 1000 ∧ ∀ c ∈ table, c.length ≤ 1000000
theorem bindX_is {α β : Type} {r : Except Exn α} {k : α → Except Exn β} {d : β} (h : bindX r k = .ok d) : ∃ x, r = .ok x ∧ k x = .ok d := by
  cases r with
  | ok x => exact ⟨x, rfl, h⟩
  | error x => cases h
theorem mapX_mem {α β : Type} {g : α → Except Exn β} : ∀ {xs : List α} {ys : List β}, mapX g xs = .ok ys → ∀ y ∈ ys, ∃ x ∈ xs, g x = .ok y
  | [], ys, h, y, hy => by
    cases h
    cases hy
  | x :: xs, ys, h, y, hy => by
    obtain ⟨z, h1, h2⟩ := bindX_is h
    obtain ⟨zs, h3, h4⟩ := bindX_is h2
    cases h4
    rcases List.mem_cons.mp hy with rfl | hy
    · exact ⟨x, List.mem_cons_self, h1⟩
    · obtain ⟨x', h5, h6⟩ := mapX_mem h3 y hy
      exact ⟨x', List.mem_cons_of_mem _ h5, h6⟩
theorem rowsX_all {count : Int} {table : List (List Int)} {kn : Known} (hd : bindX (mapX (m_sure_things count) table) (fun rows => .ok (m_known_by rows)) = .ok kn) (pl : ∀ c ∈ table, c.length ≤ 1000000) :
    (∀ c ∈ rowsT (srtT (kn.ks.map Tup.mk)), c.length ≤ 1000000) ∧ (table ≠ [] → rowsT (srtT (kn.ks.map Tup.mk)) ≠ []) := by
  obtain ⟨rows, h1, h2⟩ := bindX_is hd
  cases h2
  refine ⟨fun c hc => ?_, fun hne z => ?_⟩
  · have hm : c ∈ rows := full_mem.mp hc
    obtain ⟨x, hx, h3⟩ := mapX_mem h1 c hm
    rw [sure_len h3]
    exact pl x hx
  · have hl := mapX_len h1
    cases rows with
    | nil => exact hne (List.length_eq_zero_iff.mp hl.symm)
    | cons r rs =>
      have hm : r ∈ fullOf (r :: rs) := full_mem.mpr List.mem_cons_self
      have z' : fullOf (r :: rs) = [] := z
      rw [z'] at hm
      cases hm
def m__law_words (_law_choice : (List Int)) : Str :=
  (if (decide (_law_choice = ([] : (List Int)))) = true then ("-" : Str) else (Txt.join (" " : Str) (_law_choice.map fun (_law_thing_2 : Int) => (strI _law_thing_2))))
def pre__law_words (_law_choice : (List Int)) : Prop := _law_choice.length ≤ 1000 ∧ ∀ t ∈ _law_choice, 0 ≤ t ∧ t ≤ 99
def m_choice_shown (choice : (List Int)) : Str :=
  (if (decide (choice = ([] : (List Int)))) = true then ("-" : Str) else (Txt.join (" " : Str) (choice.map fun (thing_2 : Int) => (strI thing_2))))
def pre_choice_shown (choice : (List Int)) : Prop := choice.length ≤ 1000 ∧ ∀ t ∈ choice, 0 ≤ t ∧ t ≤ 99
def m_shown (rule : RuleD) : Str :=
  (((strI rule.count) ++ (": " : Str)) ++ (Txt.join (", " : Str) (rule.full.map fun (choice_1 : (List Int)) => (m_choice_shown choice_1))))
def pre_shown (rule : RuleD) : Prop := 0 ≤ rule.count ∧ rule.count ≤ 99 ∧ rule.full.length ≤ 1000 ∧ ∀ c ∈ rule.full, c.length ≤ 1000 ∧ ∀ t ∈ c, 0 ≤ t ∧ t ≤ 99
def m__law_sign_by (_law_cell : Int) : Str :=
  (bnd (" !\"#$&'()*+,-./0123456789:;<=>?@ABCDEFGHIJKLMNOPQRSTUVWXYZ[\\]^_`" : Str) fun (_law_some_1 : Str) => (bnd (_law_some_1 ++ ("abcdefghijklmnopqrstuvwxyz{|}~\n\t" : Str)) fun (_law_some_2 : Str) => (sgn _law_some_2 (_law_cell % (96 : Int)))))
def pre__law_sign_by (_law_cell : Int) : Prop := True
def m__law_changed (_law_text : Str) (_law_cell : Int) (_law_low : Int) : Str :=
  (bnd (_law_low + ((_law_cell / (768 : Int)) % (((_law_text.length : Int) + (1 : Int)) - _law_low))) fun (_law_at_1 : Int) => (joinC (fun (s_2 : Int) => (if (decide (((_law_cell / (8 : Int)) % (5 : Int)) = (0 : Int))) = true then ((cutS _law_text none (some s_2)) ++ (cutS _law_text (some (s_2 + (1 : Int))) none)) else (if (decide ((_law_cell % (2 : Int)) = (0 : Int))) = true then (((cutS _law_text none (some s_2)) ++ (sgn ("0123456789 ,:-" : Str) ((_law_cell / (8 : Int)) % (14 : Int)))) ++ (cutS _law_text (some s_2) none)) else (((cutS _law_text none (some s_2)) ++ (m__law_sign_by (_law_cell / (8 : Int)))) ++ (cutS _law_text (some s_2) none))))) fun kk => if (decide (((_law_cell / (2 : Int)) % (4 : Int)) = (0 : Int))) = true then (bnd (_law_text.length : Int) fun (_law_at_3 : Int) => (kk _law_at_3)) else (kk _law_at_1)))
def pre__law_changed (_law_text : Str) (_law_cell : Int) (_law_low : Int) : Prop := _law_text.length ≤ 500000 ∧ 0 ≤ _law_low ∧ _law_low ≤ _law_text.length
def m__law_odd_line (_law_cell : Int) : Str :=
  (bnd [("" : Str), ("3" : Str), ("3:" : Str), ("3: " : Str), (": 0" : Str), (" 3: 0" : Str), ("3 : 0" : Str), ("3:0" : Str), ("3: 0,1" : Str), ("3: 0 ,1" : Str), ("3:  0" : Str), ("3: 0, " : Str), ("3: -, -" : Str)] fun (_law_some_1 : (List Str)) => (bnd (_law_some_1 ++ [("3: 0 1,  1 2" : Str), ("03: 0" : Str), ("3: 00" : Str), ("3: +1" : Str), ("3: --" : Str), ("3: 0 -" : Str), ("3: 0: 1" : Str)]) fun (_law_some_2 : (List Str)) => (gi _law_some_2 (_law_cell % (20 : Int)))))
def pre__law_odd_line (_law_cell : Int) : Prop := True
def m__law_number (_law_word : Str) : Int :=
  (if ((decide (_law_word = ("" : Str))) || ((decide ((2 : Int) < (_law_word.length : Int))) || ((decide ((_law_word.length : Int) = (2 : Int))) && (decide ((sgn _law_word (0 : Int)) = ("0" : Str)))))) = true then (-(1 : Int)) else (forC (fun (_law_sign_7 : Str) (s_7 : Unit) kk => (if (!inS _law_sign_7 ("0123456789" : Str)) = true then (-(1 : Int)) else (kk ()))) (signs _law_word) () fun (s_7 : Unit) => (intD _law_word)))
def pre__law_number (_law_word : Str) : Prop := _law_word.length ≤ 1000000
def m__law_part (_law_part_here : Str) : (List Int) :=
  (if (decide (_law_part_here = ("-" : Str))) = true then ([] : (List Int)) else ((Txt.split _law_part_here (" " : Str)).map fun (_law_word_2 : Str) => (m__law_number _law_word_2)))
def pre__law_part (_law_part_here : Str) : Prop := _law_part_here.length ≤ 1000000
def m__law_read (_law_text : Str) : (Option (Int × (List (List Int)))) :=
  (bnd (Txt.find _law_text (": " : Str)) fun (_law_at_1 : Int) => (if ((decide (_law_at_1 < (0 : Int))) || ((decide ((0 : Int) ≤ (Txt.find (cutS _law_text (some (_law_at_1 + (1 : Int))) none) (": " : Str)))) || (decide ((m__law_number (cutS _law_text none (some _law_at_1))) < (0 : Int))))) = true then (none : Option (Int × (List (List Int)))) else (bnd ((Txt.split (cutS _law_text (some (_law_at_1 + (2 : Int))) none) (", " : Str)).map fun (_law_part_here_6 : Str) => (m__law_part _law_part_here_6)) fun (_law_table_here_7 : (List (List Int))) => (forC (fun (_law_choice_8 : (List Int)) (s_8 : Unit) kk => (if (inB (-(1 : Int)) _law_choice_8) = true then (none : Option (Int × (List (List Int)))) else (kk ()))) _law_table_here_7 () fun (s_8 : Unit) => (some ((m__law_number (cutS _law_text none (some _law_at_1))), _law_table_here_7))))))
def pre__law_read (_law_text : Str) : Prop := _law_text.length ≤ 900000
def m__law_sound (_law_count : Int) (_law_choice : (List Int)) : Bool :=
  (forC (fun (_law_k_1 : Int) (s_1 : Unit) kk => (if ((decide (_law_count ≤ (gi _law_choice _law_k_1))) || (inB (gi _law_choice _law_k_1) (cut _law_choice none (some _law_k_1)))) = true then false else (kk ()))) (rng 0 (_law_choice.length : Int)) () fun (s_1 : Unit) => true)
def pre__law_sound (_law_count : Int) (_law_choice : (List Int)) : Prop := True
def m__law_due (_law_told_here : (Option (Int × (List (List Int))))) : Int :=
  (if (_law_told_here.isNone) = true then (1 : Int) else (bnd (optv _law_told_here) fun (_law_told_here_2 : (Int × (List (List Int)))) => (forC (fun (_law_choice_3 : (List Int)) (s_3 : Unit) kk => (if (!(m__law_sound _law_told_here_2.1 _law_choice_3)) = true then (2 : Int) else (kk ()))) _law_told_here_2.2 () fun (s_3 : Unit) => (if (!(m__law_fault _law_told_here_2.1 (_law_told_here_2.2.map fun (_law_choice_5 : (List Int)) => (srt _law_choice_5))).isNone) = true then (3 : Int) else (0 : Int)))))
def pre__law_due (_law_told_here : (Option (Int × (List (List Int))))) : Prop := ∀ t, _law_told_here = some t → 0 ≤ t.1 ∧ t.1 ≤ 1000 ∧ ∀ c ∈ t.2, c.length ≤ 1000000
def m_number_of (word : Str) : (Except Exn Int) :=
  (if ((decide (word = ("" : Str))) || ((decide ((2 : Int) < (word.length : Int))) || ((decide ((word.length : Int) = (2 : Int))) && (decide ((sgn word (0 : Int)) = ("0" : Str)))))) = true then (.error .rule) else (forC (fun (sign_7 : Str) (s_7 : Unit) kk => (if (!inS sign_7 ("0123456789" : Str)) = true then (.error .rule) else (kk ()))) (signs word) () fun (s_7 : Unit) => (.ok (intD word))))
def pre_number_of (word : Str) : Prop := word.length ≤ 1000000
def m_choice_of (part : Str) : (Except Exn (List Int)) :=
  (if (decide (part = ("-" : Str))) = true then (.ok ([] : (List Int))) else (mapX (fun (word_2 : Str) => (m_number_of word_2)) (Txt.split part (" " : Str))))
def pre_choice_of (part : Str) : Prop := part.length ≤ 1000000
def m_read (text : Str) : (Except Exn RuleD) :=
  (bnd (Txt.split text (": " : Str)) fun (parts_1 : (List Str)) => (if (!decide ((parts_1.length : Int) = (2 : Int))) = true then (.error .rule) else (bindX (m_number_of (gi parts_1 (0 : Int))) fun u_0 => bindX (mapX (fun (part_3 : Str) => (m_choice_of part_3)) (Txt.split (gi parts_1 (1 : Int)) (", " : Str))) fun v_0 => m_RuleX u_0 v_0)))
def pre_read (text : Str) : Prop := text.length ≤ 900000
def m__law_told (_law_text : Str) : Int :=
  (tryX (m_read _law_text) (fun _ => (0 : Int)) fun (x_1 : Exn) => (if decide (x_1 = .rule) = true then (1 : Int) else (if decide (x_1 = .thing) = true then (2 : Int) else (3 : Int))))
def pre__law_told (_law_text : Str) : Prop := _law_text.length ≤ 900000
def m__law_refused_alone (_law_text : Str) : Bool :=
  (tryX (m_read _law_text) (fun _ => false) fun (x_1 : Exn) => (if decide (x_1 = .thing) = true then (bnd (false || (true || false)) fun (_law_other_5 : Bool) => (false && ((!_law_other_5) && (!false)))) else (if decide (x_1 = .choice) = true then (bnd (true || (false || false)) fun (_law_other_12 : Bool) => (false && ((!_law_other_12) && (!false)))) else (if decide (x_1 = .exchange) = true then (bnd (false || (false || true)) fun (_law_other_19 : Bool) => (false && ((!_law_other_19) && (!false)))) else (bnd (false || (false || false)) fun (_law_other_26 : Bool) => (true && ((!_law_other_26) && (!false))))))))
def pre__law_refused_alone (_law_text : Str) : Prop := _law_text.length ≤ 900000
def m_law (_law_script : Scr) : Bool :=
  (bnd (m__law_held _law_script) fun (_law_made_1 : (Int × (List (List Int)))) => (bnd _law_made_1.1 fun (_law_count_2 : Int) => (bnd (_law_made_1.2.map fun (_law_choice_3 : (List Int)) => (srt _law_choice_3)) fun (_law_table_here_4 : (List (List Int))) => (bnd (okv (m_RuleX _law_count_2 _law_table_here_4)) fun (_law_rule_5 : RuleD) => (bnd ([] : (List (List Int))) fun (_law_full_6 : (List (List Int))) => (forC (fun (_law_choice_7 : (List Int)) (s_7 : (List (List Int))) kk => (if (!inB _law_choice_7 s_7) = true then (bnd (s_7 ++ [_law_choice_7]) fun (_law_full_9 : (List (List Int))) => (kk _law_full_9)) else (kk s_7))) (srtL _law_table_here_4) _law_full_6 fun (s_7 : (List (List Int))) => (bnd (((strI _law_count_2) ++ (": " : Str)) ++ (Txt.join (", " : Str) (s_7.map fun (_law_choice_11 : (List Int)) => (m__law_words _law_choice_11)))) fun (_law_text_12 : Str) => (bnd (m_shown _law_rule_5) fun (_law_found_13 : Str) => (if ((!true) || (!decide (_law_found_13 = _law_text_12))) = true then false else (bnd (m__law_cell_at _law_script (3 : Int)) fun (_law_more_17 : Int) => (joinC (fun (s_18 : Str) => (joinC (fun (s_23 : Str) => (joinC (fun (s_25 : Str) => (bnd (m__law_read s_25) fun (_law_told_here_27 : (Option (Int × (List (List Int))))) => (bnd (m__law_due _law_told_here_27) fun (_law_due_here_28 : Int) => (if (!decide ((m__law_told s_25) = _law_due_here_28)) = true then false else (if (decide ((0 : Int) < _law_due_here_28)) = true then (((decide ((1 : Int) < _law_due_here_28)) || (m__law_refused_alone s_25)) && (decide ((m_shown (okv (m_read _law_found_13))) = _law_found_13))) else (bnd (optv _law_told_here_27) fun (_law_told_here_35 : (Int × (List (List Int)))) => (bnd (okv (m_read s_25)) fun (_law_held_here_36 : RuleD) => (bnd (okv (m_read ("3: 0 1, 0 2, 1 2" : Str))) fun (_law_other_37 : RuleD) => (bnd ([] : (List (List Int))) fun (_law_full_38 : (List (List Int))) => (forC (fun (_law_choice_40 : (List Int)) (s_40 : (List (List Int))) kk => (if (!inB _law_choice_40 s_40) = true then (bnd (s_40 ++ [_law_choice_40]) fun (_law_full_42 : (List (List Int))) => (kk _law_full_42)) else (kk s_40))) (srtL (_law_told_here_35.2.map fun (_law_choice_39 : (List Int)) => (srt _law_choice_39))) _law_full_38 fun (s_40 : (List (List Int))) => (if ((!decide ((m_shown _law_rule_5) = _law_found_13)) || ((!decide (_law_other_37.full = [[(0 : Int), (1 : Int)], [(0 : Int), (2 : Int)], [(1 : Int), (2 : Int)]])) || (!decide (_law_other_37.count = (3 : Int))))) = true then false else ((m__law_whole _law_held_here_36.count) && ((decide (_law_held_here_36.count = _law_told_here_35.1)) && (m__law_rows_are _law_held_here_36.full s_40)))))))))))))) fun kk => if (decide ((_law_more_17 % (4 : Int)) = (3 : Int))) = true then (bnd (m__law_odd_line (_law_more_17 / (4 : Int))) fun (_law_text_26 : Str) => (kk _law_text_26)) else (kk s_23))) fun kk => if (decide ((_law_more_17 % (4 : Int)) = (2 : Int))) = true then (bnd (m__law_changed s_18 (_law_more_17 / (4 : Int)) ((2 : Int) * (if (decide ((4 : Int) < (s_7.length : Int))) = true then (1 : Int) else 0))) fun (_law_text_24 : Str) => (kk _law_text_24)) else (kk s_18))) fun kk => if (decide ((_law_more_17 % (4 : Int)) = (1 : Int))) = true then (bnd (((s_7).reverse.map fun (_law_choice_19 : (List Int)) => (_law_choice_19).reverse) ++ [(gi s_7 ((_law_more_17 / (4 : Int)) % (s_7.length : Int)))]) fun (_law_turned_rows_20 : (List (List Int))) => (bnd (((strI _law_count_2) ++ (": " : Str)) ++ (Txt.join (", " : Str) (_law_turned_rows_20.map fun (_law_choice_21 : (List Int)) => (m__law_words _law_choice_21)))) fun (_law_text_22 : Str) => (kk _law_text_22))) else (kk _law_text_12))))))))))))
def pre_law (_law_script : Scr) : Prop := True
end MP
namespace MP
open PySem PySem.Spec PyProof.Rows L2 Rep
theorem due_some {o : Option (Int × List (List Int))} (h : ¬ 0 < m__law_due o) : ∃ t, o = some t := by
  cases o with
  | none => exact absurd (by decide) h
  | some t => exact ⟨t, rfl⟩
abbrev S (l : List Nat) : Str := SX.S l
abbrev tl (x : Str) : List Nat := TL.tl x
theorem S_tl (x : Str) : S (tl x) = x := TL.mk_tl x
theorem tl_S (l : List Nat) : tl (S l) = l := rfl
theorem str_of (s : String) {l : List Nat} (h : s.toList.map Char.toNat = l) : Str.ofString s = S l := TL.ext_tl (by rw [TL.tl_ofString]; exact h)
theorem lit_colon : (": " : Str) = S [58, 32] := str_of _ (by decide)
theorem lit_comma : (", " : Str) = S [44, 32] := str_of _ (by decide)
theorem lit_blank : (" " : Str) = S [32] := str_of _ (by decide)
theorem lit_dash : ("-" : Str) = S [45] := str_of _ (by decide)
theorem lit_nil : ("" : Str) = S [] := str_of _ (by decide)
theorem lit_zero : ("0" : Str) = S [48] := str_of _ (by decide)
theorem lit_figs : ("0123456789" : Str) = S [48, 49, 50, 51, 52, 53, 54, 55, 56, 57] := str_of _ (by decide)
theorem forC_any {α R : Type} {p : α → Bool} {a b : R} : ∀ xs : List α, forC (fun x (s : Unit) kk => if p x = true then a else kk ()) xs () (fun _ => b) = if xs.any p = true then a else b
  | [] => rfl
  | x :: xs => by
    show (if p x = true then a else forC (fun x (s : Unit) kk => if p x = true then a else kk ()) xs () (fun _ => b)) = _
    rw [forC_any xs, List.any_cons]
    cases p x <;> simp
/-! ### numbers read -/
def badW (w : Str) : Bool := (decide (w = ("" : Str))) || ((decide ((2 : Int) < (w.length : Int))) || ((decide ((w.length : Int) = (2 : Int))) && (decide ((sgn w (0 : Int)) = ("0" : Str)))))
def badS (w : Str) : Bool := (signs w).any fun s => !inS s ("0123456789" : Str)
theorem num_prog (w : Str) : m_number_of w = if badW w = true then .error .rule else if badS w = true then .error .rule else .ok (intD w) := by
  unfold m_number_of badW badS
  rw [forC_any (p := fun s => !inS s ("0123456789" : Str))]
theorem num_law (w : Str) : m__law_number w = if badW w = true then -1 else if badS w = true then -1 else intD w := by
  unfold m__law_number badW badS
  rw [forC_any (p := fun s => !inS s ("0123456789" : Str))]
theorem digit_mem {c : Nat} : c ∈ [48, 49, 50, 51, 52, 53, 54, 55, 56, 57] ↔ 48 ≤ c ∧ c ≤ 57 := by
  simp only [List.mem_cons, List.not_mem_nil, or_false]
  omega
theorem badS_no {l : List Nat} : badS (S l) = false ↔ ∀ c ∈ l, 48 ≤ c ∧ c ≤ 57 := by
  unfold badS signs
  rw [lit_figs, List.any_eq_false]
  constructor
  · intro h c hc
    have h1 := h ⟨#[c]⟩ (List.mem_map.mpr ⟨c, hc, rfl⟩)
    unfold inS at h1
    refine digit_mem.mp ?_
    simp at h1
    simp only [List.mem_cons, List.not_mem_nil, or_false]
    omega
  · intro h x hx
    obtain ⟨c, hc, rfl⟩ := List.mem_map.mp hx
    unfold inS
    have h2 := h c hc
    simp
    omega
theorem intD_S {l : List Nat} (h : ∀ c ∈ l, 48 ≤ c ∧ c ≤ 57) (hne : l ≠ []) (hl : l.length ≤ 4300) : PySem.intText? (S l) = some ((NumText.digitsVal l : Nat) : Int) :=
  SX.int_S (by rw [List.all_eq_true]; intro c hc; simpa using h c hc) hne hl
theorem good_len {l : List Nat} (h : badW (S l) = false) : l ≠ [] ∧ l.length ≤ 2 := by
  unfold badW at h
  simp only [Bool.or_eq_false_iff, decide_eq_false_iff_not] at h
  refine ⟨fun z => ?_, ?_⟩
  · subst z
    exact h.1 lit_nil.symm
  · have := h.2.1
    rw [SX.S_len] at this
    omega
theorem val_small {l : List Nat} (h : ∀ c ∈ l, 48 ≤ c ∧ c ≤ 57) (hl : l.length ≤ 2) : NumText.digitsVal l ≤ 99 := by
  unfold NumText.digitsVal
  match l, hl with
  | [], _ => simp
  | [a], _ =>
    have := h a (by simp)
    simp
    omega
  | [a, b], _ =>
    have h1 := h a (by simp)
    have h2 := h b (by simp)
    simp
    omega
theorem num_cases (w : Str) : (∃ n : Int, 0 ≤ n ∧ n ≤ 99 ∧ m_number_of w = .ok n ∧ m__law_number w = n) ∨ (m_number_of w = .error .rule ∧ m__law_number w = -1) := by
  rw [num_prog, num_law]
  by_cases h1 : badW w = true
  · rw [if_pos h1, if_pos h1]
    exact .inr ⟨rfl, rfl⟩
  · rw [if_neg h1, if_neg h1]
    by_cases h2 : badS w = true
    · rw [if_pos h2, if_pos h2]
      exact .inr ⟨rfl, rfl⟩
    · rw [if_neg h2, if_neg h2]
      refine .inl ⟨intD w, ?_, ?_, rfl, rfl⟩
      all_goals
        rw [← S_tl w] at h1 h2 ⊢
        have d := badS_no.mp (Bool.not_eq_true _ ▸ h2)
        obtain ⟨g1, g2⟩ := good_len (Bool.not_eq_true _ ▸ h1)
        unfold intD
        rw [intD_S d g1 (by omega)]
        have := val_small d g2
        show _ ≤ _
        simp
        try omega
/-! ### parts read -/
theorem part_cases (p : Str) : (∃ c, m_choice_of p = .ok c ∧ m__law_part p = c ∧ ∀ t ∈ c, 0 ≤ t ∧ t ≤ 99) ∨ (m_choice_of p = .error .rule ∧ (-1) ∈ m__law_part p) := by
  unfold m_choice_of m__law_part
  by_cases h : decide (p = ("-" : Str)) = true
  · rw [if_pos h, if_pos h]
    exact .inl ⟨[], rfl, rfl, fun t ht => by cases ht⟩
  · rw [if_neg h, if_neg h]
    have key : ∀ ws : List Str, (∃ c, mapX (fun w => m_number_of w) ws = .ok c ∧ ws.map (fun w => m__law_number w) = c ∧ ∀ t ∈ c, 0 ≤ t ∧ t ≤ 99) ∨ (mapX (fun w => m_number_of w) ws = .error .rule ∧ (-1) ∈ ws.map fun w => m__law_number w) := by
      intro ws
      induction ws with
      | nil => exact .inl ⟨[], rfl, rfl, fun t ht => by cases ht⟩
      | cons w ws ih =>
        unfold mapX
        rcases num_cases w with ⟨n, h0, h1, e1, e2⟩ | ⟨e1, e2⟩
        · rcases ih with ⟨c, e3, e4, h5⟩ | ⟨e3, h4⟩
          · refine .inl ⟨n :: c, by rw [e1, e3]; rfl, by rw [List.map_cons, e2, e4], fun t ht => ?_⟩
            rcases List.mem_cons.mp ht with rfl | ht
            · exact ⟨h0, h1⟩
            · exact h5 t ht
          · refine .inr ⟨by rw [e1, e3]; rfl, ?_⟩
            rw [List.map_cons]
            exact List.mem_cons_of_mem _ h4
        · refine .inr ⟨by rw [e1]; rfl, ?_⟩
          rw [List.map_cons, e2]
          exact List.mem_cons_self
    exact key _
theorem parts_cases : ∀ ps : List Str, (∃ v, mapX (fun p => m_choice_of p) ps = .ok v ∧ ps.map (fun p => m__law_part p) = v ∧ ∀ c ∈ v, ∀ t ∈ c, 0 ≤ t ∧ t ≤ 99) ∨ (mapX (fun p => m_choice_of p) ps = .error .rule ∧ ∃ c ∈ ps.map fun p => m__law_part p, (-1) ∈ c)
  | [] => .inl ⟨[], rfl, rfl, fun t ht => by cases ht⟩
  | p :: ps => by
    unfold mapX
    rcases part_cases p with ⟨n, e1, e2, h0⟩ | ⟨e1, e2⟩
    · rcases parts_cases ps with ⟨c, e3, e4, h5⟩ | ⟨e3, c, hc, h4⟩
      · refine .inl ⟨n :: c, by rw [e1, e3]; rfl, by rw [List.map_cons, e2, e4], fun t ht => ?_⟩
        rcases List.mem_cons.mp ht with rfl | ht
        · exact h0
        · exact h5 t ht
      · refine .inr ⟨by rw [e1, e3]; rfl, c, ?_, h4⟩
        rw [List.map_cons]
        exact List.mem_cons_of_mem _ hc
    · exact .inr ⟨by rw [e1]; rfl, _, by rw [List.map_cons]; exact List.mem_cons_self, e2⟩
/-! ### a text cut in two -/
theorem spl_ne (s : List Nat) : ∀ (k : Nat) (acc l : List Nat), TL.spl s k acc l ≠ []
  | k, acc, [] => by cases k <;> simp [TL.spl]
  | 0, acc, c :: r => by
    unfold TL.spl
    split
    · simp
    · exact spl_ne s 0 _ r
  | k + 1, acc, c :: r => by
    unfold TL.spl
    exact spl_ne s k acc r
theorem spl_none {s L : List Nat} (h : ∀ k, TL.pre s (L.drop k) = false) : TL.spl s 0 [] L = [L] := by
  have e := TL.spl_run s L L.length 0 [] (by omega) fun k _ _ => h k
  rw [List.drop_zero, Nat.zero_add, List.drop_length, TL.spl_nil, List.nil_append, List.take_length] at e
  exact e
theorem pre_lt {s L : List Nat} {i : Nat} (hs : s ≠ []) (h : TL.pre s (L.drop i) = true) : i + s.length ≤ L.length := by
  unfold TL.pre at h
  have e := eq_of_beq h
  have e2 := congrArg List.length e
  rw [List.length_take, List.length_drop] at e2
  have := List.length_pos_iff.mpr hs
  omega
theorem spl_first {s L : List Nat} {i : Nat} (hs : s ≠ []) (h : TL.pre s (L.drop i) = true) (hn : ∀ k, k < i → TL.pre s (L.drop k) = false) : TL.spl s 0 [] L = L.take i :: TL.spl s 0 [] (L.drop (i + s.length)) := by
  have hi := pre_lt hs h
  have e := TL.spl_run s L i 0 [] (by omega) fun k _ hk => hn k (by omega)
  rw [List.drop_zero, Nat.zero_add, List.nil_append] at e
  rw [e]
  exact TL.spl_at hs h
theorem find_S {x : Str} {s : List Nat} (hs : s ≠ []) : (Txt.find x (S s) = -1 ∧ ∀ i, TL.pre s ((tl x).drop i) = false) ∨ ∃ i : Nat, Txt.find x (S s) = (i : Int) ∧ TL.pre s ((tl x).drop i) = true ∧ ∀ k, k < i → TL.pre s ((tl x).drop k) = false := by
  rcases PyProof.Rows.find_whole x (S s) with ⟨h1, h2⟩ | ⟨i, h1, h2, h3⟩
  · exact .inl ⟨h1, fun i => TL.no_at (y := S s) hs (h2 i)⟩
  · exact .inr ⟨i, h1, (TL.at_iff (y := S s) hs i).mp h2, fun k hk => TL.no_at (y := S s) hs (h3 k hk)⟩
theorem cut_to (x : Str) (n : Nat) : tl (cutS x none (some (n : Int))) = (tl x).take n := by
  show ((x.cps.toList.drop (HT.sIx x.length 0 none)).take (HT.sIx x.length x.length (some (n : Int)) - HT.sIx x.length 0 none)).toArray.toList = _
  rw [HT.sIx_none, HT.sIx_nat, List.drop_zero, Nat.sub_zero]
  show x.cps.toList.take (min n x.length) = x.cps.toList.take n
  rw [TL.len_tl, ← List.take_take, List.take_length]
theorem cut_from (x : Str) (n : Nat) : tl (cutS x (some (n : Int)) none) = (tl x).drop n := by
  show ((x.cps.toList.drop (HT.sIx x.length 0 (some (n : Int)))).take (HT.sIx x.length x.length none - HT.sIx x.length 0 (some (n : Int)))).toArray.toList = _
  rw [HT.sIx_none, HT.sIx_nat]
  show (x.cps.toList.drop (min n x.length)).take (x.length - min n x.length) = x.cps.toList.drop n
  have hl : x.length = x.cps.toList.length := TL.len_tl x
  by_cases h : n ≤ x.length
  · rw [Nat.min_eq_left h, List.take_of_length_le (by rw [List.length_drop]; omega)]
  · rw [Nat.min_eq_right (by omega), Nat.sub_self, List.take_zero, List.drop_eq_nil_of_le (by omega)]
theorem split_two (x : Str) : (Txt.split x (": " : Str)).map tl = TL.spl [58, 32] 0 [] (tl x) := by
  have e := SX.split_S (a := tl x) (b := [58, 32]) (by simp) (by decide)
  rw [show SX.S (tl x) = x from TL.mk_tl x] at e
  rw [lit_colon, e]
  exact SX.map_S_tl _
theorem pre2 {L : List Nat} : TL.pre [58, 32] L = true ↔ ∃ r, L = 58 :: 32 :: r := by
  unfold TL.pre
  match L with
  | [] => simp
  | [a] => simp
  | a :: b :: r => simp
theorem text_cases (x : Str) :
    ((Txt.find x (": " : Str) < 0 ∨ 0 ≤ Txt.find (cutS x (some (Txt.find x (": " : Str) + 1)) none) (": " : Str)) ∧ (Txt.split x (": " : Str)).length ≠ 2) ∨
    (¬ Txt.find x (": " : Str) < 0 ∧ ¬ 0 ≤ Txt.find (cutS x (some (Txt.find x (": " : Str) + 1)) none) (": " : Str) ∧ Txt.split x (": " : Str) = [cutS x none (some (Txt.find x (": " : Str))), cutS x (some (Txt.find x (": " : Str) + 2)) none]) := by
  have hlen : (Txt.split x (": " : Str)).length = (TL.spl [58, 32] 0 [] (tl x)).length := by rw [← split_two, List.length_map]
  have e2 := split_two x
  rw [lit_colon] at hlen e2 ⊢
  rcases find_S (x := x) (s := [58, 32]) (by simp) with ⟨h1, h2⟩ | ⟨i, h1, h2, h3⟩
  · refine .inl ⟨.inl (by rw [h1]; decide), ?_⟩
    rw [hlen, spl_none h2]
    simp
  · have hs := spl_first (s := [58, 32]) (by simp) h2 h3
    have a1 : Txt.find x (S [58, 32]) + 1 = ((i + 1 : Nat) : Int) := by rw [h1]; rfl
    have a2 : Txt.find x (S [58, 32]) + 2 = ((i + 2 : Nat) : Int) := by rw [h1]; rfl
    rw [a1, a2]
    have t1 := cut_from x (i + 1)
    rcases find_S (x := cutS x (some ((i + 1 : Nat) : Int)) none) (s := [58, 32]) (by simp) with ⟨g1, g2⟩ | ⟨j, g1, g2, g3⟩
    · refine .inr ⟨by rw [h1]; omega, by rw [g1]; decide, ?_⟩
      have hn : ∀ k, TL.pre [58, 32] (((tl x).drop (i + 2)).drop k) = false := fun k => by
        have := g2 (k + 1)
        rw [t1, List.drop_drop] at this
        rw [List.drop_drop]
        rw [show i + 1 + (k + 1) = i + 2 + k by omega] at this
        exact this
      have e3 : TL.spl [58, 32] 0 [] (tl x) = [(tl x).take i, (tl x).drop (i + 2)] := by
        rw [hs]
        show _ :: TL.spl [58, 32] 0 [] ((tl x).drop (i + 2)) = _
        rw [spl_none hn]
      refine TL.map_tl_inj ?_
      refine e2.trans (e3.trans ?_)
      show _ = [tl _, tl _]
      rw [h1, cut_to, cut_from]
    · refine .inl ⟨.inr (by rw [g1]; omega), ?_⟩
      rw [hlen, hs]
      rw [t1, List.drop_drop] at g2
      obtain ⟨r, hr⟩ := pre2.mp h2
      have hj : j ≠ 0 := fun z => by
        subst z
        obtain ⟨r', hr'⟩ := pre2.mp g2
        have : (tl x).drop (i + 1) = ((tl x).drop i).drop 1 := by rw [List.drop_drop]
        rw [Nat.add_zero, this, hr] at hr'
        cases hr'
      have g2' : TL.pre [58, 32] (((tl x).drop (i + 2)).drop (j - 1)) = true := by
        rw [List.drop_drop, show i + 2 + (j - 1) = i + 1 + j by omega]
        exact g2
      intro hz
      have hone : (TL.spl [58, 32] 0 [] ((tl x).drop (i + 2))).length = 1 := by
        have hz' : (TL.spl [58, 32] 0 [] ((tl x).drop (i + 2))).length + 1 = 2 := by simpa using hz
        omega
      -- the first one
      have : ∃ k, TL.pre [58, 32] (((tl x).drop (i + 2)).drop k) = true ∧ ∀ m, m < k → TL.pre [58, 32] (((tl x).drop (i + 2)).drop m) = false := by
        rcases find_S (x := S ((tl x).drop (i + 2))) (s := [58, 32]) (by simp) with ⟨_, n2⟩ | ⟨k, _, k2, k3⟩
        · have := n2 (j - 1)
          rw [tl_S, g2'] at this
          cases this
        · exact ⟨k, k2, k3⟩
      obtain ⟨k, k2, k3⟩ := this
      rw [spl_first (by simp) k2 k3, List.length_cons] at hone
      have := List.length_pos_iff.mpr (spl_ne [58, 32] 0 [] (((tl x).drop (i + 2)).drop (k + [58, 32].length)))
      omega

theorem gi_0 {a b : Str} : gi [a, b] (0 : Int) = a := rfl
theorem gi_1 {a b : Str} : gi [a, b] (1 : Int) = b := rfl
theorem split_by (x : Str) {s : List Nat} (hs : s ≠ []) (hk : s.all (· < 256) = true) : (Txt.split x (S s)).map tl = TL.spl s 0 [] (tl x) := by
  have e := SX.split_S (a := tl x) (b := s) hs hk
  rw [show SX.S (tl x) = x from TL.mk_tl x] at e
  rw [e]
  exact SX.map_S_tl _
theorem split_some (x : Str) {s : List Nat} (hs : s ≠ []) (hk : s.all (· < 256) = true) : Txt.split x (S s) ≠ [] := fun z => by
  have e := split_by x hs hk
  rw [z] at e
  exact spl_ne s 0 [] (tl x) e.symm
theorem read_cases (x : Str) : (m__law_read x = none ∧ m_read x = .error .rule) ∨
    ∃ u v, m__law_read x = some (u, v) ∧ m_read x = m_RuleX u v ∧ 0 ≤ u ∧ u ≤ 99 ∧ v ≠ [] ∧ ∀ c ∈ v, ∀ t ∈ c, 0 ≤ t ∧ t ≤ 99 := by
  unfold m__law_read m_read
  show ((if _ = true then none else _) = none ∧ (if _ = true then Except.error Exn.rule else _) = _) ∨ ∃ u v, (if _ = true then none else _) = some (u, v) ∧ (if _ = true then Except.error Exn.rule else _) = _ ∧ _
  rcases text_cases x with ⟨h1, h2⟩ | ⟨h1, h2, h3⟩
  · refine .inl ⟨?_, ?_⟩
    · rw [if_pos]
      simp only [Bool.or_eq_true, decide_eq_true_eq]
      rcases h1 with h | h
      · exact .inl h
      · exact .inr (.inl h)
    · rw [if_pos]
      simp only [Bool.not_eq_true', decide_eq_false_iff_not]
      omega
  · have hb : ¬ (!decide (((Txt.split x (": " : Str)).length : Int) = 2)) = true := by
      rw [h3]
      simp
    rw [if_neg hb, h3, gi_0, gi_1]
    rcases num_cases (cutS x none (some (Txt.find x (": " : Str)))) with ⟨u, u0, u9, e1, e2⟩ | ⟨e1, e2⟩
    · rw [e1, e2]
      have hc : ¬ ((decide (Txt.find x (": " : Str) < (0 : Int))) || ((decide ((0 : Int) ≤ (Txt.find (cutS x (some (Txt.find x (": " : Str) + (1 : Int))) none) (": " : Str)))) || (decide (u < (0 : Int))))) = true := by
        simp only [Bool.or_eq_true, decide_eq_true_eq]
        omega
      rw [if_neg hc]
      show (forC _ _ _ _ = none ∧ bindX _ _ = _) ∨ ∃ u' v, forC _ _ _ _ = some (u', v) ∧ bindX _ _ = _ ∧ _
      rw [forC_any]
      rcases parts_cases (Txt.split (cutS x (some (Txt.find x (": " : Str) + 2)) none) (", " : Str)) with ⟨v, g1, g2, g3⟩ | ⟨g1, c, hc2, g2⟩
      · refine .inr ⟨u, v, ?_, ?_, u0, u9, ?_, g3⟩
        · rw [if_neg]
          · rw [← g2]
          · rw [g2, Bool.not_eq_true, List.any_eq_false]
            intro c hc
            rw [inB_t]
            intro hm
            have := (g3 c hc _ hm).1
            omega
        · rw [g1]
          rfl
        · rw [← g2, lit_comma]
          intro z
          exact split_some _ (by simp) (by decide) (List.map_eq_nil_iff.mp z)
      · refine .inl ⟨?_, ?_⟩
        · rw [if_pos]
          exact List.any_eq_true.mpr ⟨c, hc2, inB_t.mpr g2⟩
        · rw [g1]
          rfl
    · rw [e1, e2]
      refine .inl ⟨?_, rfl⟩
      rw [if_pos]
      simp
/-! ### what is due -/
instance {c : Int} {xs : List Int} : Decidable (SureOk c xs) := by
  unfold SureOk
  infer_instance
theorem any_eq {α : Type} {p q : α → Bool} : ∀ {xs : List α}, (∀ x ∈ xs, p x = q x) → xs.any p = xs.any q
  | [], _ => rfl
  | x :: xs, h => by rw [List.any_cons, List.any_cons, h x List.mem_cons_self, any_eq fun y hy => h y (List.mem_cons_of_mem _ hy)]
theorem sound_eq {c : Int} {xs : List Int} (hp : ∀ t ∈ xs, 0 ≤ t) : m__law_sound c xs = decide (SureOk c xs) := by
  have h1 : m__law_sound c xs = if (rng 0 (xs.length : Int)).any (fun k => (decide (c ≤ gi xs k)) || inB (gi xs k) (cut xs none (some k))) = true then false else true := by
    unfold m__law_sound
    exact forC_any (p := fun k => (decide (c ≤ gi xs k)) || inB (gi xs k) (cut xs none (some k))) _
  have h2 : m_sure_things c xs = if (rng 0 (xs.length : Int)).any (fun k => (!((decide ((0 : Int) ≤ gi xs k)) && (decide (gi xs k < c)))) || inB (gi xs k) (cut xs none (some k))) = true then .error .thing else .ok (srt xs) := by
    unfold m_sure_things
    exact forC_any (p := fun k => (!((decide ((0 : Int) ≤ gi xs k)) && (decide (gi xs k < c)))) || inB (gi xs k) (cut xs none (some k))) _
  have e : (rng 0 (xs.length : Int)).any (fun k => (decide (c ≤ gi xs k)) || inB (gi xs k) (cut xs none (some k))) = (rng 0 (xs.length : Int)).any (fun k => (!((decide ((0 : Int) ≤ gi xs k)) && (decide (gi xs k < c)))) || inB (gi xs k) (cut xs none (some k))) := any_eq fun k hk => by
    have hk := rng_mem.mp hk
    have h0 := hp _ (gi_mem (xs := xs) (i := k) (by omega))
    congr 1
    rw [Bool.eq_iff_iff]
    simp only [decide_eq_true_eq, Bool.not_eq_true', Bool.and_eq_false_iff, decide_eq_false_iff_not]
    omega
  rw [h1, e]
  rcases sure_spec (c := c) (xs := xs) with ⟨y, z⟩ | ⟨n, z⟩
  · rw [h2] at z
    split at z
    · cases z
    · rename_i q
      rw [if_neg q, decide_eq_true y]
  · rw [h2] at z
    split at z
    · rename_i q
      rw [if_pos q, decide_eq_false n]
    · cases z
theorem mapX_bad {c : Int} : ∀ {T : List (List Int)}, (∃ x ∈ T, ¬ SureOk c x) → mapX (m_sure_things c) T = .error .thing
  | [], h => by
    obtain ⟨x, hx, _⟩ := h
    cases hx
  | x :: xs, h => by
    unfold mapX
    by_cases hs : SureOk c x
    · rw [sure_ok hs]
      have : ∃ y ∈ xs, ¬ SureOk c y := by
        obtain ⟨y, hy, hn⟩ := h
        rcases List.mem_cons.mp hy with rfl | hy
        · exact absurd hs hn
        · exact ⟨y, hy, hn⟩
      rw [mapX_bad this]
      rfl
    · rw [sure_no hs]
      rfl
theorem mapX_good {c : Int} : ∀ {T : List (List Int)}, (∀ x ∈ T, SureOk c x) → mapX (m_sure_things c) T = .ok (T.map fun x => srt x)
  | [], h => rfl
  | x :: xs, h => by
    unfold mapX
    rw [sure_ok (h x List.mem_cons_self), mapX_good fun y hy => h y (List.mem_cons_of_mem _ hy)]
    rfl
theorem ex_of {c : Int} {T : List (List Int)} (h : ExOk c (fullOf T)) : ExOk c T := fun one ho t h0 h1 hn other hoth hto => by
  obtain ⟨out, a, b, m⟩ := h one (full_mem.mpr ho) t h0 h1 hn other (full_mem.mpr hoth) hto
  exact ⟨out, a, b, full_mem.mp m⟩
theorem due_eq (c : Int) (T : List (List Int)) : m__law_due (some (c, T)) = if T.any (fun x => !m__law_sound c x) = true then 2 else if (!(m__law_fault c (T.map fun x => srt x)).isNone) = true then 3 else 0 := by
  unfold m__law_due
  show (if (none : Option (Int × List (List Int))).isSome = true then (1 : Int) else forC _ _ _ _) = _
  rw [if_neg (by decide), forC_any]
  rfl
theorem tabX {c : Int} {T : List (List Int)} (h : Tab c T) : m_RuleX c T = .ok (ruleOf c T) := by
  have hs : ∀ x ∈ T, SureOk c x := fun x hx => (h.ris x hx).sure
  have hl : ¬ decide ((T.length : Int) = 0) = true := by
    have := List.length_pos_iff.mpr h.ne
    simp only [decide_eq_true_eq]
    omega
  unfold m_RuleX
  rw [if_neg hl, mapX_good hs, map_srt h.ris]
  show (if (!(m_fault c (fullOf T)).isNone) = true then .error .exchange else .ok (ruleOf c T) : Except Exn RuleD) = _
  rw [fault_eq, fault_none.mpr (ex_full h.ex)]
  rfl
theorem due_cases {c : Int} {T : List (List Int)} (h : T ≠ []) (hp : ∀ r ∈ T, ∀ t ∈ r, 0 ≤ t ∧ t ≤ 99) : (m__law_due (some (c, T)) = 2 ∧ m_RuleX c T = .error .thing) ∨ (m__law_due (some (c, T)) = 3 ∧ m_RuleX c T = .error .exchange) ∨
    (m__law_due (some (c, T)) = 0 ∧ (∀ x ∈ T, SureOk c x) ∧ ExOk c (T.map fun x => srt x) ∧ m_RuleX c T = .ok (ruleOf c (T.map fun x => srt x))) := by
  rw [due_eq]
  have hl : ¬ decide ((T.length : Int) = 0) = true := by
    have := List.length_pos_iff.mpr h
    simp only [decide_eq_true_eq]
    omega
  have hS : ∀ x ∈ T, m__law_sound c x = decide (SureOk c x) := fun x hx => sound_eq fun t ht => (hp x hx t ht).1
  by_cases ha : T.any (fun x => !m__law_sound c x) = true
  · rw [if_pos ha]
    refine .inl ⟨rfl, ?_⟩
    obtain ⟨x, hx, hn⟩ := List.any_eq_true.mp ha
    unfold m_RuleX
    rw [if_neg hl, mapX_bad ⟨x, hx, by rw [hS x hx] at hn; simpa using hn⟩]
    rfl
  · rw [if_neg ha]
    refine .inr ?_
    have hs : ∀ x ∈ T, SureOk c x := fun x hx => by
      apply Classical.byContradiction
      intro hn
      exact ha (List.any_eq_true.mpr ⟨x, hx, by rw [hS x hx, decide_eq_false hn]; rfl⟩)
    have hX : m_RuleX c T = if (!(m_fault c (fullOf (T.map fun x => srt x))).isNone) = true then .error .exchange else .ok (ruleOf c (T.map fun x => srt x)) := by
      unfold m_RuleX
      rw [if_neg hl, mapX_good hs]
      rfl
    rw [hX, fault_eq]
    by_cases hf : m__law_fault c (T.map fun x => srt x) = none
    · have hx := fault_none.mp hf
      rw [hf, fault_none.mpr (ex_full hx)]
      exact .inr ⟨rfl, hs, hx, rfl⟩
    · have hg : m__law_fault c (fullOf (T.map fun x => srt x)) ≠ none := fun z => hf (fault_none.mpr (ex_of (fault_none.mp z)))
      have nn : ∀ {o : Option (Tri (List Int) (List Int) Int)}, o ≠ none → (!o.isNone) = true := fun {o} ho => by
        cases o with
        | none => exact absurd rfl ho
        | some _ => rfl
      rw [if_pos (nn hf), if_pos (nn hg)]
      exact .inl ⟨rfl, rfl⟩
/-- what is read, and what is due -/
theorem all_cases (x : Str) : (m__law_read x = none ∧ m__law_due (m__law_read x) = 1 ∧ m_read x = .error .rule) ∨ (m__law_due (m__law_read x) = 2 ∧ m_read x = .error .thing) ∨ (m__law_due (m__law_read x) = 3 ∧ m_read x = .error .exchange) ∨
    (m__law_due (m__law_read x) = 0 ∧ ∃ t, m__law_read x = some t ∧ Tab t.1 (t.2.map fun r => srt r) ∧ m_read x = .ok (ruleOf t.1 (t.2.map fun r => srt r))) := by
  rcases read_cases x with ⟨h1, h2⟩ | ⟨u, v, h1, h2, u0, u9, ne, hp⟩
  · exact .inl ⟨h1, by rw [h1]; rfl, h2⟩
  · rw [h1, h2]
    refine .inr ?_
    rcases due_cases (c := u) ne hp with ⟨e1, e2⟩ | ⟨e1, e2⟩ | ⟨e1, hs, hx, e2⟩
    · exact .inl ⟨e1, e2⟩
    · exact .inr (.inl ⟨e1, e2⟩)
    · refine .inr (.inr ⟨e1, (u, v), rfl, ⟨u0, u9, fun r hr => ?_, fun z => ne (List.map_eq_nil_iff.mp z), hx⟩, e2⟩)
      obtain ⟨y, hy, rfl⟩ := List.mem_map.mp hr
      exact srt_ris (hs y hy)
theorem told_eq (x : Str) : m__law_told x = m__law_due (m__law_read x) := by
  unfold m__law_told
  rcases all_cases x with ⟨_, e, h⟩ | ⟨e, h⟩ | ⟨e, h⟩ | ⟨e, t, _, _, h⟩ <;> rw [e, h] <;> rfl
theorem alone_eq {x : Str} (h : m__law_due (m__law_read x) = 1) : m__law_refused_alone x = true := by
  rcases all_cases x with ⟨_, e, hr⟩ | ⟨e, hr⟩ | ⟨e, hr⟩ | ⟨e, t, _, _, hr⟩
  · unfold m__law_refused_alone
    rw [hr]
    rfl
  · rw [e] at h; cases h
  · rw [e] at h; cases h
  · rw [e] at h; cases h
theorem read_err {x : Str} {y : Exn} (h : m_read x = .error y) : y = .rule ∨ y = .thing ∨ y = .exchange := by
  rcases all_cases x with ⟨_, e, hr⟩ | ⟨e, hr⟩ | ⟨e, hr⟩ | ⟨e, t, _, _, hr⟩ <;> rw [hr] at h <;> cases h <;> simp
theorem read_err2 {x : Str} {y : Exn} (h : m_read x = .error y) : y = .thing ∨ y = .choice ∨ y = .exchange ∨ y = .rule := by
  rcases read_err h with z | z | z <;> simp [z]

/-! ### what is shown -/
def textOf (c : Int) (U : List (List Int)) : Str := ((strI c) ++ (": " : Str)) ++ (Txt.join (", " : Str) (U.map fun r => m_choice_shown r))
theorem words_eq (r : List Int) : m__law_words r = m_choice_shown r := rfl
theorem shown_eq (r : RuleD) : m_shown r = textOf r.count r.full := rfl
def Things (r : List Int) : Prop := ∀ t ∈ r, 0 ≤ t ∧ t ≤ 99
theorem strI_S {t : Int} (h : 0 ≤ t) : strI t = S (TL.numL t.toNat) := by
  obtain ⟨n, rfl⟩ : ∃ n : Nat, t = (n : Int) := ⟨t.toNat, by omega⟩
  exact SX.num_S n
theorem strI_tl {t : Int} (h : 0 ≤ t) : tl (strI t) = TL.numL t.toNat := by rw [strI_S h]
theorem strI_len {t : Int} (h : 0 ≤ t ∧ t ≤ 99) : (strI t).length ≤ 2 := by
  rw [TL.len_tl, show TL.tl (strI t) = _ from strI_tl h.1]
  exact TL.numL_len (by decide) (by omega)
theorem numL_first {n : Nat} (h : (TL.numL n).length = 2) : ∃ a b, TL.numL n = [a, b] ∧ a ≠ 48 := by
  by_cases h1 : n < 10
  · rw [TL.numL_lt h1] at h
    cases h
  · have e := TL.numL_step (n := n) (by omega)
    by_cases h2 : n / 10 < 10
    · rw [TL.numL_lt h2] at e
      exact ⟨_, _, e, by omega⟩
    · rw [e, List.length_append, TL.numL_step (n := n / 10) (by omega), List.length_append] at h
      have := List.length_pos_iff.mpr (TL.numL_ne (n / 10 / 10))
      simp only [List.length_cons, List.length_nil] at h
      omega
theorem num_back {t : Int} (h : 0 ≤ t ∧ t ≤ 99) : m_number_of (strI t) = .ok t := by
  rw [num_prog, strI_S h.1]
  have d : ∀ c ∈ TL.numL t.toNat, 48 ≤ c ∧ c ≤ 57 := fun c hc => TL.numL_digits _ c hc
  have hl : (TL.numL t.toNat).length ≤ 2 := TL.numL_len (by decide) (by omega)
  have hb : badW (S (TL.numL t.toNat)) = false := by
    unfold badW
    simp only [Bool.or_eq_false_iff, Bool.and_eq_false_iff, decide_eq_false_iff_not]
    refine ⟨fun z => TL.numL_ne t.toNat (SX.S_inj (z.trans lit_nil)), by rw [SX.S_len]; omega, ?_⟩
    by_cases h2 : (TL.numL t.toNat).length = 2
    · refine .inr ?_
      obtain ⟨a, b, e, ha⟩ := numL_first h2
      rw [e]
      intro z
      have z2 : S [a] = S [48] := z.trans lit_zero
      have := SX.S_inj z2
      cases this
      exact ha rfl
    · refine .inl ?_
      rw [SX.S_len]
      omega
  rw [if_neg (by rw [hb]; decide), if_neg (by rw [badS_no.mpr d]; decide)]
  unfold intD
  rw [intD_S d (TL.numL_ne _) (by omega), TL.numL_val]
  show Except.ok ((t.toNat : Int)) = _
  rw [Int.toNat_of_nonneg h.1]
theorem joinL_mem {s : List Nat} {c : Nat} : ∀ {ps : List (List Nat)}, c ∈ TL.joinL s ps → c ∈ s ∨ ∃ p ∈ ps, c ∈ p
  | [], h => by cases h
  | [p], h => .inr ⟨p, List.mem_cons_self, h⟩
  | p :: q :: r, h => by
    rcases List.mem_append.mp (show c ∈ p ++ (s ++ TL.joinL s (q :: r)) from h) with h | h
    · exact .inr ⟨p, List.mem_cons_self, h⟩
    · rcases List.mem_append.mp h with h | h
      · exact .inl h
      · rcases joinL_mem h with h | ⟨x, hx, h⟩
        · exact .inl h
        · exact .inr ⟨x, List.mem_cons_of_mem _ hx, h⟩
theorem joinL_len {s : List Nat} {m : Nat} : ∀ {ps : List (List Nat)}, (∀ p ∈ ps, p.length ≤ m) → (TL.joinL s ps).length ≤ ps.length * (m + s.length)
  | [], _ => by simp [TL.joinL]
  | [p], h => by
    have := h p List.mem_cons_self
    show p.length ≤ _
    simp
    omega
  | p :: q :: r, h => by
    have h1 := h p List.mem_cons_self
    have h2 := joinL_len (s := s) (ps := q :: r) fun x hx => h x (List.mem_cons_of_mem _ hx)
    show (p ++ (s ++ TL.joinL s (q :: r))).length ≤ _
    rw [List.length_append, List.length_append]
    rw [List.length_cons, Nat.succ_mul]
    omega
theorem join_tl (y : Str) (ps : List Str) : tl (Txt.join y ps) = TL.joinL (tl y) (ps.map tl) := by
  rw [TL.join_eq]
  exact TL.tl_join y ps
theorem shown_mem {r : List Int} (h : Things r) {c : Nat} (hc : c ∈ tl (m_choice_shown r)) : c = 45 ∨ c = 32 ∨ (48 ≤ c ∧ c ≤ 57) := by
  unfold m_choice_shown at hc
  split at hc
  · rw [lit_dash] at hc
    exact .inl (List.mem_singleton.mp hc)
  · rw [join_tl, lit_blank] at hc
    rcases joinL_mem hc with hc | ⟨p, hp, hc⟩
    · exact .inr (.inl (List.mem_singleton.mp hc))
    · rw [List.map_map] at hp
      obtain ⟨t, ht, rfl⟩ := List.mem_map.mp hp
      have hc : c ∈ tl (strI t) := hc
      rw [strI_tl (h t ht).1] at hc
      exact .inr (.inr (TL.numL_digits _ c hc))
theorem mapX_back {α β : Type} {g : β → Except Exn α} {f : α → β} : ∀ {xs : List α}, (∀ x ∈ xs, g (f x) = .ok x) → mapX g (xs.map f) = .ok xs
  | [], _ => rfl
  | x :: xs, h => by
    rw [List.map_cons]
    unfold mapX
    rw [h x List.mem_cons_self, mapX_back fun y hy => h y (List.mem_cons_of_mem _ hy)]
    rfl
theorem choice_back {r : List Int} (h : Things r) : m_choice_of (m_choice_shown r) = .ok r := by
  by_cases hr : r = []
  · subst hr
    rfl
  · have e : m_choice_shown r = Txt.join (" " : Str) (r.map fun t => strI t) := by
      unfold m_choice_shown
      rw [if_neg (by simpa using hr)]
    have hn : ¬ decide (m_choice_shown r = ("-" : Str)) = true := by
      rw [decide_eq_true_eq, e]
      intro z
      have hz := congrArg tl z
      rw [join_tl, lit_blank, lit_dash] at hz
      have hm : 45 ∈ TL.joinL (tl (S [32])) ((r.map fun t => strI t).map tl) := by
        rw [hz]
        exact List.mem_singleton.mpr rfl
      rcases joinL_mem hm with hc | ⟨p, hp, hc⟩
      · cases hc with
        | tail _ h => cases h
      · rw [List.map_map] at hp
        obtain ⟨t, ht, rfl⟩ := List.mem_map.mp hp
        have hc : 45 ∈ tl (strI t) := hc
        rw [strI_tl (h t ht).1] at hc
        have := (TL.numL_digits _ _ hc).1
        omega
    unfold m_choice_of
    rw [if_neg hn, e]
    rw [TL.split_join (s := 32) (S := []) (by rw [lit_blank]) (by rw [lit_blank]; exact SX.all256 (by decide)) (by simpa using hr) fun p hp => by
      obtain ⟨t, ht, rfl⟩ := List.mem_map.mp hp
      rw [show TL.tl (strI t) = _ from strI_tl (h t ht).1]
      exact TL.numL_free (.inl (by decide))]
    exact mapX_back fun t ht => num_back (h t ht)
theorem rest_free {U : List (List Int)} (h : ∀ r ∈ U, Things r) : 58 ∉ tl (Txt.join (", " : Str) (U.map fun r => m_choice_shown r)) := fun hm => by
  rw [join_tl, lit_comma] at hm
  rcases joinL_mem hm with hc | ⟨p, hp, hc⟩
  · revert hc
    decide
  · rw [List.map_map] at hp
    obtain ⟨r, hr, rfl⟩ := List.mem_map.mp hp
    have := shown_mem (h r hr) hc
    omega
theorem read_text {c : Int} {U : List (List Int)} (hc : 0 ≤ c ∧ c ≤ 99) (hU : U ≠ []) (h : ∀ r ∈ U, Things r) : m_read (textOf c U) = m_RuleX c U := by
  have e : textOf c U = Txt.join (": " : Str) [strI c, Txt.join (", " : Str) (U.map fun r => m_choice_shown r)] := by
    rw [TL.join_eq]
    rfl
  have e2 : Txt.split (textOf c U) (": " : Str) = [strI c, Txt.join (", " : Str) (U.map fun r => m_choice_shown r)] := by
    rw [e]
    refine TL.split_join (s := 58) (S := [32]) (by rw [lit_colon]) (by rw [lit_colon]; exact SX.all256 (by decide)) (by simp) fun p hp => ?_
    rcases List.mem_cons.mp hp with rfl | hp
    · rw [show TL.tl (strI c) = _ from strI_tl hc.1]
      exact TL.numL_free (.inr (by decide))
    · rw [List.mem_singleton.mp hp]
      exact rest_free h
  have e3 : Txt.split (Txt.join (", " : Str) (U.map fun r => m_choice_shown r)) (", " : Str) = U.map fun r => m_choice_shown r := by
    refine TL.split_join (s := 44) (S := [32]) (by rw [lit_comma]) (by rw [lit_comma]; exact SX.all256 (by decide)) (by simpa using hU) fun p hp => ?_
    obtain ⟨r, hr, rfl⟩ := List.mem_map.mp hp
    intro hm
    have := shown_mem (h r hr) hm
    omega
  unfold m_read
  show (if _ = true then _ else _) = _
  rw [e2, if_neg (by simp), gi_0, gi_1, num_back hc, e3]
  show bindX (mapX _ _) _ = _
  rw [mapX_back (f := fun r => m_choice_shown r) fun r hr => choice_back (h r hr)]
  rfl
/-! ### a small rule -/
theorem three_ex : ExOk 3 [[0, 1], [0, 2], [1, 2]] := by
  have a1 : m_exchanged [0, 1] 1 2 = [0, 2] := (srt_the (by decide) (by decide)).symm
  have a2 : m_exchanged [0, 1] 0 2 = [1, 2] := (srt_the (by decide) (by decide)).symm
  have a3 : m_exchanged [0, 2] 2 1 = [0, 1] := (srt_the (by decide) (by decide)).symm
  have a4 : m_exchanged [0, 2] 0 1 = [1, 2] := (srt_the (by decide) (by decide)).symm
  have a5 : m_exchanged [1, 2] 2 0 = [0, 1] := (srt_the (by decide) (by decide)).symm
  have a6 : m_exchanged [1, 2] 1 0 = [0, 2] := (srt_the (by decide) (by decide)).symm
  intro one ho t h0 h1 hn other hoth hto
  simp only [List.mem_cons, List.not_mem_nil, or_false] at ho hoth
  rcases ho with rfl | rfl | rfl
  · have : t = 2 := by simp at hn; omega
    subst this
    rcases hoth with rfl | rfl | rfl
    · simp at hto
    · exact ⟨1, by decide, by decide, by rw [a1]; decide⟩
    · exact ⟨0, by decide, by decide, by rw [a2]; decide⟩
  · have : t = 1 := by simp at hn; omega
    subst this
    rcases hoth with rfl | rfl | rfl
    · exact ⟨2, by decide, by decide, by rw [a3]; decide⟩
    · simp at hto
    · exact ⟨0, by decide, by decide, by rw [a4]; decide⟩
  · have : t = 0 := by simp at hn; omega
    subst this
    rcases hoth with rfl | rfl | rfl
    · exact ⟨2, by decide, by decide, by rw [a5]; decide⟩
    · exact ⟨1, by decide, by decide, by rw [a6]; decide⟩
    · simp at hto
theorem three_tab : Tab 3 [[0, 1], [0, 2], [1, 2]] := by
  refine ⟨by decide, by decide, fun r hr => ?_, by simp, three_ex⟩
  simp only [List.mem_cons, List.not_mem_nil, or_false] at hr
  rcases hr with rfl | rfl | rfl
  · exact ⟨by simp, fun t ht => by simp at ht; omega⟩
  · exact ⟨by simp, fun t ht => by simp at ht; omega⟩
  · exact ⟨by simp, fun t ht => by simp at ht; omega⟩
theorem three_full : fullOf [[0, 1], [0, 2], [1, 2]] = [[0, 1], [0, 2], [1, 2]] := full_the (by decide) fun x => Iff.rfl
theorem three_text : ("3: 0 1, 0 2, 1 2" : Str) = textOf 3 [[0, 1], [0, 2], [1, 2]] := by decide +kernel
theorem three_read : m_read ("3: 0 1, 0 2, 1 2" : Str) = .ok (ruleOf 3 [[0, 1], [0, 2], [1, 2]]) := by
  rw [three_text, read_text (by decide) (by simp) (fun r hr => ?_), tabX three_tab]
  intro t ht
  have := (three_tab.ris r hr).2 t ht
  omega

/-! ### sizes -/
theorem sum_le {m : Nat} : ∀ {ys : List Str}, (∀ y ∈ ys, y.length ≤ m) → (ys.map (·.length)).sum ≤ ys.length * m
  | [], _ => by simp
  | y :: ys, h => by
    have h1 := h y List.mem_cons_self
    have h2 := sum_le fun z hz => h z (List.mem_cons_of_mem _ hz)
    rw [List.map_cons, List.sum_cons, List.length_cons, Nat.succ_mul]
    omega
theorem big_ok {c : Int} (h : 0 ≤ c ∧ c ≤ 99) : c.natAbs < 2 ^ 1000 := Nat.lt_of_le_of_lt (show c.natAbs ≤ 99 by omega) (by decide)
theorem len_colon : (": " : Str).length = 2 := by rw [lit_colon]; rfl
theorem len_comma : (", " : Str).length = 2 := by rw [lit_comma]; rfl
theorem len_blank : (" " : Str).length = 1 := by rw [lit_blank]; rfl
theorem words_sz {r : List Int} (hl : r.length ≤ 1000) (h : Things r) : ((r.map fun t => strI t).map (·.length)).sum + (r.map fun t => strI t).length * (" " : Str).length ≤ 16777216 := by
  have h1 := sum_le (m := 2) (ys := r.map fun t => strI t) fun y hy => by
    obtain ⟨t, ht, rfl⟩ := List.mem_map.mp hy
    exact strI_len (h t ht)
  rw [len_blank, List.length_map] at *
  omega
theorem join_len {y : Str} {ps : List Str} {m : Nat} (h : ∀ p ∈ ps, p.length ≤ m) : (Txt.join y ps).length ≤ ps.length * (m + y.length) := by
  rw [TL.len_tl, show TL.tl (Txt.join y ps) = _ from join_tl y ps]
  have e := joinL_len (s := tl y) (m := m) (ps := ps.map tl) fun p hp => by
    obtain ⟨x, hx, rfl⟩ := List.mem_map.mp hp
    have := h x hx
    rw [TL.len_tl] at this
    exact this
  rw [List.length_map] at e
  rw [TL.len_tl y]
  exact e
theorem shown_len {r : List Int} {n : Nat} (hl : r.length ≤ n) (h : Things r) : (m_choice_shown r).length ≤ 3 * n + 1 := by
  unfold m_choice_shown
  split
  · rw [lit_dash, SX.S_len]
    simp
  · have e := join_len (y := (" " : Str)) (m := 2) (ps := r.map fun t => strI t) fun y hy => by
      obtain ⟨t, ht, rfl⟩ := List.mem_map.mp hy
      exact strI_len (h t ht)
    rw [List.length_map, len_blank] at e
    omega
/-- rows of few things -/
def RowsOk (U : List (List Int)) : Prop := U.length ≤ 1001 ∧ ∀ r ∈ U, r.length ≤ 99 ∧ Things r
theorem RowsOk.sz {U : List (List Int)} (h : RowsOk U) : ((U.map fun r => m_choice_shown r).map (·.length)).sum + (U.map fun r => m_choice_shown r).length * (", " : Str).length ≤ 16777216 := by
  have h1 := sum_le (m := 298) (ys := U.map fun r => m_choice_shown r) fun y hy => by
    obtain ⟨r, hr, rfl⟩ := List.mem_map.mp hy
    exact shown_len (n := 99) (h.2 r hr).1 (h.2 r hr).2
  have h2 := h.1
  rw [len_comma, List.length_map] at *
  omega
theorem RowsOk.join {U : List (List Int)} (h : RowsOk U) : (Txt.join (", " : Str) (U.map fun r => m_choice_shown r)).length ≤ 300300 := by
  have h1 := join_len (y := (", " : Str)) (m := 298) (ps := U.map fun r => m_choice_shown r) fun y hy => by
    obtain ⟨r, hr, rfl⟩ := List.mem_map.mp hy
    exact shown_len (n := 99) (h.2 r hr).1 (h.2 r hr).2
  have h2 := h.1
  rw [len_comma, List.length_map] at h1
  omega
theorem head_len {c : Int} (h : 0 ≤ c ∧ c ≤ 99) : (strI c).length + (": " : Str).length ≤ 4 := by
  have := strI_len h
  rw [len_colon]
  omega
theorem len_app (a b : Str) : (a ++ b).length = a.length + b.length := by
  rw [TL.len_tl, TL.len_tl a, TL.len_tl b, TL.tl_append, List.length_append]
theorem text_len {c : Int} {U : List (List Int)} (hc : 0 ≤ c ∧ c ≤ 99) (h : RowsOk U) : 2 ≤ (textOf c U).length ∧ (textOf c U).length ≤ 300304 := by
  unfold textOf
  rw [len_app, len_app]
  have h1 := head_len hc
  have h2 := h.join
  have h3 := len_colon
  omega
theorem tab_rows {c : Int} {T : List (List Int)} (h : Tab c T) (hl : T.length ≤ 1001) : RowsOk T := ⟨hl, fun r hr => ⟨tab_len h hr, fun t ht => by
  have h1 := (h.ris r hr).2 t ht
  have h2 := h.c1
  omega⟩⟩
theorem tab_shown {c : Int} {T : List (List Int)} (h : Tab c T) (hl : T.length ≤ 1000) : 0 ≤ (ruleOf c T).count ∧ (ruleOf c T).count ≤ 99 ∧ (ruleOf c T).full.length ≤ 1000 ∧ ∀ r ∈ (ruleOf c T).full, r.length ≤ 1000 ∧ ∀ t ∈ r, 0 ≤ t ∧ t ≤ 99 := by
  have hR := tab_rows h.full (Nat.le_trans (full_len T) (by omega))
  exact ⟨h.c0, h.c1, Nat.le_trans (full_len T) hl, fun r hr => ⟨Nat.le_trans (hR.2 r hr).1 (by decide), (hR.2 r hr).2⟩⟩
theorem RowsOk.turn {U : List (List Int)} (h : RowsOk U) (hl : U.length ≤ 1000) {r : List Int} (hr : r ∈ U) : RowsOk ((U.reverse.map fun c => c.reverse) ++ [r]) := by
  refine ⟨by rw [List.length_append, List.length_map, List.length_reverse, List.length_singleton]; omega, fun x hx => ?_⟩
  rcases List.mem_append.mp hx with hx | hx
  · obtain ⟨y, hy, rfl⟩ := List.mem_map.mp hx
    have := h.2 y (List.mem_reverse.mp hy)
    exact ⟨by rw [List.length_reverse]; exact this.1, fun t ht => this.2 t (List.mem_reverse.mp ht)⟩
  · rw [List.mem_singleton.mp hx]
    exact h.2 r hr
theorem cutS_le (x : Str) (a b : Option Int) : (cutS x a b).length ≤ x.length := cutS_length x a b
theorem sgn_len (x : Str) (i : Int) : (sgn x i).length = 1 := rfl
theorem changed_len {x : Str} {a b : Int} : (m__law_changed x a b).length ≤ 2 * x.length + 1 := by
  unfold m__law_changed
  refine bnd_T (P := fun y : Str => y.length ≤ 2 * x.length + 1) fun at1 _ => ?_
  refine join_T (P := fun y : Str => y.length ≤ 2 * x.length + 1) (I := fun _ => True) (fun s _ => ?_) (fun kk hk => ite_P (P := fun y : Str => y.length ≤ 2 * x.length + 1) (fun _ => bnd_P (P := fun y : Str => y.length ≤ 2 * x.length + 1) (hk _ trivial)) fun _ => hk _ trivial)
  have h1 := cutS_le x none (some s)
  have h2 := cutS_le x (some s) none
  have h3 := cutS_le x (some (s + 1)) none
  refine ite_P (P := fun y : Str => y.length ≤ 2 * x.length + 1) (fun _ => ?_) fun _ => ite_P (P := fun y : Str => y.length ≤ 2 * x.length + 1) (fun _ => ?_) fun _ => ?_
  · rw [len_app]; omega
  · rw [len_app, len_app, sgn_len]; omega
  · rw [len_app, len_app]
    have h4 : (m__law_sign_by (a / 8)).length = 1 := rfl
    rw [h4]
    omega
theorem odd_len (c : Int) : (m__law_odd_line c).length ≤ 1000 := by
  unfold m__law_odd_line
  have key : ∀ y ∈ [("" : Str), ("3" : Str), ("3:" : Str), ("3: " : Str), (": 0" : Str), (" 3: 0" : Str), ("3 : 0" : Str), ("3:0" : Str), ("3: 0,1" : Str), ("3: 0 ,1" : Str), ("3:  0" : Str), ("3: 0, " : Str), ("3: -, -" : Str)] ++ [("3: 0 1,  1 2" : Str), ("03: 0" : Str), ("3: 00" : Str), ("3: +1" : Str), ("3: --" : Str), ("3: 0 -" : Str), ("3: 0: 1" : Str)], y.length ≤ 1000 := by decide +kernel
  exact key _ (gi_mem (mod_ix (n := 20) (by decide)))
theorem odd_ix (c : Int) {n : Nat} (h : n = 20) : -(n : Int) ≤ c % 20 ∧ c % 20 < (n : Int) := by
  subst h
  exact mod_ix (n := 20) (by decide)
theorem spl_len (s : List Nat) : ∀ (k : Nat) (acc l : List Nat), ∀ p ∈ TL.spl s k acc l, p.length ≤ acc.length + l.length
  | k, acc, [], p, hp => by
    rw [TL.spl_nil] at hp
    rw [List.mem_singleton.mp hp]
    omega
  | 0, acc, c :: r, p, hp => by
    unfold TL.spl at hp
    split at hp
    · rcases List.mem_cons.mp hp with rfl | hp
      · omega
      · have := spl_len s _ [] r p hp
        simp at *
        omega
    · have := spl_len s 0 (acc ++ [c]) r p hp
      simp at *
      omega
  | k + 1, acc, c :: r, p, hp => by
    unfold TL.spl at hp
    have := spl_len s k acc r p hp
    simp at *
    omega
theorem part_len {x p : Str} {s : List Nat} (hs : s ≠ []) (hk : s.all (· < 256) = true) (h : p ∈ Txt.split x (S s)) : p.length ≤ x.length := by
  have e := split_by x hs hk
  have hm : tl p ∈ TL.spl s 0 [] (tl x) := by
    rw [← e]
    exact List.mem_map.mpr ⟨p, h, rfl⟩
  have := spl_len s 0 [] (tl x) (tl p) hm
  rw [TL.len_tl, TL.len_tl x]
  simpa using this
theorem read_len {x : Str} {t : Int × List (List Int)} (h : m__law_read x = some t) : 0 ≤ t.1 ∧ t.1 ≤ 99 ∧ t.2.length ≤ x.length + 2 ∧ ∀ c ∈ t.2, c.length ≤ x.length + 2 := by
  have h0 : 0 ≤ t.1 ∧ t.1 ≤ 99 := by
    rcases read_cases x with ⟨e, _⟩ | ⟨u, v, e, _, u0, u9, _⟩
    · rw [e] at h; cases h
    · rw [e] at h; cases h; exact ⟨u0, u9⟩
  refine ⟨h0.1, h0.2, ?_⟩
  unfold m__law_read at h
  have h : (if _ = true then none else forC _ _ _ _) = some t := h
  split at h
  · cases h
  · rw [forC_any] at h
    split at h
    · cases h
    · cases h
      have hx := cutS_le x (some (Txt.find x (": " : Str) + 2)) none
      refine ⟨?_, fun c hc => ?_⟩
      · show (List.map _ _).length ≤ _
        rw [List.length_map]
        have := PyProof.Rows.split_le (cutS x (some (Txt.find x (": " : Str) + 2)) none) (", " : Str)
        omega
      · obtain ⟨p, hp, rfl⟩ := List.mem_map.mp hc
        rw [lit_comma] at hp
        have h2 := part_len (by simp) (by decide) hp
        unfold m__law_part
        split
        · simp
        · rw [List.length_map]
          have := PyProof.Rows.split_le p (" " : Str)
          omega
theorem ded_put {xs s s' : List (List Int)} {i : Nat} {x : List Int} (h : s = (xs.take i).foldl dedF []) (hx : xs[i]? = some x) (hn : x ∉ s) (e : s' = s ++ [x]) : s' = (xs.take (i + 1)).foldl dedF [] := by
  rw [List.take_succ, hx, List.foldl_append, ← h]
  show s' = dedF s x
  unfold dedF
  rw [inB_f.mpr hn]
  exact e
theorem ded_skip {xs s : List (List Int)} {i : Nat} {x : List Int} (h : s = (xs.take i).foldl dedF []) (hx : xs[i]? = some x) (hn : x ∈ s) : s = (xs.take (i + 1)).foldl dedF [] := by
  rw [List.take_succ, hx, List.foldl_append, ← h]
  show s = dedF s x
  unfold dedF
  rw [inB_t.mpr hn]
  rfl
theorem ded_le {xs s : List (List Int)} {i : Nat} (h : s = (xs.take i).foldl dedF []) : s.length ≤ i := by
  rw [h]
  have := (ded_sub (xs.take i)).length_le
  unfold ded at this
  rw [List.length_take] at this
  omega
theorem ded_full {T s : List (List Int)} (e : s = ded (srtL T)) : s = fullOf T := by
  rw [e]
  exact (full_ded2 (srtL_pw T) fun x => srtL_mem.symm).symm
theorem seen {c : Int} {T s : List (List Int)} (h : Tab c T) (hl : T.length ≤ 1000) (e : s = ((srtL T).take (srtL T).length).foldl dedF []) : s = fullOf T ∧ s.length ≤ 1000 ∧ RowsOk s ∧ s ≠ [] := by
  rw [List.take_length] at e
  have e2 := ded_full (T := T) (s := s) e
  have l := Nat.le_trans (full_len T) hl
  rw [e2]
  exact ⟨rfl, l, tab_rows h.full (by omega), h.fne⟩
/-! ### the law -/
theorem full_full (T : List (List Int)) : fullOf (fullOf T) = fullOf T := full_the (full_lt T) fun x => Iff.rfl
theorem rule_full (c : Int) (T : List (List Int)) : ruleOf c (fullOf T) = ruleOf c T := by
  unfold ruleOf
  rw [full_full]
theorem back {c : Int} {T : List (List Int)} (h : Tab c T) (hl : T.length ≤ 1000) : m_read (m_shown (ruleOf c T)) = .ok (ruleOf c T) := by
  rw [shown_eq]
  have hR := tab_rows h.full (Nat.le_trans (full_len T) (by omega))
  show m_read (textOf c (fullOf T)) = _
  rw [read_text ⟨h.c0, h.c1⟩ h.fne fun r hr => (hR.2 r hr).2, tabX h.full, rule_full]
theorem due_zero {x : Str} (h : ¬ 0 < m__law_due (m__law_read x)) : ∃ t, m__law_read x = some t ∧ Tab t.1 (t.2.map fun r => srt r) ∧ m_read x = .ok (ruleOf t.1 (t.2.map fun r => srt r)) := by
  rcases all_cases x with ⟨_, e, _⟩ | ⟨e, _⟩ | ⟨e, _⟩ | ⟨_, t, e1, e2, e3⟩
  · rw [e] at h; omega
  · rw [e] at h; omega
  · rw [e] at h; omega
  · exact ⟨t, e1, e2, e3⟩
theorem due_vals (x : Str) : m__law_due (m__law_read x) = 0 ∨ m__law_due (m__law_read x) = 1 ∨ m__law_due (m__law_read x) = 2 ∨ m__law_due (m__law_read x) = 3 := by
  rcases all_cases x with ⟨_, e, _⟩ | ⟨e, _⟩ | ⟨e, _⟩ | ⟨e, _⟩ <;> rw [e] <;> simp
theorem dd_fun : (fun (x : List Int) (s : List (List Int)) (kk : List (List Int) → Bool) => (if (!inB x s) = true then (bnd (s ++ [x]) fun (f : (List (List Int))) => (kk f)) else (kk s))) = fun x s kk => kk (dedF s x) := by
  funext x s kk
  unfold dedF
  split <;> rfl
theorem law_true (ns : Scr) : m_law ns = true := by
  unfold m_law
  refine bnd_T (P := (· = true)) fun made e1 => bnd_T (P := (· = true)) fun c e2 => bnd_T (P := (· = true)) fun T e4 => bnd_T (P := (· = true)) fun r e5 => bnd_T (P := (· = true)) fun f0 e6 => ?_
  have t1 := held_spec ns
  have l1 : made.2.length ≤ 1000 := by rw [e1]; exact held_small ns
  rw [← e1] at t1
  have hT : Tab c T := by rw [e4, e2]; exact srt_tab t1
  have lT : T.length ≤ 1000 := by rw [e4, List.length_map]; exact l1
  have hr : r = ruleOf c T := by rw [e5, tabX hT]; rfl
  rw [e6]
  refine (congrArg (fun b => forC b (srtL T) [] _) dd_fun).trans ?_
  rw [forC_fold (f := dedF)]
  rw [show (srtL T).foldl dedF [] = fullOf T from ded_full rfl]
  refine bnd_T (P := (· = true)) fun tx e12 => bnd_T (P := (· = true)) fun fd e13 => ?_
  have htx : tx = textOf c (fullOf T) := e12
  have hfd : fd = m_shown (ruleOf c T) := by rw [e13, hr]
  have hft : fd = tx := by rw [hfd, htx]; rfl
  refine ite_n (P := (· = true)) (by rw [hft]; simp) (bnd_T (P := (· = true)) fun more e17 => ?_)
  refine join_T (P := (· = true)) (I := fun _ => True) (fun s18 _ => ?_) (fun kk hk => ite_P (P := (· = true)) (fun _ => bnd_P (P := (· = true)) (bnd_P (P := (· = true)) (hk _ trivial))) fun _ => hk _ trivial)
  refine join_T (P := (· = true)) (I := fun _ => True) (fun s23 _ => ?_) (fun kk hk => ite_P (P := (· = true)) (fun _ => bnd_P (P := (· = true)) (hk _ trivial)) fun _ => hk _ trivial)
  refine join_T (P := (· = true)) (I := fun _ => True) (fun x _ => ?_) (fun kk hk => ite_P (P := (· = true)) (fun _ => bnd_P (P := (· = true)) (hk _ trivial)) fun _ => hk _ trivial)
  refine bnd_T (P := (· = true)) fun td e27 => bnd_T (P := (· = true)) fun due e28 => ?_
  subst e27
  subst e28
  have hb := back hT lT
  refine ite_n (P := (· = true)) (by rw [told_eq]; simp) (ite_P (P := (· = true)) (fun hp => ?_) fun hn => ?_)
  · have hp : 0 < m__law_due (m__law_read x) := by simpa using hp
    rw [hfd, hb]
    show ((_ || _) && decide (m_shown (ruleOf c T) = m_shown (ruleOf c T))) = true
    rw [decide_eq_true rfl, Bool.and_true]
    rcases due_vals x with h | h | h | h
    · rw [h] at hp; omega
    · rw [alone_eq h, Bool.or_true]
    · rw [h]; rfl
    · rw [h]; rfl
  · have hn : ¬ 0 < m__law_due (m__law_read x) := by simpa using hn
    obtain ⟨t, h1, h2, h3⟩ := due_zero hn
    rw [h1]
    show bnd t _ = true
    refine bnd_T (P := (· = true)) fun t' et => bnd_T (P := (· = true)) fun hd e35 => bnd_T (P := (· = true)) fun ot e36 => bnd_T (P := (· = true)) fun f1 e37 => ?_
    subst et
    have hhd : hd = ruleOf t'.1 (t'.2.map fun r => srt r) := by rw [e35, h3]; rfl
    have hot : ot = ruleOf 3 [[0, 1], [0, 2], [1, 2]] := by rw [e36, three_read]; rfl
    rw [e37]
    refine (congrArg (fun b => forC b (srtL (t'.2.map fun r => srt r)) [] _) dd_fun).trans ?_
    rw [forC_fold (f := dedF)]
    rw [show (srtL (t'.2.map fun r => srt r)).foldl dedF [] = fullOf (t'.2.map fun r => srt r) from ded_full rfl]
    refine ite_n (P := (· = true)) ?_ ?_
    · rw [hr, hfd, hot]
      show ((!decide (m_shown (ruleOf c T) = m_shown (ruleOf c T))) || ((!decide (fullOf [[0, 1], [0, 2], [1, 2]] = [[0, 1], [0, 2], [1, 2]])) || (!decide ((3 : Int) = 3)))) = false
      rw [three_full]
      simp
    · rw [hhd]
      show (m__law_whole t'.1 && (decide (t'.1 = t'.1) && m__law_rows_are (fullOf _) (fullOf _))) = true
      rw [rows_are_of]
      simp [m__law_whole]

/-! ### for the walk -/
def SgnI (w : Str) (i : Nat) : Prop := ∀ x ∈ (signs w).take i, inS x ("0123456789" : Str) = true
theorem sgnI0 {w : Str} : SgnI w 0 := fun x hx => by simp at hx
theorem sgnI1 {w x : Str} {i : Nat} (h : SgnI w i) (hx : (signs w)[i]? = some x) (hp : inS x ("0123456789" : Str) = true) : SgnI w (i + 1) := fun y hy => by
  rw [List.take_succ, hx] at hy
  rcases List.mem_append.mp hy with hy | hy
  · exact h y hy
  · simp at hy
    rw [hy]
    exact hp
theorem signs_one {w x : Str} (h : x ∈ signs w) : ∃ c, x = ⟨#[c]⟩ := by
  obtain ⟨c, _, rfl⟩ := List.mem_map.mp h
  exact ⟨c, rfl⟩
theorem figs_ok {w : Str} (h1 : ¬ w = ("" : Str)) (h2 : ¬ (2 : Int) < (w.length : Int)) (h : SgnI w (signs w).length) : ∃ n, PySem.intText? w = some n := by
  have hb : badS (S (tl w)) = false := by
    rw [S_tl]
    unfold badS
    rw [List.any_eq_false]
    intro x hx
    have := h x (by rw [List.take_length]; exact hx)
    rw [this]
    decide
  have d := badS_no.mp hb
  have hne : tl w ≠ [] := fun z => h1 (by rw [← S_tl w, z]; exact lit_nil.symm)
  have hl : (tl w).length ≤ 4300 := by
    have : w.length = (tl w).length := TL.len_tl w
    omega
  have := intD_S d hne hl
  rw [S_tl] at this
  exact ⟨_, this⟩
theorem part_comma {x p : Str} (h : p ∈ Txt.split x (", " : Str)) : p.length ≤ x.length := by
  rw [lit_comma] at h
  exact part_len (by simp) (by decide) h
theorem part_blank {x p : Str} (h : p ∈ Txt.split x (" " : Str)) : p.length ≤ x.length := by
  rw [lit_blank] at h
  exact part_len (by simp) (by decide) h
theorem part_colon {x p : Str} (h : p ∈ Txt.split x (": " : Str)) : p.length ≤ x.length := by
  rw [lit_colon] at h
  exact part_len (by simp) (by decide) h
theorem two_part {x : Str} {ps : List Str} (e : ps = Txt.split x (": " : Str)) (h : (ps.length : Int) = 2) {i : Int} (hi : 0 ≤ i ∧ i < 2) : (gi ps i).length ≤ x.length := part_colon (by rw [← e]; exact gi_mem (by omega))
theorem choice_len {p : Str} {c : List Int} (h : m_choice_of p = .ok c) : c.length ≤ p.length + 2 := by
  unfold m_choice_of at h
  split at h
  · cases h
    simp
  · rw [mapX_len h]
    exact PyProof.Rows.split_le p (" " : Str)
theorem read_pre {a b : Str} {u : Int} {v : List (List Int)} (hb : b.length ≤ 900000) (h1 : m_number_of a = .ok u) (h2 : mapX (fun p => m_choice_of p) (Txt.split b (", " : Str)) = .ok v) : 0 ≤ u ∧ u ≤ 1000 ∧ ∀ c ∈ v, c.length ≤ 1000000 := by
  rcases num_cases a with ⟨n, n0, n9, e, _⟩ | ⟨e, _⟩
  · rw [e] at h1
    cases h1
    refine ⟨n0, by omega, fun c hc => ?_⟩
    obtain ⟨p, hp, h3⟩ := mapX_mem h2 c hc
    have := choice_len h3
    have := part_comma hp
    omega
  · rw [e] at h1
    cases h1
theorem due_rows {T : List (List Int)} (h : ∀ c ∈ T, c.length ≤ 1000000) : ∀ c ∈ T.map fun x => srt x, c.length ≤ 1000000 := fun c hc => by
  obtain ⟨x, hx, rfl⟩ := List.mem_map.mp hc
  rw [srt_len]
  exact h x hx
theorem len14 : ("0123456789 ,:-" : Str).length = 14 := by decide +kernel
theorem sgnby_len (c : Int) : (m__law_sign_by c).length = 1 := rfl
theorem len_a : (" !\"#$&'()*+,-./0123456789:;<=>?@ABCDEFGHIJKLMNOPQRSTUVWXYZ[\\]^_`" : Str).length = 64 := by decide +kernel
theorem len_b : ("abcdefghijklmnopqrstuvwxyz{|}~\n\t" : Str).length = 32 := by decide +kernel
theorem shown_sz {U : List (List Int)} (hl : U.length ≤ 1000) (h : ∀ r ∈ U, r.length ≤ 1000 ∧ ∀ t ∈ r, 0 ≤ t ∧ t ≤ 99) : ((U.map fun r => m_choice_shown r).map (·.length)).sum + (U.map fun r => m_choice_shown r).length * (", " : Str).length ≤ 16777216 := by
  have h1 := sum_le (m := 3001) (ys := U.map fun r => m_choice_shown r) fun y hy => by
    obtain ⟨r, hr, rfl⟩ := List.mem_map.mp hy
    exact shown_len (n := 1000) (h r hr).1 (h r hr).2
  rw [len_comma, List.length_map] at *
  omega
theorem shown_join {U : List (List Int)} (hl : U.length ≤ 1000) (h : ∀ r ∈ U, r.length ≤ 1000 ∧ ∀ t ∈ r, 0 ≤ t ∧ t ≤ 99) : (Txt.join (", " : Str) (U.map fun r => m_choice_shown r)).length ≤ 3003000 := by
  have h1 := join_len (y := (", " : Str)) (m := 3001) (ps := U.map fun r => m_choice_shown r) fun y hy => by
    obtain ⟨r, hr, rfl⟩ := List.mem_map.mp hy
    exact shown_len (n := 1000) (h r hr).1 (h r hr).2
  rw [len_comma, List.length_map] at h1
  omega
end MP
namespace MP
open PySem PySem.Spec PyProof.Rows L2 Rep
local macro_rules | `(tactic| walk_at "vc") => `(tactic| ((try clear e); first | assumption | omega | exact pos_len (by assumption) | exact mod_ix (pos_len (by assumption)) | (refine sz_of ?_; omega) | (refine sz_lt ?_; omega) | (simp only [List.length_cons, List.length_nil, List.length_map, rng_len] at *; omega) | (simp only [decide_eq_true_eq, decide_eq_false_iff_not, Bool.and_eq_true, Bool.or_eq_true, Bool.not_eq_true', Bool.or_eq_false_iff, List.length_cons, List.length_nil, List.length_map, rng_len] at *; first | omega | (refine sz_of ?_; omega) | (refine sz_lt ?_; omega))))
local macro_rules | `(tactic| walk_at "inv") => `(tactic| ((try clear e); first | exact trivial | rfl))
abbrev S_exn : List Exn := [.thing, .choice, .exchange, .weights, .rule]
def topS (i : Nat) : Stmt := PySem.Challenge.pw_matroidpick_k13_written_and_read.main.body.getD i (.Pass ⟨0, 0, 0, 0⟩)
section
variable {P : Program} {w : World} {K : PySem.W.Frag} {mg : Str → Option Value} {base : Heap}
abbrev s__law_cell_at : Stmt := topS 25
theorem sc__law_cell_at : FnScope ["_law_script", "_law_k"] ["_law_script", "_law_k"] (defScope s__law_cell_at) := ⟨rfl, rfl, rfl, by decide +kernel, rfl, by decide +kernel, by decide +kernel⟩
theorem ok__law_cell_at {f : Addr} {fd : FuncData} (Fd : Fun K "_law_cell_at" "_law_cell_at" s__law_cell_at f fd) (B : Bt mg) : FnOk P w K mg base CX0 1 f fd ["_law_script", "_law_k"] (sp2 K pre__law_cell_at m__law_cell_at (oF K)) := by
  refine Fd.ok sc__law_cell_at (fun vs H Q E h => ?_) (fun cdv A outer s H vs Q E hr h => ⟨_, bw_pss, ?_⟩)
  · obtain ⟨_, _, _, _, _, rfl, _⟩ := h
    rfl
  · obtain ⟨F, _law_script, _law_k, v0, v1, rfl, fh, r0, r1, pre, q⟩ := h
    have nd := (sc__law_cell_at).nd
    have W := Wk.refl fh
    have e : m__law_cell_at _law_script _law_k = _ := rfl
    conv at e => rhs; unfold m__law_cell_at
    unfold L2.start
    unfold pre__law_cell_at at pre
    refine b_cons (s_if (et_cmp op_lt rr_ltI (ev_var 1 rfl r1) (ev_lenS B.len (ev_var 0 rfl r0))) W.fh (fun hb_1 F_1 H_1 w_1 => ?_) (fun hb_1 F_1 H_1 w_1 => ?_))
    · --
      have W := W.trans w_1
      have r0 := Rep.mono w_1.ff r0
      have r1 := Rep.mono w_1.ff r1
      have e := ift e hb_1
      have hp_1 := hb_1
      try simp only [inB_t, inB_f, decide_eq_true_eq, decide_eq_false_iff_not, Bool.and_eq_true, Bool.or_eq_true, Bool.and_eq_false_iff, Bool.or_eq_false_iff, Bool.not_eq_true', Bool.not_eq_false', Bool.not_eq_eq_eq_not, Bool.not_true, Bool.not_false] at hp_1
      exact b_one (s_ret (ev_ixS (ev_var 0 rfl r0) (ev_var 1 rfl r1) (by walk_at "vc")) W.fh fun v F1 H1 w1 r1 => q v F1 H1 (W.trans w1) (rep_eq r1 e))
    · --
      have W := W.trans w_1
      have r0 := Rep.mono w_1.ff r0
      have r1 := Rep.mono w_1.ff r1
      have e := MP.iff e hb_1
      have hp_1 := hb_1
      try simp only [inB_t, inB_f, decide_eq_true_eq, decide_eq_false_iff_not, Bool.and_eq_true, Bool.or_eq_true, Bool.and_eq_false_iff, Bool.or_eq_false_iff, Bool.not_eq_true', Bool.not_eq_false', Bool.not_eq_eq_eq_not, Bool.not_true, Bool.not_false] at hp_1
      refine b_nil ?_
      refine b_cons (s_if (et_cmp (op_eqD (hu64 hr)) rr_eqScr (ev_var 0 rfl r0) (EvN.ev (evn_nil (α := Int)))) W.fh (fun hb_2 F_2 H_2 w_2 => ?_) (fun hb_2 F_2 H_2 w_2 => ?_))
      · --
        have W := W.trans w_2
        have r0 := Rep.mono w_2.ff r0
        have r1 := Rep.mono w_2.ff r1
        have e := ift e hb_2
        have hp_2 := hb_2
        try simp only [inB_t, inB_f, decide_eq_true_eq, decide_eq_false_iff_not, Bool.and_eq_true, Bool.or_eq_true, Bool.and_eq_false_iff, Bool.or_eq_false_iff, Bool.not_eq_true', Bool.not_eq_false', Bool.not_eq_eq_eq_not, Bool.not_true, Bool.not_false] at hp_2
        exact b_one (s_ret ev_int W.fh fun v F1 H1 w1 r1 => q v F1 H1 (W.trans w1) (rep_eq r1 e))
      · --
        have W := W.trans w_2
        have r0 := Rep.mono w_2.ff r0
        have r1 := Rep.mono w_2.ff r1
        have e := MP.iff e hb_2
        have hp_2 := hb_2
        try simp only [inB_t, inB_f, decide_eq_true_eq, decide_eq_false_iff_not, Bool.and_eq_true, Bool.or_eq_true, Bool.and_eq_false_iff, Bool.or_eq_false_iff, Bool.not_eq_true', Bool.not_eq_false', Bool.not_eq_eq_eq_not, Bool.not_true, Bool.not_false] at hp_2
        refine b_nil ?_
        exact b_one (s_ret (ev_add (ev_mul (ev_ixS (ev_var 0 rfl r0) (ev_mod (ev_var 1 rfl r1) (ev_lenS B.len (ev_var 0 rfl r0)) (by walk_at "vc")) (by walk_at "vc")) ev_int (.inr ⟨by decide, by decide⟩)) (ev_var 1 rfl r1)) W.fh fun v F1 H1 w1 r1 => q v F1 H1 (W.trans w1) (rep_eq r1 e))
abbrev s__law_pairs_by : Stmt := topS 34
theorem sc__law_pairs_by : FnScope ["_law_many", "_law_rows", "_law_k", "_law_row"] ["_law_many"] (defScope s__law_pairs_by) := ⟨rfl, rfl, rfl, by decide +kernel, rfl, by decide +kernel, by decide +kernel⟩
theorem ok__law_pairs_by {f : Addr} {fd : FuncData} (Fd : Fun K "_law_pairs_by" "_law_pairs_by" s__law_pairs_by f fd) (B : Bt mg) : FnOk P w K mg base CX0 1 f fd ["_law_many"] (sp1 K pre__law_pairs_by m__law_pairs_by (oF K)) := by
  refine Fd.ok sc__law_pairs_by (fun vs H Q E h => ?_) (fun cdv A outer s H vs Q E hr h => ⟨_, bw_pss, ?_⟩)
  · obtain ⟨_, _, _, rfl, _⟩ := h
    rfl
  · obtain ⟨F, _law_many, v0, rfl, fh, r0, pre, q⟩ := h
    have nd := (sc__law_pairs_by).nd
    have W := Wk.refl fh
    have e : m__law_pairs_by _law_many = _ := rfl
    conv at e => rhs; unfold m__law_pairs_by
    unfold L2.start
    unfold pre__law_pairs_by at pre
    refine b_cons (s_asg 1 nd (EvN.ev (evn_lst (el_cons (EvN.ev (evn_nil (α := Int))) el_nil) (by decide : (1 : Nat) ≤ sizeLine))) W.fh fun v_1 F_1 H_1 w_1 r_1 => ?_)
    have W := W.trans w_1
    have r0 := Rep.mono w_1.ff r0
    obtain ⟨_law_rows_1, e_1⟩ : ∃ y, y = [([] : (List Int))] := ⟨_, rfl⟩
    have r_1 := rep_eq r_1 e_1
    have e := bnd_eq e e_1
    refine b_cons (s_for (S := (List (List Int))) (xs := (rng 0 _law_many)) (fun i s_2 σ F' H' => ∃ (y_2_1 : V) (z_2_2 : Option V), σ = [some v0, some y_2_1, z_2_2, none] ∧ Wk F H F' H' ∧ Same F_1 F' ∧ rep K F' y_2_1 s_2 ∧ PairI i s_2) PassesOwn.never rfl (ei_range1 B.range (ev_var 0 rfl r0) (by walk_at "vc")) W.fh (pg_name (i := 2) nd rfl (by first | exact .inl rfl | exact .inr rfl)) ?h0_2 ?hs_2 e ?turn_2 ?done_2)
    case h0_2 => exact fun F1 H1 w1 => ⟨_, _, rfl, W.trans w1, w1.ff, (Rep.mono w1.ff r_1), (pairI0 e_1)⟩
    case hs_2 =>
      intro i s_2 σ F' H' hB
      obtain ⟨y_2_1, z_2_2, rfl, W, SM2, r_2_1, inv⟩ := hB
      have r0 := Rep.mono SM2 r0
      exact W.fh
    case turn_2 =>
      intro i _law_k_2 s_2 σ F_2 H_2 v_2 kk hx_2 hB rx_2 e
      have hm_2 := List.mem_of_getElem? hx_2
      have hi_2 := (List.getElem?_eq_some_iff.mp hx_2).1
      have hr_2 := rng_mem.mp hm_2
      have hg_2 := rng_get hx_2
      obtain ⟨y_2_1, z_2_2, rfl, W, SM2, r_2_1, inv⟩ := hB
      have r0 := Rep.mono SM2 r0
      have ST2 := Same.refl F_2
      refine b_one (s_asg 1 nd (EvN.ev (evn_cat (EvN.ev (EvC.evn rfl nd (evn_lc 3 nd (ei_list (ev_var 1 rfl r_2_1)) (fun _law_row_3 m_3 u_3 F_3 H_3 w_3 r_3 _ _ _ _ _ => (EvN.ev (evn_cat (ev_var 3 rfl r_3) (EvN.ev (evn_lst (el_cons (ev_mul ev_int (ev_var 2 rfl (Rep.mono w_3.ff rx_2)) (.inl ⟨by decide, by decide⟩)) el_nil) (by decide : (1 : Nat) ≤ sizeLine))) (by exact cat2 (inv.2 _ m_3).1 (by omega)))))))) (EvN.ev (EvC.evn rfl nd (evn_lc 3 nd (ei_list (ev_var 1 rfl r_2_1)) (fun _law_row_4 m_4 u_4 F_4 H_4 w_4 r_4 _ _ _ _ _ => (EvN.ev (evn_cat (ev_var 3 rfl r_4) (EvN.ev (evn_lst (el_cons (ev_add (ev_mul ev_int (ev_var 2 rfl (Rep.mono w_4.ff rx_2)) (.inl ⟨by decide, by decide⟩)) ev_int) el_nil) (by decide : (1 : Nat) ≤ sizeLine))) (by exact cat2 (inv.2 _ m_4).1 (by omega)))))))) (by exact pairI_cat inv hg_2.2 (by omega)))) W.fh fun v_5 F_5 H_5 w_5 r_5 => ?_)
      have W := W.trans w_5
      have SM2 := SM2.trans w_5.ff
      have ST2 := ST2.trans w_5.ff
      have r0 := Rep.mono w_5.ff r0
      have rx_2 := Rep.mono w_5.ff rx_2
      obtain ⟨_law_rows_5, e_5⟩ : ∃ y, y = ((s_2.map fun (_law_row_3 : (List Int)) => (_law_row_3 ++ [((2 : Int) * _law_k_2)])) ++ (s_2.map fun (_law_row_4 : (List Int)) => (_law_row_4 ++ [(((2 : Int) * _law_k_2) + (1 : Int))]))) := ⟨_, rfl⟩
      have r_5 := rep_eq r_5 e_5
      have e := bnd_eq e e_5
      exact ⟨_law_rows_5, _, ST2, ⟨_, _, rfl, W, SM2, r_5, (pairI1 inv hg_2 e_5)⟩, e⟩
    case done_2 =>
      intro s_2 σ F_2 H_2 hB e
      obtain ⟨y_2_1, z_2_2, rfl, W, SM2, r_2_1, inv⟩ := hB
      have r0 := Rep.mono SM2 r0
      exact b_one (s_ret (ev_var 1 rfl r_2_1) W.fh fun v F1 H1 w1 r1 => q v F1 H1 (W.trans w1) (rep_eq r1 e))
abbrev s__law_subsets : Stmt := topS 30
theorem sc__law_subsets : FnScope ["_law_count", "_law_rows", "_law_thing", "_law_row"] ["_law_count"] (defScope s__law_subsets) := ⟨rfl, rfl, rfl, by decide +kernel, rfl, by decide +kernel, by decide +kernel⟩
theorem ok__law_subsets {f : Addr} {fd : FuncData} (Fd : Fun K "_law_subsets" "_law_subsets" s__law_subsets f fd) (B : Bt mg) : FnOk P w K mg base CX0 1 f fd ["_law_count"] (sp1 K pre__law_subsets m__law_subsets (oF K)) := by
  refine Fd.ok sc__law_subsets (fun vs H Q E h => ?_) (fun cdv A outer s H vs Q E hr h => ⟨_, bw_pss, ?_⟩)
  · obtain ⟨_, _, _, rfl, _⟩ := h
    rfl
  · obtain ⟨F, _law_count, v0, rfl, fh, r0, pre, q⟩ := h
    have nd := (sc__law_subsets).nd
    have W := Wk.refl fh
    have e : m__law_subsets _law_count = _ := rfl
    conv at e => rhs; unfold m__law_subsets
    unfold L2.start
    unfold pre__law_subsets at pre
    refine b_cons (s_asg 1 nd (EvN.ev (evn_lst (el_cons (EvN.ev (evn_nil (α := Int))) el_nil) (by decide : (1 : Nat) ≤ sizeLine))) W.fh fun v_1 F_1 H_1 w_1 r_1 => ?_)
    have W := W.trans w_1
    have r0 := Rep.mono w_1.ff r0
    obtain ⟨_law_rows_1, e_1⟩ : ∃ y, y = [([] : (List Int))] := ⟨_, rfl⟩
    have r_1 := rep_eq r_1 e_1
    have e := bnd_eq e e_1
    refine b_cons (s_for (S := (List (List Int))) (xs := (rng 0 _law_count)) (fun i s_2 σ F' H' => ∃ (y_2_1 : V) (z_2_2 : Option V), σ = [some v0, some y_2_1, z_2_2, none] ∧ Wk F H F' H' ∧ Same F_1 F' ∧ rep K F' y_2_1 s_2 ∧ SubI i s_2) PassesOwn.never rfl (ei_range1 B.range (ev_var 0 rfl r0) (by walk_at "vc")) W.fh (pg_name (i := 2) nd rfl (by first | exact .inl rfl | exact .inr rfl)) ?h0_2 ?hs_2 e ?turn_2 ?done_2)
    case h0_2 => exact fun F1 H1 w1 => ⟨_, _, rfl, W.trans w1, w1.ff, (Rep.mono w1.ff r_1), (subI0 e_1)⟩
    case hs_2 =>
      intro i s_2 σ F' H' hB
      obtain ⟨y_2_1, z_2_2, rfl, W, SM2, r_2_1, inv⟩ := hB
      have r0 := Rep.mono SM2 r0
      exact W.fh
    case turn_2 =>
      intro i _law_thing_2 s_2 σ F_2 H_2 v_2 kk hx_2 hB rx_2 e
      have hm_2 := List.mem_of_getElem? hx_2
      have hi_2 := (List.getElem?_eq_some_iff.mp hx_2).1
      have hr_2 := rng_mem.mp hm_2
      have hg_2 := rng_get hx_2
      obtain ⟨y_2_1, z_2_2, rfl, W, SM2, r_2_1, inv⟩ := hB
      have r0 := Rep.mono SM2 r0
      have ST2 := Same.refl F_2
      refine b_one (s_asg 1 nd (EvN.ev (evn_cat (ev_var 1 rfl r_2_1) (EvN.ev (EvC.evn rfl nd (evn_lc 3 nd (ei_list (ev_var 1 rfl r_2_1)) (fun _law_row_3 m_3 u_3 F_3 H_3 w_3 r_3 _ _ _ _ _ => (EvN.ev (evn_cat (ev_var 3 rfl r_3) (EvN.ev (evn_lst (el_cons (ev_var 2 rfl (Rep.mono w_3.ff rx_2)) el_nil) (by decide : (1 : Nat) ≤ sizeLine))) (by exact cat2 (inv.2 _ m_3).1 (by omega)))))))) (by exact subI_cat inv hg_2.2 (by omega)))) W.fh fun v_4 F_4 H_4 w_4 r_4 => ?_)
      have W := W.trans w_4
      have SM2 := SM2.trans w_4.ff
      have ST2 := ST2.trans w_4.ff
      have r0 := Rep.mono w_4.ff r0
      have rx_2 := Rep.mono w_4.ff rx_2
      obtain ⟨_law_rows_4, e_4⟩ : ∃ y, y = (s_2 ++ (s_2.map fun (_law_row_3 : (List Int)) => (_law_row_3 ++ [_law_thing_2]))) := ⟨_, rfl⟩
      have r_4 := rep_eq r_4 e_4
      have e := bnd_eq e e_4
      exact ⟨_law_rows_4, _, ST2, ⟨_, _, rfl, W, SM2, r_4, (subI1 inv hg_2 e_4)⟩, e⟩
    case done_2 =>
      intro s_2 σ F_2 H_2 hB e
      obtain ⟨y_2_1, z_2_2, rfl, W, SM2, r_2_1, inv⟩ := hB
      have r0 := Rep.mono SM2 r0
      exact b_one (s_ret (ev_var 1 rfl r_2_1) W.fh fun v F1 H1 w1 r1 => q v F1 H1 (W.trans w1) (rep_eq r1 e))
abbrev s__law_parts : Stmt := topS 32
theorem sc__law_parts : FnScope ["_law_script", "_law_kind", "_law_count", "_law_more", "_law_rows", "_law_k", "_law_one", "_law_thing", "_law_row"] ["_law_script", "_law_kind", "_law_count", "_law_more"] (defScope s__law_parts) := ⟨rfl, rfl, rfl, by decide +kernel, rfl, by decide +kernel, by decide +kernel⟩
theorem ok__law_parts {f : Addr} {fd : FuncData} (Fd : Fun K "_law_parts" "_law_parts" s__law_parts f fd) (B : Bt mg) (C__law_subsets : Cal P w K mg base CX0 1 "_law_subsets" ["_law_count"] (sp1 K pre__law_subsets m__law_subsets (oF K))) (C__law_cell_at : Cal P w K mg base CX0 1 "_law_cell_at" ["_law_script", "_law_k"] (sp2 K pre__law_cell_at m__law_cell_at (oF K))) : FnOk P w K mg base CX0 2 f fd ["_law_script", "_law_kind", "_law_count", "_law_more"] (sp4 K pre__law_parts m__law_parts (oF K)) := by
  refine Fd.ok sc__law_parts (fun vs H Q E h => ?_) (fun cdv A outer s H vs Q E hr h => ⟨_, bw_pss, ?_⟩)
  · obtain ⟨_, _, _, _, _, _, _, _, _, rfl, _⟩ := h
    rfl
  · obtain ⟨F, _law_script, _law_kind, _law_count, _law_more, v0, v1, v2, v3, rfl, fh, r0, r1, r2, r3, pre, q⟩ := h
    have nd := (sc__law_parts).nd
    have W := Wk.refl fh
    have e : m__law_parts _law_script _law_kind _law_count _law_more = _ := rfl
    conv at e => rhs; unfold m__law_parts
    unfold L2.start
    unfold pre__law_parts at pre
    refine b_cons (s_asg 4 nd (ev_call1 pass0 (hr.mono (by decide)) C__law_subsets (ev_var 2 rfl r2) (by unfold pre__law_subsets; walk_at "vc")) W.fh fun v_1 F_1 H_1 w_1 r_1 => ?_)
    have W := W.trans w_1
    have r0 := Rep.mono w_1.ff r0
    have r1 := Rep.mono w_1.ff r1
    have r2 := Rep.mono w_1.ff r2
    have r3 := Rep.mono w_1.ff r3
    obtain ⟨_law_rows_1, e_1⟩ : ∃ y, y = (m__law_subsets _law_count) := ⟨_, rfl⟩
    have r_1 := rep_eq r_1 e_1
    have e := bnd_eq e e_1
    refine b_cons (s_if (et_cmp op_eq rr_eqI (ev_var 1 rfl r1) ev_int) W.fh (fun hb_2 F_2 H_2 w_2 => ?_) (fun hb_2 F_2 H_2 w_2 => ?_))
    · --
      have W := W.trans w_2
      have r0 := Rep.mono w_2.ff r0
      have r1 := Rep.mono w_2.ff r1
      have r2 := Rep.mono w_2.ff r2
      have r3 := Rep.mono w_2.ff r3
      have r_1 := Rep.mono w_2.ff r_1
      have e := ift e hb_2
      have hp_2 := hb_2
      try simp only [inB_t, inB_f, decide_eq_true_eq, decide_eq_false_iff_not, Bool.and_eq_true, Bool.or_eq_true, Bool.and_eq_false_iff, Bool.or_eq_false_iff, Bool.not_eq_true', Bool.not_eq_false', Bool.not_eq_eq_eq_not, Bool.not_true, Bool.not_false] at hp_2
      exact b_one (s_ret (ev_pair (ea2 (ev_var 2 rfl r2) (EvN.ev (EvC.evn rfl nd (evn_lc 5 nd (ei_range1 B.range (ev_mod (ev_var 3 rfl r3) ev_int (by decide)) (by walk_at "vc")) (fun _law_k_3 m_3 u_3 F_3 H_3 w_3 r_3 _ _ _ _ _ => (ev_ixL (ev_var 4 rfl (Rep.mono w_3.ff r_1)) (ev_mod (ev_call2 pass0 (hr.mono (by decide)) C__law_cell_at (ev_var 0 rfl (Rep.mono w_3.ff r0)) (ev_add ev_int (ev_var 5 rfl r_3)) (by have q0 := rng_mem.mp m_3; unfold pre__law_cell_at; walk_at "vc")) (ev_len B.len (ev_var 4 rfl (Rep.mono w_3.ff r_1))) (by exact subs_pos pre.1 e_1)) (by exact mod_ix (subs_pos pre.1 e_1))))))))) W.fh fun v F1 H1 w1 r1 => q v F1 H1 (W.trans w1) (rep_eq r1 e))
    · --
      have W := W.trans w_2
      have r0 := Rep.mono w_2.ff r0
      have r1 := Rep.mono w_2.ff r1
      have r2 := Rep.mono w_2.ff r2
      have r3 := Rep.mono w_2.ff r3
      have r_1 := Rep.mono w_2.ff r_1
      have e := MP.iff e hb_2
      have hp_2 := hb_2
      try simp only [inB_t, inB_f, decide_eq_true_eq, decide_eq_false_iff_not, Bool.and_eq_true, Bool.or_eq_true, Bool.and_eq_false_iff, Bool.or_eq_false_iff, Bool.not_eq_true', Bool.not_eq_false', Bool.not_eq_eq_eq_not, Bool.not_true, Bool.not_false] at hp_2
      refine b_nil ?_
      refine b_cons (s_if (et_cmp op_eq rr_eqI (ev_mod (ev_var 3 rfl r3) ev_int (by decide)) ev_int) W.fh (fun hb_4 F_4 H_4 w_4 => ?_) (fun hb_4 F_4 H_4 w_4 => ?_))
      · --
        have W := W.trans w_4
        have r0 := Rep.mono w_4.ff r0
        have r1 := Rep.mono w_4.ff r1
        have r2 := Rep.mono w_4.ff r2
        have r3 := Rep.mono w_4.ff r3
        have r_1 := Rep.mono w_4.ff r_1
        have e := ift e hb_4
        have hp_4 := hb_4
        try simp only [inB_t, inB_f, decide_eq_true_eq, decide_eq_false_iff_not, Bool.and_eq_true, Bool.or_eq_true, Bool.and_eq_false_iff, Bool.or_eq_false_iff, Bool.not_eq_true', Bool.not_eq_false', Bool.not_eq_eq_eq_not, Bool.not_true, Bool.not_false] at hp_4
        refine b_cons (s_asg 2 nd (ev_add ev_int (ev_mod (ev_div (ev_var 3 rfl r3) ev_int ⟨by decide, by decide⟩) ev_int (by decide))) W.fh fun v_5 F_5 H_5 w_5 r_5 => ?_)
        have W := W.trans w_5
        have r0 := Rep.mono w_5.ff r0
        have r1 := Rep.mono w_5.ff r1
        have r3 := Rep.mono w_5.ff r3
        have r_1 := Rep.mono w_5.ff r_1
        obtain ⟨_law_count_5, e_5⟩ : ∃ y, y = ((7 : Int) + ((_law_more / (9 : Int)) % (3 : Int))) := ⟨_, rfl⟩
        have r_5 := rep_eq r_5 e_5
        have e := bnd_eq e e_5
        refine b_cons (s_asg 4 nd (EvN.ev (evn_nil (α := (List Int)))) W.fh fun v_6 F_6 H_6 w_6 r_6 => ?_)
        have W := W.trans w_6
        have r0 := Rep.mono w_6.ff r0
        have r1 := Rep.mono w_6.ff r1
        have r3 := Rep.mono w_6.ff r3
        have r_5 := Rep.mono w_6.ff r_5
        obtain ⟨_law_rows_6, e_6⟩ : ∃ y, y = ([] : (List (List Int))) := ⟨_, rfl⟩
        have r_6 := rep_eq r_6 e_6
        have e := bnd_eq e e_6
        refine b_cons (s_for (S := (List (List Int))) (xs := (rng 0 _law_count_5)) (fun i s_7 σ F' H' => ∃ (y_7_4 : V) (z_7_6 : Option V), σ = [some v0, some v1, some v_5, some v3, some y_7_4, none, z_7_6, none, none] ∧ Wk F H F' H' ∧ Same F_6 F' ∧ rep K F' y_7_4 s_7 ∧ DuoI _law_count_5 i s_7) PassesOwn.never rfl (ei_range1 B.range (ev_var 2 rfl r_5) (by walk_at "vc")) W.fh (pg_name (i := 6) nd rfl (by first | exact .inl rfl | exact .inr rfl)) ?h0_7 ?hs_7 e ?turn_7 ?done_7)
        case h0_7 => exact fun F1 H1 w1 => ⟨_, _, rfl, W.trans w1, w1.ff, (Rep.mono w1.ff r_6), (duoI0 e_6)⟩
        case hs_7 =>
          intro i s_7 σ F' H' hB
          obtain ⟨y_7_4, z_7_6, rfl, W, SM7, r_7_4, inv⟩ := hB
          have r0 := Rep.mono SM7 r0
          have r1 := Rep.mono SM7 r1
          have r3 := Rep.mono SM7 r3
          have r_5 := Rep.mono SM7 r_5
          exact W.fh
        case turn_7 =>
          intro i _law_one_7 s_7 σ F_7 H_7 v_7 kk hx_7 hB rx_7 e
          have hm_7 := List.mem_of_getElem? hx_7
          have hi_7 := (List.getElem?_eq_some_iff.mp hx_7).1
          have hr_7 := rng_mem.mp hm_7
          have hg_7 := rng_get hx_7
          obtain ⟨y_7_4, z_7_6, rfl, W, SM7, r_7_4, inv⟩ := hB
          have r0 := Rep.mono SM7 r0
          have r1 := Rep.mono SM7 r1
          have r3 := Rep.mono SM7 r3
          have r_5 := Rep.mono SM7 r_5
          have ST7 := Same.refl F_7
          refine b_one (s_asg 4 nd (EvN.ev (evn_cat (ev_var 4 rfl r_7_4) (EvN.ev (EvC.evn rfl nd (evn_lc 7 nd (ei_range2 B.range (ev_add (ev_var 6 rfl rx_7) ev_int) (ev_var 2 rfl r_5) (by walk_at "vc")) (fun _law_thing_8 m_8 u_8 F_8 H_8 w_8 r_8 _ _ _ _ _ => (EvN.ev (evn_lst (el_cons (ev_var 6 rfl (Rep.mono w_8.ff rx_7)) (el_cons (ev_var 7 rfl r_8) el_nil)) (by decide : (2 : Nat) ≤ sizeLine))))))) (by exact duo_cat inv (by omega) (by omega) (by omega)))) W.fh fun v_9 F_9 H_9 w_9 r_9 => ?_)
          have W := W.trans w_9
          have SM7 := SM7.trans w_9.ff
          have ST7 := ST7.trans w_9.ff
          have r0 := Rep.mono w_9.ff r0
          have r1 := Rep.mono w_9.ff r1
          have r3 := Rep.mono w_9.ff r3
          have r_5 := Rep.mono w_9.ff r_5
          have rx_7 := Rep.mono w_9.ff rx_7
          obtain ⟨_law_rows_9, e_9⟩ : ∃ y, y = (s_7 ++ ((rng (_law_one_7 + (1 : Int)) _law_count_5).map fun (_law_thing_8 : Int) => [_law_one_7, _law_thing_8])) := ⟨_, rfl⟩
          have r_9 := rep_eq r_9 e_9
          have e := bnd_eq e e_9
          exact ⟨_law_rows_9, _, ST7, ⟨_, _, rfl, W, SM7, r_9, (duoI1 inv hg_7 (by omega) e_9)⟩, e⟩
        case done_7 =>
          intro s_7 σ F_7 H_7 hB e
          obtain ⟨y_7_4, z_7_6, rfl, W, SM7, r_7_4, inv⟩ := hB
          have r0 := Rep.mono SM7 r0
          have r1 := Rep.mono SM7 r1
          have r3 := Rep.mono SM7 r3
          have r_5 := Rep.mono SM7 r_5
          exact b_one (s_ret (ev_pair (ea2 (ev_var 2 rfl r_5) (ev_var 4 rfl r_7_4))) W.fh fun v F1 H1 w1 r1 => q v F1 H1 (W.trans w1) (rep_eq r1 e))
      · --
        have W := W.trans w_4
        have r0 := Rep.mono w_4.ff r0
        have r1 := Rep.mono w_4.ff r1
        have r2 := Rep.mono w_4.ff r2
        have r3 := Rep.mono w_4.ff r3
        have r_1 := Rep.mono w_4.ff r_1
        have e := MP.iff e hb_4
        have hp_4 := hb_4
        try simp only [inB_t, inB_f, decide_eq_true_eq, decide_eq_false_iff_not, Bool.and_eq_true, Bool.or_eq_true, Bool.and_eq_false_iff, Bool.or_eq_false_iff, Bool.not_eq_true', Bool.not_eq_false', Bool.not_eq_eq_eq_not, Bool.not_true, Bool.not_false] at hp_4
        refine b_nil ?_
        exact b_one (s_ret (ev_pair (ea2 (ev_var 2 rfl r2) (EvN.ev (EvC.evn rfl nd (EvC.eq (evn_lcT (f := fun (_law_row_10 : (List Int)) => (decide ((_law_row_10.length : Int) = (_law_more % (_law_count + (1 : Int)))))) (g := fun (_law_row_10 : (List Int)) => _law_row_10) 8 nd (ei_list (ev_var 4 rfl r_1)) (fun _law_row_10 m_10 u_10 F_10 H_10 w_10 r_10 _ _ _ _ _ => (et_cmp op_eq rr_eqI (ev_len B.len (ev_var 8 rfl r_10)) (ev_mod (ev_var 3 rfl (Rep.mono w_10.ff r3)) (ev_add (ev_var 2 rfl (Rep.mono w_10.ff r2)) ev_int) (by have q0 := m_10; walk_at "vc")))) (fun _law_row_10 m_10 ht_10 u_10 F_10 H_10 w_10 r_10 _ _ _ _ _ => (ev_var 8 rfl r_10))) (List.map_id' _)))))) W.fh fun v F1 H1 w1 r1 => q v F1 H1 (W.trans w1) (rep_eq r1 e))
abbrev s__law_apart : Stmt := topS 31
theorem sc__law_apart : FnScope ["_law_vectors", "_law_row", "_law_sums", "_law_thing", "_law_one"] ["_law_vectors", "_law_row"] (defScope s__law_apart) := ⟨rfl, rfl, rfl, by decide +kernel, rfl, by decide +kernel, by decide +kernel⟩
theorem ok__law_apart {f : Addr} {fd : FuncData} (Fd : Fun K "_law_apart" "_law_apart" s__law_apart f fd) (B : Bt mg) : FnOk P w K mg base CX0 1 f fd ["_law_vectors", "_law_row"] (sp2 K pre__law_apart m__law_apart (oF K)) := by
  refine Fd.ok sc__law_apart (fun vs H Q E h => ?_) (fun cdv A outer s H vs Q E hr h => ⟨_, bw_pss, ?_⟩)
  · obtain ⟨_, _, _, _, _, rfl, _⟩ := h
    rfl
  · obtain ⟨F, _law_vectors, _law_row, v0, v1, rfl, fh, r0, r1, pre, q⟩ := h
    have nd := (sc__law_apart).nd
    have W := Wk.refl fh
    have e : m__law_apart _law_vectors _law_row = _ := rfl
    conv at e => rhs; unfold m__law_apart
    unfold L2.start
    unfold pre__law_apart at pre
    refine b_cons (s_asg 2 nd (EvN.ev (evn_lst (el_cons ev_int el_nil) (by decide : (1 : Nat) ≤ sizeLine))) W.fh fun v_1 F_1 H_1 w_1 r_1 => ?_)
    have W := W.trans w_1
    have r0 := Rep.mono w_1.ff r0
    have r1 := Rep.mono w_1.ff r1
    obtain ⟨_law_sums_1, e_1⟩ : ∃ y, y = [(0 : Int)] := ⟨_, rfl⟩
    have r_1 := rep_eq r_1 e_1
    have e := bnd_eq e e_1
    refine b_cons (s_for (S := (List Int)) (xs := _law_row) (fun i s_2 σ F' H' => ∃ (y_2_2 : V) (z_2_3 : Option V), σ = [some v0, some v1, some y_2_2, z_2_3, none] ∧ Wk F H F' H' ∧ Same F_1 F' ∧ rep K F' y_2_2 s_2 ∧ s_2.length = 2 ^ i) PassesOwn.never rfl (ei_list (ev_var 1 rfl r1)) W.fh (pg_name (i := 3) nd rfl (by first | exact .inl rfl | exact .inr rfl)) ?h0_2 ?hs_2 e ?turn_2 ?done_2)
    case h0_2 => exact fun F1 H1 w1 => ⟨_, _, rfl, W.trans w1, w1.ff, (Rep.mono w1.ff r_1), (by rw [e_1]; rfl)⟩
    case hs_2 =>
      intro i s_2 σ F' H' hB
      obtain ⟨y_2_2, z_2_3, rfl, W, SM2, r_2_2, inv⟩ := hB
      have r0 := Rep.mono SM2 r0
      have r1 := Rep.mono SM2 r1
      exact W.fh
    case turn_2 =>
      intro i _law_thing_2 s_2 σ F_2 H_2 v_2 kk hx_2 hB rx_2 e
      have hm_2 := List.mem_of_getElem? hx_2
      have hi_2 := (List.getElem?_eq_some_iff.mp hx_2).1
      obtain ⟨y_2_2, z_2_3, rfl, W, SM2, r_2_2, inv⟩ := hB
      have r0 := Rep.mono SM2 r0
      have r1 := Rep.mono SM2 r1
      have ST2 := Same.refl F_2
      refine b_cons (s_if (et_cmp (op_inD (hu65 hr)) rr_in (ev_ixL (ev_var 0 rfl r0) (ev_var 3 rfl rx_2) (by have := pre.2 _ hm_2; omega)) (ev_var 2 rfl r_2_2)) W.fh (fun hb_3 F_3 H_3 w_3 => ?_) (fun hb_3 F_3 H_3 w_3 => ?_))
      · --
        have W := W.trans w_3
        have SM2 := SM2.trans w_3.ff
        have ST2 := ST2.trans w_3.ff
        have r0 := Rep.mono w_3.ff r0
        have r1 := Rep.mono w_3.ff r1
        have r_2_2 := Rep.mono w_3.ff r_2_2
        have rx_2 := Rep.mono w_3.ff rx_2
        have e := ift e hb_3
        have hp_3 := hb_3
        try simp only [inB_t, inB_f, decide_eq_true_eq, decide_eq_false_iff_not, Bool.and_eq_true, Bool.or_eq_true, Bool.and_eq_false_iff, Bool.or_eq_false_iff, Bool.not_eq_true', Bool.not_eq_false', Bool.not_eq_eq_eq_not, Bool.not_true, Bool.not_false] at hp_3
        exact b_one (s_ret ev_bl W.fh fun v F1 H1 w1 r1 => q v F1 H1 (W.trans w1) (rep_eq r1 e))
      · --
        have W := W.trans w_3
        have SM2 := SM2.trans w_3.ff
        have ST2 := ST2.trans w_3.ff
        have r0 := Rep.mono w_3.ff r0
        have r1 := Rep.mono w_3.ff r1
        have r_2_2 := Rep.mono w_3.ff r_2_2
        have rx_2 := Rep.mono w_3.ff rx_2
        have e := MP.iff e hb_3
        have hp_3 := hb_3
        try simp only [inB_t, inB_f, decide_eq_true_eq, decide_eq_false_iff_not, Bool.and_eq_true, Bool.or_eq_true, Bool.and_eq_false_iff, Bool.or_eq_false_iff, Bool.not_eq_true', Bool.not_eq_false', Bool.not_eq_eq_eq_not, Bool.not_true, Bool.not_false] at hp_3
        refine b_nil ?_
        refine b_one (s_asg 2 nd (EvN.ev (evn_cat (ev_var 2 rfl r_2_2) (EvN.ev (EvC.evn rfl nd (evn_lc 4 nd (ei_list (ev_var 2 rfl r_2_2)) (fun _law_one_4 m_4 u_4 F_4 H_4 w_4 r_4 _ _ _ _ _ => (ev_xor (ev_var 4 rfl r_4) (ev_ixL (ev_var 0 rfl (Rep.mono w_4.ff r0)) (ev_var 3 rfl (Rep.mono w_4.ff rx_2)) (by have := pre.2 _ hm_2; omega))))))) (by exact apart_cat inv hi_2 (by omega)))) W.fh fun v_5 F_5 H_5 w_5 r_5 => ?_)
        have W := W.trans w_5
        have SM2 := SM2.trans w_5.ff
        have ST2 := ST2.trans w_5.ff
        have r0 := Rep.mono w_5.ff r0
        have r1 := Rep.mono w_5.ff r1
        have rx_2 := Rep.mono w_5.ff rx_2
        obtain ⟨_law_sums_5, e_5⟩ : ∃ y, y = (s_2 ++ (s_2.map fun (_law_one_4 : Int) => (Builtin.bitXor _law_one_4 (gi _law_vectors _law_thing_2)))) := ⟨_, rfl⟩
        have r_5 := rep_eq r_5 e_5
        have e := bnd_eq e e_5
        exact ⟨_law_sums_5, _, ST2, ⟨_, _, rfl, W, SM2, r_5, (apart1 inv e_5)⟩, e⟩
    case done_2 =>
      intro s_2 σ F_2 H_2 hB e
      obtain ⟨y_2_2, z_2_3, rfl, W, SM2, r_2_2, inv⟩ := hB
      have r0 := Rep.mono SM2 r0
      have r1 := Rep.mono SM2 r1
      exact b_one (s_ret ev_bl W.fh fun v F1 H1 w1 r1 => q v F1 H1 (W.trans w1) (rep_eq r1 e))
abbrev s__law_few : Stmt := topS 33
theorem sc__law_few : FnScope ["_law_script", "_law_kind", "_law_count", "_law_more", "_law_many", "_law_rows", "_law_thing", "_law_row", "_law_vectors", "_law_good", "_law_most", "_law_table_here"] ["_law_script"] (defScope s__law_few) := ⟨rfl, rfl, rfl, by decide +kernel, rfl, by decide +kernel, by decide +kernel⟩
theorem ok__law_few {f : Addr} {fd : FuncData} (Fd : Fun K "_law_few" "_law_few" s__law_few f fd) (B : Bt mg) (C__law_cell_at : Cal P w K mg base CX0 1 "_law_cell_at" ["_law_script", "_law_k"] (sp2 K pre__law_cell_at m__law_cell_at (oF K))) (C__law_pairs_by : Cal P w K mg base CX0 1 "_law_pairs_by" ["_law_many"] (sp1 K pre__law_pairs_by m__law_pairs_by (oF K))) (C__law_parts : Cal P w K mg base CX0 2 "_law_parts" ["_law_script", "_law_kind", "_law_count", "_law_more"] (sp4 K pre__law_parts m__law_parts (oF K))) (C__law_apart : Cal P w K mg base CX0 1 "_law_apart" ["_law_vectors", "_law_row"] (sp2 K pre__law_apart m__law_apart (oF K))) : FnOk P w K mg base CX0 3 f fd ["_law_script"] (sp1 K (fun _ => True) m__law_few (oF K)) := by
  refine Fd.ok sc__law_few (fun vs H Q E h => ?_) (fun cdv A outer s H vs Q E hr h => ⟨_, bw_pss, ?_⟩)
  · obtain ⟨_, _, _, rfl, _⟩ := h
    rfl
  · obtain ⟨F, _law_script, v0, rfl, fh, r0, pre, q⟩ := h
    have nd := (sc__law_few).nd
    have W := Wk.refl fh
    have e : m__law_few _law_script = _ := rfl
    conv at e => rhs; unfold m__law_few
    unfold L2.start
    refine b_cons (s_asg 1 nd (ev_mod (ev_call2 pass0 (hr.mono (by decide)) C__law_cell_at (ev_var 0 rfl r0) ev_int (by unfold pre__law_cell_at; walk_at "vc")) ev_int (by decide)) W.fh fun v_1 F_1 H_1 w_1 r_1 => ?_)
    have W := W.trans w_1
    have r0 := Rep.mono w_1.ff r0
    obtain ⟨_law_kind_1, e_1⟩ : ∃ y, y = ((m__law_cell_at _law_script (0 : Int)) % (9 : Int)) := ⟨_, rfl⟩
    have r_1 := rep_eq r_1 e_1
    have e := bnd_eq e e_1
    refine b_cons (s_asg 2 nd (ev_ixL (EvN.ev (evn_lst (el_cons ev_int (el_cons ev_int (el_cons ev_int (el_cons ev_int (el_cons ev_int (el_cons ev_int (el_cons ev_int el_nil))))))) (by decide : (7 : Nat) ≤ sizeLine))) (ev_mod (ev_div (ev_call2 pass0 (hr.mono (by decide)) C__law_cell_at (ev_var 0 rfl r0) ev_int (by unfold pre__law_cell_at; walk_at "vc")) ev_int ⟨by decide, by decide⟩) ev_int (by decide)) (by walk_at "vc")) W.fh fun v_2 F_2 H_2 w_2 r_2 => ?_)
    have W := W.trans w_2
    have r0 := Rep.mono w_2.ff r0
    have r_1 := Rep.mono w_2.ff r_1
    obtain ⟨_law_count_2, e_2⟩ : ∃ y, y = (gi [(6 : Int), (5 : Int), (4 : Int), (3 : Int), (6 : Int), (1 : Int), (0 : Int)] (((m__law_cell_at _law_script (0 : Int)) / (9 : Int)) % (7 : Int))) := ⟨_, rfl⟩
    have r_2 := rep_eq r_2 e_2
    have e := bnd_eq e e_2
    refine b_cons (s_asg 3 nd (ev_call2 pass0 (hr.mono (by decide)) C__law_cell_at (ev_var 0 rfl r0) ev_int (by unfold pre__law_cell_at; walk_at "vc")) W.fh fun v_3 F_3 H_3 w_3 r_3 => ?_)
    have W := W.trans w_3
    have r0 := Rep.mono w_3.ff r0
    have r_1 := Rep.mono w_3.ff r_1
    have r_2 := Rep.mono w_3.ff r_2
    obtain ⟨_law_more_3, e_3⟩ : ∃ y, y = (m__law_cell_at _law_script (1 : Int)) := ⟨_, rfl⟩
    have r_3 := rep_eq r_3 e_3
    have e := bnd_eq e e_3
    refine b_cons (s_if (et_cmp op_eq rr_eqI (ev_var 1 rfl r_1) ev_int) W.fh (fun hb_4 F_4 H_4 w_4 => ?_) (fun hb_4 F_4 H_4 w_4 => ?_))
    · --
      have W := W.trans w_4
      have r0 := Rep.mono w_4.ff r0
      have r_1 := Rep.mono w_4.ff r_1
      have r_2 := Rep.mono w_4.ff r_2
      have r_3 := Rep.mono w_4.ff r_3
      have e := ift e hb_4
      have hp_4 := hb_4
      try simp only [inB_t, inB_f, decide_eq_true_eq, decide_eq_false_iff_not, Bool.and_eq_true, Bool.or_eq_true, Bool.and_eq_false_iff, Bool.or_eq_false_iff, Bool.not_eq_true', Bool.not_eq_false', Bool.not_eq_eq_eq_not, Bool.not_true, Bool.not_false] at hp_4
      refine b_cons (s_asg 4 nd (ev_add ev_int (ev_mod (ev_var 3 rfl r_3) ev_int (by decide))) W.fh fun v_5 F_5 H_5 w_5 r_5 => ?_)
      have W := W.trans w_5
      have r0 := Rep.mono w_5.ff r0
      have r_1 := Rep.mono w_5.ff r_1
      have r_2 := Rep.mono w_5.ff r_2
      have r_3 := Rep.mono w_5.ff r_3
      obtain ⟨_law_many_5, e_5⟩ : ∃ y, y = ((1 : Int) + (_law_more_3 % (4 : Int))) := ⟨_, rfl⟩
      have r_5 := rep_eq r_5 e_5
      have e := bnd_eq e e_5
      refine b_cons (s_join (S := Int) (fun s_6 σ F' H' => ∃ (y_6_4 : V), σ = [some v0, some v_1, some v_2, some v_3, some y_6_4, none, none, none, none, none, none, none] ∧ Wk F H F' H' ∧ Same F_5 F' ∧ rep K F' y_6_4 s_6 ∧ 0 ≤ s_6 ∧ s_6 ≤ 5) (et_cmp op_gt rr_gtI (ev_lenS B.len (ev_var 0 rfl r0)) ev_int) W.fh e (fun hb_6 F_6 H_6 w_6 kk e => ?_) (fun hb_6 F_6 H_6 w_6 kk e => ?_) (fun s_6 σ F_6 H_6 hB e => ?_))
      ·
        have SM6 := Same.refl F_5
        have W := W.trans w_6
        have SM6 := SM6.trans w_6.ff
        have r0 := Rep.mono w_6.ff r0
        have r_1 := Rep.mono w_6.ff r_1
        have r_2 := Rep.mono w_6.ff r_2
        have r_3 := Rep.mono w_6.ff r_3
        have r_5 := Rep.mono w_6.ff r_5
        have e := ift e hb_6
        have hp_6 := hb_6
        try simp only [inB_t, inB_f, decide_eq_true_eq, decide_eq_false_iff_not, Bool.and_eq_true, Bool.or_eq_true, Bool.and_eq_false_iff, Bool.or_eq_false_iff, Bool.not_eq_true', Bool.not_eq_false', Bool.not_eq_eq_eq_not, Bool.not_true, Bool.not_false] at hp_6
        refine b_one (s_asg 4 nd (ev_add ev_int (ev_mod (ev_var 3 rfl r_3) ev_int (by decide))) W.fh fun v_7 F_7 H_7 w_7 r_7 => ?_)
        have W := W.trans w_7
        have SM6 := SM6.trans w_7.ff
        have r0 := Rep.mono w_7.ff r0
        have r_1 := Rep.mono w_7.ff r_1
        have r_2 := Rep.mono w_7.ff r_2
        have r_3 := Rep.mono w_7.ff r_3
        obtain ⟨_law_many_7, e_7⟩ : ∃ y, y = ((1 : Int) + (_law_more_3 % (5 : Int))) := ⟨_, rfl⟩
        have r_7 := rep_eq r_7 e_7
        have e := bnd_eq e e_7
        exact ⟨_law_many_7, _, ⟨_, rfl, W, SM6, r_7, (by walk_at "vc")⟩, e⟩
      ·
        have SM6 := Same.refl F_5
        have W := W.trans w_6
        have SM6 := SM6.trans w_6.ff
        have r0 := Rep.mono w_6.ff r0
        have r_1 := Rep.mono w_6.ff r_1
        have r_2 := Rep.mono w_6.ff r_2
        have r_3 := Rep.mono w_6.ff r_3
        have r_5 := Rep.mono w_6.ff r_5
        have e := MP.iff e hb_6
        have hp_6 := hb_6
        try simp only [inB_t, inB_f, decide_eq_true_eq, decide_eq_false_iff_not, Bool.and_eq_true, Bool.or_eq_true, Bool.and_eq_false_iff, Bool.or_eq_false_iff, Bool.not_eq_true', Bool.not_eq_false', Bool.not_eq_eq_eq_not, Bool.not_true, Bool.not_false] at hp_6
        exact b_nil ⟨_law_many_5, _, ⟨_, rfl, W, SM6, r_5, (by walk_at "vc")⟩, e⟩
      obtain ⟨y_6_4, rfl, W, SM6, r_6_4, inv⟩ := hB
      have r0 := Rep.mono SM6 r0
      have r_1 := Rep.mono SM6 r_1
      have r_2 := Rep.mono SM6 r_2
      have r_3 := Rep.mono SM6 r_3
      exact b_one (s_ret (ev_pair (ea2 (ev_mul ev_int (ev_var 4 rfl r_6_4) (.inl ⟨by decide, by decide⟩)) (ev_call1 pass0 (hr.mono (by decide)) C__law_pairs_by (ev_var 4 rfl r_6_4) (by unfold pre__law_pairs_by; walk_at "vc")))) W.fh fun v F1 H1 w1 r1 => q v F1 H1 (W.trans w1) (rep_eq r1 e))
    · --
      have W := W.trans w_4
      have r0 := Rep.mono w_4.ff r0
      have r_1 := Rep.mono w_4.ff r_1
      have r_2 := Rep.mono w_4.ff r_2
      have r_3 := Rep.mono w_4.ff r_3
      have e := MP.iff e hb_4
      have hp_4 := hb_4
      try simp only [inB_t, inB_f, decide_eq_true_eq, decide_eq_false_iff_not, Bool.and_eq_true, Bool.or_eq_true, Bool.and_eq_false_iff, Bool.or_eq_false_iff, Bool.not_eq_true', Bool.not_eq_false', Bool.not_eq_eq_eq_not, Bool.not_true, Bool.not_false] at hp_4
      refine b_nil ?_
      refine b_cons (s_if (et_cmp op_lt rr_ltI (ev_var 1 rfl r_1) ev_int) W.fh (fun hb_8 F_8 H_8 w_8 => ?_) (fun hb_8 F_8 H_8 w_8 => ?_))
      · --
        have W := W.trans w_8
        have r0 := Rep.mono w_8.ff r0
        have r_1 := Rep.mono w_8.ff r_1
        have r_2 := Rep.mono w_8.ff r_2
        have r_3 := Rep.mono w_8.ff r_3
        have e := ift e hb_8
        have hp_8 := hb_8
        try simp only [inB_t, inB_f, decide_eq_true_eq, decide_eq_false_iff_not, Bool.and_eq_true, Bool.or_eq_true, Bool.and_eq_false_iff, Bool.or_eq_false_iff, Bool.not_eq_true', Bool.not_eq_false', Bool.not_eq_eq_eq_not, Bool.not_true, Bool.not_false] at hp_8
        exact b_one (s_ret (ev_call4 pass0 (hr.mono (by decide)) C__law_parts (ev_var 0 rfl r0) (ev_var 1 rfl r_1) (ev_var 2 rfl r_2) (ev_var 3 rfl r_3) (by exact menu_e1 e_2)) W.fh fun v F1 H1 w1 r1 => q v F1 H1 (W.trans w1) (rep_eq r1 e))
      · --
        have W := W.trans w_8
        have r0 := Rep.mono w_8.ff r0
        have r_1 := Rep.mono w_8.ff r_1
        have r_2 := Rep.mono w_8.ff r_2
        have r_3 := Rep.mono w_8.ff r_3
        have e := MP.iff e hb_8
        have hp_8 := hb_8
        try simp only [inB_t, inB_f, decide_eq_true_eq, decide_eq_false_iff_not, Bool.and_eq_true, Bool.or_eq_true, Bool.and_eq_false_iff, Bool.or_eq_false_iff, Bool.not_eq_true', Bool.not_eq_false', Bool.not_eq_eq_eq_not, Bool.not_true, Bool.not_false] at hp_8
        refine b_nil ?_
        refine b_cons (s_asg 2 nd (ev_ixL (EvN.ev (evn_lst (el_cons ev_int (el_cons ev_int (el_cons ev_int (el_cons ev_int (el_cons ev_int (el_cons ev_int (el_cons ev_int el_nil))))))) (by decide : (7 : Nat) ≤ sizeLine))) (ev_mod (ev_div (ev_call2 pass0 (hr.mono (by decide)) C__law_cell_at (ev_var 0 rfl r0) ev_int (by unfold pre__law_cell_at; walk_at "vc")) ev_int ⟨by decide, by decide⟩) ev_int (by decide)) (by walk_at "vc")) W.fh fun v_9 F_9 H_9 w_9 r_9 => ?_)
        have W := W.trans w_9
        have r0 := Rep.mono w_9.ff r0
        have r_1 := Rep.mono w_9.ff r_1
        have r_3 := Rep.mono w_9.ff r_3
        obtain ⟨_law_count_9, e_9⟩ : ∃ y, y = (gi [(6 : Int), (5 : Int), (4 : Int), (3 : Int), (7 : Int), (7 : Int), (2 : Int)] (((m__law_cell_at _law_script (0 : Int)) / (9 : Int)) % (7 : Int))) := ⟨_, rfl⟩
        have r_9 := rep_eq r_9 e_9
        have e := bnd_eq e e_9
        refine b_cons (s_asg 5 nd (EvN.ev (evn_lst (el_cons (EvN.ev (evn_nil (α := Int))) el_nil) (by decide : (1 : Nat) ≤ sizeLine))) W.fh fun v_10 F_10 H_10 w_10 r_10 => ?_)
        have W := W.trans w_10
        have r0 := Rep.mono w_10.ff r0
        have r_1 := Rep.mono w_10.ff r_1
        have r_3 := Rep.mono w_10.ff r_3
        have r_9 := Rep.mono w_10.ff r_9
        obtain ⟨_law_rows_10, e_10⟩ : ∃ y, y = [([] : (List Int))] := ⟨_, rfl⟩
        have r_10 := rep_eq r_10 e_10
        have e := bnd_eq e e_10
        refine b_cons (s_for (S := (List (List Int))) (xs := (rng 0 _law_count_9)) (fun i s_11 σ F' H' => ∃ (y_11_5 : V) (z_11_6 : Option V), σ = [some v0, some v_1, some v_9, some v_3, none, some y_11_5, z_11_6, none, none, none, none, none] ∧ Wk F H F' H' ∧ Same F_10 F' ∧ rep K F' y_11_5 s_11 ∧ RowI i s_11) PassesOwn.never rfl (ei_range1 B.range (ev_var 2 rfl r_9) (by have := menu_e e_9; omega)) W.fh (pg_name (i := 6) nd rfl (by first | exact .inl rfl | exact .inr rfl)) ?h0_11 ?hs_11 e ?turn_11 ?done_11)
        case h0_11 => exact fun F1 H1 w1 => ⟨_, _, rfl, W.trans w1, w1.ff, (Rep.mono w1.ff r_10), (rowI0 e_10)⟩
        case hs_11 =>
          intro i s_11 σ F' H' hB
          obtain ⟨y_11_5, z_11_6, rfl, W, SM11, r_11_5, inv⟩ := hB
          have r0 := Rep.mono SM11 r0
          have r_1 := Rep.mono SM11 r_1
          have r_3 := Rep.mono SM11 r_3
          have r_9 := Rep.mono SM11 r_9
          exact W.fh
        case turn_11 =>
          intro i _law_thing_11 s_11 σ F_11 H_11 v_11 kk hx_11 hB rx_11 e
          have hm_11 := List.mem_of_getElem? hx_11
          have hi_11 := (List.getElem?_eq_some_iff.mp hx_11).1
          have hr_11 := rng_mem.mp hm_11
          have hg_11 := rng_get hx_11
          obtain ⟨y_11_5, z_11_6, rfl, W, SM11, r_11_5, inv⟩ := hB
          have r0 := Rep.mono SM11 r0
          have r_1 := Rep.mono SM11 r_1
          have r_3 := Rep.mono SM11 r_3
          have r_9 := Rep.mono SM11 r_9
          have ST11 := Same.refl F_11
          refine b_one (s_asg 5 nd (EvN.ev (evn_cat (ev_var 5 rfl r_11_5) (EvN.ev (EvC.evn rfl nd ((evn_lcT (f := fun (_law_row_12 : (List Int)) => (decide ((_law_row_12.length : Int) < (3 : Int)))) (g := fun (_law_row_12 : (List Int)) => (_law_row_12 ++ [_law_thing_11])) 7 nd (ei_list (ev_var 5 rfl r_11_5)) (fun _law_row_12 m_12 u_12 F_12 H_12 w_12 r_12 _ _ _ _ _ => (et_cmp op_lt rr_ltI (ev_len B.len (ev_var 7 rfl r_12)) ev_int)) (fun _law_row_12 m_12 ht_12 u_12 F_12 H_12 w_12 r_12 _ _ _ _ _ => (EvN.ev (evn_cat (ev_var 7 rfl r_12) (EvN.ev (evn_lst (el_cons (ev_var 6 rfl (Rep.mono w_12.ff rx_11)) el_nil) (by decide : (1 : Nat) ≤ sizeLine))) (by have q0 := m_12; have q1 := ht_12; walk_at "vc")))))))) (by exact row_cat inv hg_11.2 (by have := menu_e e_9; omega)))) W.fh fun v_13 F_13 H_13 w_13 r_13 => ?_)
          have W := W.trans w_13
          have SM11 := SM11.trans w_13.ff
          have ST11 := ST11.trans w_13.ff
          have r0 := Rep.mono w_13.ff r0
          have r_1 := Rep.mono w_13.ff r_1
          have r_3 := Rep.mono w_13.ff r_3
          have r_9 := Rep.mono w_13.ff r_9
          have rx_11 := Rep.mono w_13.ff rx_11
          obtain ⟨_law_rows_13, e_13⟩ : ∃ y, y = (s_11 ++ ((s_11.filter fun (_law_row_12 : (List Int)) => (decide ((_law_row_12.length : Int) < (3 : Int)))).map fun (_law_row_12 : (List Int)) => (_law_row_12 ++ [_law_thing_11]))) := ⟨_, rfl⟩
          have r_13 := rep_eq r_13 e_13
          have e := bnd_eq e e_13
          exact ⟨_law_rows_13, _, ST11, ⟨_, _, rfl, W, SM11, r_13, (rowI1 inv hg_11 e_13)⟩, e⟩
        case done_11 =>
          intro s_11 σ F_11 H_11 hB e
          obtain ⟨y_11_5, z_11_6, rfl, W, SM11, r_11_5, inv⟩ := hB
          have r0 := Rep.mono SM11 r0
          have r_1 := Rep.mono SM11 r_1
          have r_3 := Rep.mono SM11 r_3
          have r_9 := Rep.mono SM11 r_9
          refine b_cons (s_asgCv 8 nd (evn_lc 6 nd (ei_range1 B.range (ev_var 2 rfl r_9) (by have := menu_e e_9; omega)) (fun _law_thing_14 m_14 u_14 F_14 H_14 w_14 r_14 _ _ _ _ _ => (ev_mod (ev_call2 pass0 (hr.mono (by decide)) C__law_cell_at (ev_var 0 rfl (Rep.mono w_14.ff r0)) (ev_add ev_int (ev_var 6 rfl r_14)) (by have q0 := rng_mem.mp m_14; unfold pre__law_cell_at; walk_at "vc")) ev_int (by decide)))) W.fh fun v_15 F_15 H_15 w_15 r_15 => ?_)
          have W := W.trans w_15
          have r0 := Rep.mono w_15.ff r0
          have r_1 := Rep.mono w_15.ff r_1
          have r_3 := Rep.mono w_15.ff r_3
          have r_9 := Rep.mono w_15.ff r_9
          have r_11_5 := Rep.mono w_15.ff r_11_5
          obtain ⟨_law_vectors_15, e_15⟩ : ∃ y, y = ((rng 0 _law_count_9).map fun (_law_thing_14 : Int) => ((m__law_cell_at _law_script ((6 : Int) + _law_thing_14)) % (8 : Int))) := ⟨_, rfl⟩
          have r_15 := rep_eq r_15 e_15
          have e := bnd_eq e e_15
          refine b_cons (s_asgCv 9 nd (EvC.eq (evn_lcT (f := fun (_law_row_16 : (List Int)) => (m__law_apart _law_vectors_15 _law_row_16)) (g := fun (_law_row_16 : (List Int)) => _law_row_16) 7 nd (ei_list (ev_var 5 rfl r_11_5)) (fun _law_row_16 m_16 u_16 F_16 H_16 w_16 r_16 _ _ _ _ _ => (et_val (ev_call2 pass0 (hr.mono (by decide)) C__law_apart (ev_var 8 rfl (Rep.mono w_16.ff r_15)) (ev_var 7 rfl r_16) (by exact good_apart inv m_16 rfl e_15)))) (fun _law_row_16 m_16 ht_16 u_16 F_16 H_16 w_16 r_16 _ _ _ _ _ => (ev_var 7 rfl r_16))) (List.map_id' _)) W.fh fun v_17 F_17 H_17 w_17 r_17 => ?_)
          have W := W.trans w_17
          have r0 := Rep.mono w_17.ff r0
          have r_1 := Rep.mono w_17.ff r_1
          have r_3 := Rep.mono w_17.ff r_3
          have r_9 := Rep.mono w_17.ff r_9
          have r_11_5 := Rep.mono w_17.ff r_11_5
          have r_15 := Rep.mono w_17.ff r_15
          obtain ⟨_law_good_17, e_17⟩ : ∃ y, y = (s_11.filter fun (_law_row_16 : (List Int)) => (m__law_apart _law_vectors_15 _law_row_16)) := ⟨_, rfl⟩
          have r_17 := rep_eq r_17 e_17
          have e := bnd_eq e e_17
          refine b_cons (s_asg 10 nd (ev_max rfl B.max (EvN.ev (EvC.evn rfl nd (evn_lc 7 nd (ei_list (ev_var 9 rfl r_17)) (fun _law_row_18 m_18 u_18 F_18 H_18 w_18 r_18 _ _ _ _ _ => (ev_len B.len (ev_var 7 rfl r_18)))))) (by exact fun z => good_ne inv e_17 (List.map_eq_nil_iff.mp z))) W.fh fun v_19 F_19 H_19 w_19 r_19 => ?_)
          have W := W.trans w_19
          have r0 := Rep.mono w_19.ff r0
          have r_1 := Rep.mono w_19.ff r_1
          have r_3 := Rep.mono w_19.ff r_3
          have r_9 := Rep.mono w_19.ff r_9
          have r_11_5 := Rep.mono w_19.ff r_11_5
          have r_15 := Rep.mono w_19.ff r_15
          have r_17 := Rep.mono w_19.ff r_17
          obtain ⟨_law_most_19, e_19⟩ : ∃ y, y = (lmax (_law_good_17.map fun (_law_row_18 : (List Int)) => (_law_row_18.length : Int))) := ⟨_, rfl⟩
          have r_19 := rep_eq r_19 e_19
          have e := bnd_eq e e_19
          refine b_cons (s_asgC 11 nd (EvC.eq (evn_lcT (f := fun (_law_row_20 : (List Int)) => (decide ((_law_row_20.length : Int) = _law_most_19))) (g := fun (_law_row_20 : (List Int)) => _law_row_20) 7 nd (ei_list (ev_var 9 rfl r_17)) (fun _law_row_20 m_20 u_20 F_20 H_20 w_20 r_20 _ _ _ _ _ => (et_cmp op_eq rr_eqI (ev_len B.len (ev_var 7 rfl r_20)) (ev_var 10 rfl (Rep.mono w_20.ff r_19)))) (fun _law_row_20 m_20 ht_20 u_20 F_20 H_20 w_20 r_20 _ _ _ _ _ => (ev_var 7 rfl r_20))) (List.map_id' _)) W.fh fun p_21 xs_21 F_21 H_21 w_21 r_21 f_21 h_21 g_21 l_21 => ?_)
          have h_21 := W.hfree h_21
          have W := W.trans w_21
          have r0 := Rep.mono w_21.ff r0
          have r_1 := Rep.mono w_21.ff r_1
          have r_3 := Rep.mono w_21.ff r_3
          have r_9 := Rep.mono w_21.ff r_9
          have r_11_5 := Rep.mono w_21.ff r_11_5
          have r_15 := Rep.mono w_21.ff r_15
          have r_17 := Rep.mono w_21.ff r_17
          have r_19 := Rep.mono w_21.ff r_19
          obtain ⟨_law_table_here_21, e_21⟩ : ∃ y, y = (_law_good_17.filter fun (_law_row_20 : (List Int)) => (decide ((_law_row_20.length : Int) = _law_most_19))) := ⟨_, rfl⟩
          have r_21 := reps_eq r_21 e_21
          have e := bnd_eq e e_21
          refine b_cons (s_join (S := (List (List Int))) (fun s_22 σ F' H' => ∃ (xs_22_11 : List V), σ = [some v0, some v_1, some v_9, some v_3, none, some y_11_5, z_11_6, none, some v_15, some v_17, some v_19, some (.ref p_21)] ∧ Wk F H F' H' ∧ Same F_21 F' ∧ reps K F' xs_22_11 s_22 ∧ F' p_21 = Option.none ∧ H' p_21 = some (.lst xs_22_11) ∧ xs_22_11.length ≤ sizeLine) (et_cmp op_eq rr_eqI (ev_var 1 rfl r_1) ev_int) W.fh e (fun hb_22 F_22 H_22 w_22 kk e => ?_) (fun hb_22 F_22 H_22 w_22 kk e => ?_) (fun s_22 σ F_22 H_22 hB e => ?_))
          ·
            have SM22 := Same.refl F_21
            have W := W.trans w_22
            have SM22 := SM22.trans w_22.ff
            have r0 := Rep.mono w_22.ff r0
            have r_1 := Rep.mono w_22.ff r_1
            have r_3 := Rep.mono w_22.ff r_3
            have r_9 := Rep.mono w_22.ff r_9
            have r_11_5 := Rep.mono w_22.ff r_11_5
            have r_15 := Rep.mono w_22.ff r_15
            have r_17 := Rep.mono w_22.ff r_17
            have r_19 := Rep.mono w_22.ff r_19
            have r_21 := reps_mono w_22.ff r_21
            have f_21 := w_22.off f_21 g_21
            have g_21 := w_22.hh _ _ g_21
            have e := ift e hb_22
            have hp_22 := hb_22
            try simp only [inB_t, inB_f, decide_eq_true_eq, decide_eq_false_iff_not, Bool.and_eq_true, Bool.or_eq_true, Bool.and_eq_false_iff, Bool.or_eq_false_iff, Bool.not_eq_true', Bool.not_eq_false', Bool.not_eq_eq_eq_not, Bool.not_true, Bool.not_false] at hp_22
            refine b_one (s_popAt (er_var 11 rfl) (ev_tmp f_21 g_21 (ev_mod (ev_var 3 rfl (Rep.mono (same_new (o := .lst xs_21) f_21) r_3)) (ev_len B.len (ev_var 11 rfl (rep_openG f_21 l_21 r_21))) (by exact most_pos (good_ne inv e_17) e_19 e_21))) W.fh g_21 (by have := l_21; rw [sizeLine_eq] at this; exact this) (by rw [r_21.len]; exact (by exact mod_in (most_pos (good_ne inv e_17) e_19 e_21))) fun F_23 H_23 w_23 => ?_)
            have hl_23 : (xs_21.eraseIdx ((_law_more_3 % (_law_table_here_21.length : Int))).toNat).length ≤ sizeLine := Nat.le_trans (List.length_eraseIdx_le _ _) l_21
            have rn_23 := (reps_mono w_23.ff r_21).erase ((_law_more_3 % (_law_table_here_21.length : Int))).toNat
            have W := (W.trans w_23).mut (o := .lst (xs_21.eraseIdx ((_law_more_3 % (_law_table_here_21.length : Int))).toNat)) h_21 (w_23.off f_21 g_21) (w_23.hh _ _ g_21)
            have SM22 := SM22.trans w_23.ff
            have r0 := Rep.mono w_23.ff r0
            have r_1 := Rep.mono w_23.ff r_1
            have r_3 := Rep.mono w_23.ff r_3
            have r_9 := Rep.mono w_23.ff r_9
            have r_11_5 := Rep.mono w_23.ff r_11_5
            have r_15 := Rep.mono w_23.ff r_15
            have r_17 := Rep.mono w_23.ff r_17
            have r_19 := Rep.mono w_23.ff r_19
            have f_23 := w_23.off f_21 g_21
            have g_23 := upd_same (H := H_23) (a := p_21) (o := .lst (xs_21.eraseIdx ((_law_more_3 % (_law_table_here_21.length : Int))).toNat))
            obtain ⟨_law_table_here_23, e_23⟩ : ∃ y, y = (_law_table_here_21.eraseIdx ((_law_more_3 % (_law_table_here_21.length : Int))).toNat) := ⟨_, rfl⟩
            have rn_23 := reps_eq rn_23 e_23
            have e := bnd_eq e e_23
            exact ⟨_law_table_here_23, _, ⟨_, rfl, W, SM22, rn_23, f_23, g_23, hl_23⟩, e⟩
          ·
            have SM22 := Same.refl F_21
            have W := W.trans w_22
            have SM22 := SM22.trans w_22.ff
            have r0 := Rep.mono w_22.ff r0
            have r_1 := Rep.mono w_22.ff r_1
            have r_3 := Rep.mono w_22.ff r_3
            have r_9 := Rep.mono w_22.ff r_9
            have r_11_5 := Rep.mono w_22.ff r_11_5
            have r_15 := Rep.mono w_22.ff r_15
            have r_17 := Rep.mono w_22.ff r_17
            have r_19 := Rep.mono w_22.ff r_19
            have r_21 := reps_mono w_22.ff r_21
            have f_21 := w_22.off f_21 g_21
            have g_21 := w_22.hh _ _ g_21
            have e := MP.iff e hb_22
            have hp_22 := hb_22
            try simp only [inB_t, inB_f, decide_eq_true_eq, decide_eq_false_iff_not, Bool.and_eq_true, Bool.or_eq_true, Bool.and_eq_false_iff, Bool.or_eq_false_iff, Bool.not_eq_true', Bool.not_eq_false', Bool.not_eq_eq_eq_not, Bool.not_true, Bool.not_false] at hp_22
            exact b_nil ⟨_law_table_here_21, _, ⟨_, rfl, W, SM22, r_21, f_21, g_21, l_21⟩, e⟩
          obtain ⟨xs_22_11, rfl, W, SM22, r_22_11, f_22_11, g_22_11, l_22_11⟩ := hB
          have r0 := Rep.mono SM22 r0
          have r_1 := Rep.mono SM22 r_1
          have r_3 := Rep.mono SM22 r_3
          have r_9 := Rep.mono SM22 r_9
          have r_11_5 := Rep.mono SM22 r_11_5
          have r_15 := Rep.mono SM22 r_15
          have r_17 := Rep.mono SM22 r_17
          have r_19 := Rep.mono SM22 r_19
          have W := W.tell h_21 f_22_11 g_22_11
          have r0 := Rep.mono (same_new (o := .lst xs_22_11) f_22_11) r0
          have r_1 := Rep.mono (same_new (o := .lst xs_22_11) f_22_11) r_1
          have r_3 := Rep.mono (same_new (o := .lst xs_22_11) f_22_11) r_3
          have r_9 := Rep.mono (same_new (o := .lst xs_22_11) f_22_11) r_9
          have r_11_5 := Rep.mono (same_new (o := .lst xs_22_11) f_22_11) r_11_5
          have r_15 := Rep.mono (same_new (o := .lst xs_22_11) f_22_11) r_15
          have r_17 := Rep.mono (same_new (o := .lst xs_22_11) f_22_11) r_17
          have r_19 := Rep.mono (same_new (o := .lst xs_22_11) f_22_11) r_19
          have r_24 := rep_openG f_22_11 l_22_11 r_22_11
          exact b_one (s_ret (ev_pair (ea2 (ev_var 2 rfl r_9) (ev_var 11 rfl r_24))) W.fh fun v F1 H1 w1 r1 => q v F1 H1 (W.trans w1) (rep_eq r1 e))
abbrev s__law_table : Stmt := topS 35
theorem sc__law_table : FnScope ["_law_script", "_law_kind", "_law_more", "_law_count", "_law_step", "_law_thing", "_law_gone", "_law_made", "_law_far", "_law_first", "_law_table_here", "_law_choice"] ["_law_script"] (defScope s__law_table) := ⟨rfl, rfl, rfl, by decide +kernel, rfl, by decide +kernel, by decide +kernel⟩
theorem ok__law_table {f : Addr} {fd : FuncData} (Fd : Fun K "_law_table" "_law_table" s__law_table f fd) (B : Bt mg) (C__law_cell_at : Cal P w K mg base CX0 1 "_law_cell_at" ["_law_script", "_law_k"] (sp2 K pre__law_cell_at m__law_cell_at (oF K))) (C__law_few : Cal P w K mg base CX0 3 "_law_few" ["_law_script"] (sp1 K (fun _ => True) m__law_few (oF K))) : FnOk P w K mg base CX0 4 f fd ["_law_script"] (sp1 K (fun _ => True) m__law_table (oF K)) := by
  refine Fd.ok sc__law_table (fun vs H Q E h => ?_) (fun cdv A outer s H vs Q E hr h => ⟨_, bw_pss, ?_⟩)
  · obtain ⟨_, _, _, rfl, _⟩ := h
    rfl
  · obtain ⟨F, _law_script, v0, rfl, fh, r0, pre, q⟩ := h
    have nd := (sc__law_table).nd
    have W := Wk.refl fh
    have e : m__law_table _law_script = _ := rfl
    conv at e => rhs; unfold m__law_table
    unfold L2.start
    refine b_cons (s_asg 1 nd (ev_mod (ev_call2 pass0 (hr.mono (by decide)) C__law_cell_at (ev_var 0 rfl r0) ev_int (by unfold pre__law_cell_at; walk_at "vc")) ev_int (by decide)) W.fh fun v_1 F_1 H_1 w_1 r_1 => ?_)
    have W := W.trans w_1
    have r0 := Rep.mono w_1.ff r0
    obtain ⟨_law_kind_1, e_1⟩ : ∃ y, y = ((m__law_cell_at _law_script (0 : Int)) % (9 : Int)) := ⟨_, rfl⟩
    have r_1 := rep_eq r_1 e_1
    have e := bnd_eq e e_1
    refine b_cons (s_asg 2 nd (ev_call2 pass0 (hr.mono (by decide)) C__law_cell_at (ev_var 0 rfl r0) ev_int (by unfold pre__law_cell_at; walk_at "vc")) W.fh fun v_2 F_2 H_2 w_2 r_2 => ?_)
    have W := W.trans w_2
    have r0 := Rep.mono w_2.ff r0
    have r_1 := Rep.mono w_2.ff r_1
    obtain ⟨_law_more_2, e_2⟩ : ∃ y, y = (m__law_cell_at _law_script (1 : Int)) := ⟨_, rfl⟩
    have r_2 := rep_eq r_2 e_2
    have e := bnd_eq e e_2
    refine b_cons (s_if (et_cmp op_eq rr_eqI (ev_var 1 rfl r_1) ev_int) W.fh (fun hb_3 F_3 H_3 w_3 => ?_) (fun hb_3 F_3 H_3 w_3 => ?_))
    · --
      have W := W.trans w_3
      have r0 := Rep.mono w_3.ff r0
      have r_1 := Rep.mono w_3.ff r_1
      have r_2 := Rep.mono w_3.ff r_2
      have e := ift e hb_3
      have hp_3 := hb_3
      try simp only [inB_t, inB_f, decide_eq_true_eq, decide_eq_false_iff_not, Bool.and_eq_true, Bool.or_eq_true, Bool.and_eq_false_iff, Bool.or_eq_false_iff, Bool.not_eq_true', Bool.not_eq_false', Bool.not_eq_eq_eq_not, Bool.not_true, Bool.not_false] at hp_3
      refine b_cons (s_asg 3 nd (ev_add ev_int (ev_mod (ev_var 2 rfl r_2) ev_int (by decide))) W.fh fun v_4 F_4 H_4 w_4 r_4 => ?_)
      have W := W.trans w_4
      have r0 := Rep.mono w_4.ff r0
      have r_1 := Rep.mono w_4.ff r_1
      have r_2 := Rep.mono w_4.ff r_2
      obtain ⟨_law_count_4, e_4⟩ : ∃ y, y = ((7 : Int) + (_law_more_2 % (12 : Int))) := ⟨_, rfl⟩
      have r_4 := rep_eq r_4 e_4
      have e := bnd_eq e e_4
      refine b_cons (s_asg 4 nd (ev_add ev_int (ev_mod (ev_div (ev_var 2 rfl r_2) ev_int ⟨by decide, by decide⟩) ev_int (by decide))) W.fh fun v_5 F_5 H_5 w_5 r_5 => ?_)
      have W := W.trans w_5
      have r0 := Rep.mono w_5.ff r0
      have r_1 := Rep.mono w_5.ff r_1
      have r_2 := Rep.mono w_5.ff r_2
      have r_4 := Rep.mono w_5.ff r_4
      obtain ⟨_law_step_5, e_5⟩ : ∃ y, y = ((1 : Int) + ((_law_more_2 / (12 : Int)) % (4 : Int))) := ⟨_, rfl⟩
      have r_5 := rep_eq r_5 e_5
      have e := bnd_eq e e_5
      exact b_one (s_ret (ev_pair (ea2 (ev_var 3 rfl r_4) (EvN.ev (EvC.evn rfl nd ((evn_lcT (f := fun (_law_thing_6 : Int) => (decide ((_law_thing_6 % _law_step_5) = (0 : Int)))) (g := fun (_law_thing_6 : Int) => [_law_thing_6]) 5 nd (ei_range1 B.range (ev_var 3 rfl r_4) (by walk_at "vc")) (fun _law_thing_6 m_6 u_6 F_6 H_6 w_6 r_6 _ _ _ _ _ => (et_cmp op_eq rr_eqI (ev_mod (ev_var 5 rfl r_6) (ev_var 4 rfl (Rep.mono w_6.ff r_5)) (by have q0 := rng_mem.mp m_6; walk_at "vc")) ev_int)) (fun _law_thing_6 m_6 ht_6 u_6 F_6 H_6 w_6 r_6 _ _ _ _ _ => (EvN.ev (evn_lst (el_cons (ev_var 5 rfl r_6) el_nil) (by decide : (1 : Nat) ≤ sizeLine)))))))))) W.fh fun v F1 H1 w1 r1 => q v F1 H1 (W.trans w1) (rep_eq r1 e))
    · --
      have W := W.trans w_3
      have r0 := Rep.mono w_3.ff r0
      have r_1 := Rep.mono w_3.ff r_1
      have r_2 := Rep.mono w_3.ff r_2
      have e := MP.iff e hb_3
      have hp_3 := hb_3
      try simp only [inB_t, inB_f, decide_eq_true_eq, decide_eq_false_iff_not, Bool.and_eq_true, Bool.or_eq_true, Bool.and_eq_false_iff, Bool.or_eq_false_iff, Bool.not_eq_true', Bool.not_eq_false', Bool.not_eq_eq_eq_not, Bool.not_true, Bool.not_false] at hp_3
      refine b_nil ?_
      refine b_cons (s_if (et_cmp op_eq rr_eqI (ev_var 1 rfl r_1) ev_int) W.fh (fun hb_7 F_7 H_7 w_7 => ?_) (fun hb_7 F_7 H_7 w_7 => ?_))
      · --
        have W := W.trans w_7
        have r0 := Rep.mono w_7.ff r0
        have r_1 := Rep.mono w_7.ff r_1
        have r_2 := Rep.mono w_7.ff r_2
        have e := ift e hb_7
        have hp_7 := hb_7
        try simp only [inB_t, inB_f, decide_eq_true_eq, decide_eq_false_iff_not, Bool.and_eq_true, Bool.or_eq_true, Bool.and_eq_false_iff, Bool.or_eq_false_iff, Bool.not_eq_true', Bool.not_eq_false', Bool.not_eq_eq_eq_not, Bool.not_true, Bool.not_false] at hp_7
        refine b_cons (s_asg 3 nd (ev_add ev_int (ev_mod (ev_var 2 rfl r_2) ev_int (by decide))) W.fh fun v_8 F_8 H_8 w_8 r_8 => ?_)
        have W := W.trans w_8
        have r0 := Rep.mono w_8.ff r0
        have r_1 := Rep.mono w_8.ff r_1
        have r_2 := Rep.mono w_8.ff r_2
        obtain ⟨_law_count_8, e_8⟩ : ∃ y, y = ((7 : Int) + (_law_more_2 % (6 : Int))) := ⟨_, rfl⟩
        have r_8 := rep_eq r_8 e_8
        have e := bnd_eq e e_8
        exact b_one (s_ret (ev_pair (ea2 (ev_var 3 rfl r_8) (EvN.ev (EvC.evn rfl nd (evn_lc 6 nd (ei_range1 B.range (ev_var 3 rfl r_8) (by walk_at "vc")) (fun _law_gone_9 m_9 u_9 F_9 H_9 w_9 r_9 _ _ _ _ _ => (EvN.ev (EvC.evn rfl nd (EvC.eq (evn_lcT (f := fun (_law_thing_10 : Int) => (!decide (_law_thing_10 = _law_gone_9))) (g := fun (_law_thing_10 : Int) => _law_thing_10) 5 nd (ei_range1 B.range (ev_var 3 rfl (Rep.mono w_9.ff r_8)) (by have q0 := rng_mem.mp m_9; walk_at "vc")) (fun _law_thing_10 m_10 u_10 F_10 H_10 w_10 r_10 _ _ _ _ _ => (et_cmp op_ne rr_neI (ev_var 5 rfl r_10) (ev_var 6 rfl (Rep.mono w_10.ff r_9)))) (fun _law_thing_10 m_10 ht_10 u_10 F_10 H_10 w_10 r_10 _ _ _ _ _ => (ev_var 5 rfl r_10))) (List.map_id' _)))))))))) W.fh fun v F1 H1 w1 r1 => q v F1 H1 (W.trans w1) (rep_eq r1 e))
      · --
        have W := W.trans w_7
        have r0 := Rep.mono w_7.ff r0
        have r_1 := Rep.mono w_7.ff r_1
        have r_2 := Rep.mono w_7.ff r_2
        have e := MP.iff e hb_7
        have hp_7 := hb_7
        try simp only [inB_t, inB_f, decide_eq_true_eq, decide_eq_false_iff_not, Bool.and_eq_true, Bool.or_eq_true, Bool.and_eq_false_iff, Bool.or_eq_false_iff, Bool.not_eq_true', Bool.not_eq_false', Bool.not_eq_eq_eq_not, Bool.not_true, Bool.not_false] at hp_7
        refine b_nil ?_
        refine b_cons (s_asg 7 nd (ev_call1 pass0 (hr.mono (by decide)) C__law_few (ev_var 0 rfl r0) trivial) W.fh fun v_11 F_11 H_11 w_11 r_11 => ?_)
        have W := W.trans w_11
        have r0 := Rep.mono w_11.ff r0
        have r_1 := Rep.mono w_11.ff r_1
        have r_2 := Rep.mono w_11.ff r_2
        obtain ⟨_law_made_11, e_11⟩ : ∃ y, y = (m__law_few _law_script) := ⟨_, rfl⟩
        have r_11 := rep_eq r_11 e_11
        have e := bnd_eq e e_11
        refine b_cons (s_asg 8 nd (ev_call2 pass0 (hr.mono (by decide)) C__law_cell_at (ev_var 0 rfl r0) ev_int (by unfold pre__law_cell_at; walk_at "vc")) W.fh fun v_12 F_12 H_12 w_12 r_12 => ?_)
        have W := W.trans w_12
        have r0 := Rep.mono w_12.ff r0
        have r_1 := Rep.mono w_12.ff r_1
        have r_2 := Rep.mono w_12.ff r_2
        have r_11 := Rep.mono w_12.ff r_11
        obtain ⟨_law_far_12, e_12⟩ : ∃ y, y = (m__law_cell_at _law_script (12 : Int)) := ⟨_, rfl⟩
        have r_12 := rep_eq r_12 e_12
        have e := bnd_eq e e_12
        refine b_cons (s_if (et_w (ew_or (et_cmp op_ne rr_neI (ev_mod (ev_var 8 rfl r_12) ev_int (by decide)) ev_int) fun hs13 => (ew_or (et_cmp op_gt rr_gtI (ev_len B.len (ev_snd (ev_var 7 rfl r_11))) ev_int) fun hs14 => (ew_or1 (et_cmp op_gt rr_gtI (ev_fst (ev_var 7 rfl r_11)) ev_int))))) W.fh (fun hb_16 F_16 H_16 w_16 => ?_) (fun hb_16 F_16 H_16 w_16 => ?_))
        · --
          have W := W.trans w_16
          have r0 := Rep.mono w_16.ff r0
          have r_1 := Rep.mono w_16.ff r_1
          have r_2 := Rep.mono w_16.ff r_2
          have r_11 := Rep.mono w_16.ff r_11
          have r_12 := Rep.mono w_16.ff r_12
          have e := ift e hb_16
          have hp_16 := hb_16
          try simp only [inB_t, inB_f, decide_eq_true_eq, decide_eq_false_iff_not, Bool.and_eq_true, Bool.or_eq_true, Bool.and_eq_false_iff, Bool.or_eq_false_iff, Bool.not_eq_true', Bool.not_eq_false', Bool.not_eq_eq_eq_not, Bool.not_true, Bool.not_false] at hp_16
          exact b_one (s_ret (ev_var 7 rfl r_11) W.fh fun v F1 H1 w1 r1 => q v F1 H1 (W.trans w1) (rep_eq r1 e))
        · --
          have W := W.trans w_16
          have r0 := Rep.mono w_16.ff r0
          have r_1 := Rep.mono w_16.ff r_1
          have r_2 := Rep.mono w_16.ff r_2
          have r_11 := Rep.mono w_16.ff r_11
          have r_12 := Rep.mono w_16.ff r_12
          have e := MP.iff e hb_16
          have hp_16 := hb_16
          try simp only [inB_t, inB_f, decide_eq_true_eq, decide_eq_false_iff_not, Bool.and_eq_true, Bool.or_eq_true, Bool.and_eq_false_iff, Bool.or_eq_false_iff, Bool.not_eq_true', Bool.not_eq_false', Bool.not_eq_eq_eq_not, Bool.not_true, Bool.not_false] at hp_16
          refine b_nil ?_
          refine b_cons (s_asg 4 nd (ev_add ev_int (ev_mod (ev_div (ev_var 8 rfl r_12) ev_int ⟨by decide, by decide⟩) ev_int (by decide))) W.fh fun v_17 F_17 H_17 w_17 r_17 => ?_)
          have W := W.trans w_17
          have r0 := Rep.mono w_17.ff r0
          have r_1 := Rep.mono w_17.ff r_1
          have r_2 := Rep.mono w_17.ff r_2
          have r_11 := Rep.mono w_17.ff r_11
          have r_12 := Rep.mono w_17.ff r_12
          obtain ⟨_law_step_17, e_17⟩ : ∃ y, y = ((1 : Int) + ((_law_far_12 / (3 : Int)) % (9 : Int))) := ⟨_, rfl⟩
          have r_17 := rep_eq r_17 e_17
          have e := bnd_eq e e_17
          refine b_cons (s_asg 9 nd (ev_mod (ev_div (ev_var 8 rfl r_12) ev_int ⟨by decide, by decide⟩) ev_int (by decide)) W.fh fun v_18 F_18 H_18 w_18 r_18 => ?_)
          have W := W.trans w_18
          have r0 := Rep.mono w_18.ff r0
          have r_1 := Rep.mono w_18.ff r_1
          have r_2 := Rep.mono w_18.ff r_2
          have r_11 := Rep.mono w_18.ff r_11
          have r_12 := Rep.mono w_18.ff r_12
          have r_17 := Rep.mono w_18.ff r_17
          obtain ⟨_law_first_18, e_18⟩ : ∃ y, y = ((_law_far_12 / (27 : Int)) % (9 : Int)) := ⟨_, rfl⟩
          have r_18 := rep_eq r_18 e_18
          have e := bnd_eq e e_18
          refine b_cons (s_asgN 10 nd (evn_nil (α := (List Int))) W.fh fun p_19 xs_19 F_19 H_19 w_19 r_19 f_19 h_19 g_19 l_19 => ?_)
          have h_19 := W.hfree h_19
          have W := W.trans w_19
          have r0 := Rep.mono w_19.ff r0
          have r_1 := Rep.mono w_19.ff r_1
          have r_2 := Rep.mono w_19.ff r_2
          have r_11 := Rep.mono w_19.ff r_11
          have r_12 := Rep.mono w_19.ff r_12
          have r_17 := Rep.mono w_19.ff r_17
          have r_18 := Rep.mono w_19.ff r_18
          obtain ⟨_law_table_here_19, e_19⟩ : ∃ y, y = ([] : (List (List Int))) := ⟨_, rfl⟩
          have r_19 := reps_eq r_19 e_19
          have e := bnd_eq e e_19
          refine b_cons (s_for (S := (List (List Int))) (xs := _law_made_11.2) (fun i s_20 σ F' H' => ∃ (z_20_11 : Option V) (xs_20_10 : List V), σ = [some v0, some v_1, some v_2, none, some v_17, none, none, some v_11, some v_12, some v_18, some (.ref p_19), z_20_11] ∧ Wk F H F' H' ∧ Same F_19 F' ∧ reps K F' xs_20_10 s_20 ∧ F' p_19 = Option.none ∧ H' p_19 = some (.lst xs_20_10) ∧ xs_20_10.length ≤ sizeLine ∧ s_20.length ≤ i) PassesOwn.never rfl (ei_list (ev_snd (ev_var 7 rfl r_11))) W.fh (pg_name (i := 11) nd rfl (by first | exact .inl rfl | exact .inr rfl)) ?h0_20 ?hs_20 e ?turn_20 ?done_20)
          case h0_20 => exact fun F1 H1 w1 => ⟨_, xs_19, rfl, W.trans w1, w1.ff, (reps_mono w1.ff r_19), (w1.off f_19 g_19), (w1.hh _ _ g_19), l_19, (by rw [e_19]; exact Nat.le_refl _)⟩
          case hs_20 =>
            intro i s_20 σ F' H' hB
            obtain ⟨z_20_11, xs_20_10, rfl, W, SM20, r_20_10, f_20_10, g_20_10, l_20_10, inv⟩ := hB
            have r0 := Rep.mono SM20 r0
            have r_1 := Rep.mono SM20 r_1
            have r_2 := Rep.mono SM20 r_2
            have r_11 := Rep.mono SM20 r_11
            have r_12 := Rep.mono SM20 r_12
            have r_17 := Rep.mono SM20 r_17
            have r_18 := Rep.mono SM20 r_18
            exact W.fh
          case turn_20 =>
            intro i _law_choice_20 s_20 σ F_20 H_20 v_20 kk hx_20 hB rx_20 e
            have hm_20 := List.mem_of_getElem? hx_20
            have hi_20 := (List.getElem?_eq_some_iff.mp hx_20).1
            obtain ⟨z_20_11, xs_20_10, rfl, W, SM20, r_20_10, f_20_10, g_20_10, l_20_10, inv⟩ := hB
            have r0 := Rep.mono SM20 r0
            have r_1 := Rep.mono SM20 r_1
            have r_2 := Rep.mono SM20 r_2
            have r_11 := Rep.mono SM20 r_11
            have r_12 := Rep.mono SM20 r_12
            have r_17 := Rep.mono SM20 r_17
            have r_18 := Rep.mono SM20 r_18
            have ST20 := Same.refl F_20
            refine b_one (s_append (er_var 10 rfl) (EvN.ev (EvC.evn rfl nd (evn_lc 5 nd (ei_list (ev_var 11 rfl rx_20)) (fun _law_thing_22 m_22 u_22 F_22 H_22 w_22 r_22 _ _ _ _ _ => (ev_add (ev_var 9 rfl (Rep.mono w_22.ff r_18)) (ev_mul (ev_var 4 rfl (Rep.mono w_22.ff r_17)) (ev_var 5 rfl r_22) (by exact .inl ⟨by omega, by omega⟩))))))) W.fh g_20_10 (by rw [r_20_10.len]; exact (by walk_at "vc")) fun v_21 F_21 H_21 w_21 r_21 => ?_)
            have hl_21 : (xs_20_10 ++ [v_21]).length ≤ sizeLine := by rw [List.length_append, List.length_singleton, r_20_10.len]; exact Nat.succ_le_of_lt (by walk_at "vc")
            have rn_21 := (reps_mono w_21.ff r_20_10).app (.one r_21)
            have W := (W.trans w_21).mut (o := .lst (xs_20_10 ++ [v_21])) h_19 (w_21.off f_20_10 g_20_10) (w_21.hh _ _ g_20_10)
            have SM20 := SM20.trans w_21.ff
            have ST20 := ST20.trans w_21.ff
            have r0 := Rep.mono w_21.ff r0
            have r_1 := Rep.mono w_21.ff r_1
            have r_2 := Rep.mono w_21.ff r_2
            have r_11 := Rep.mono w_21.ff r_11
            have r_12 := Rep.mono w_21.ff r_12
            have r_17 := Rep.mono w_21.ff r_17
            have r_18 := Rep.mono w_21.ff r_18
            have rx_20 := Rep.mono w_21.ff rx_20
            have f_21 := w_21.off f_20_10 g_20_10
            have g_21 := upd_same (H := H_21) (a := p_19) (o := .lst (xs_20_10 ++ [v_21]))
            obtain ⟨_law_table_here_21, e_21⟩ : ∃ y, y = (s_20 ++ [(_law_choice_20.map fun (_law_thing_22 : Int) => (_law_first_18 + (_law_step_17 * _law_thing_22)))]) := ⟨_, rfl⟩
            have rn_21 := reps_eq rn_21 e_21
            have e := bnd_eq e e_21
            exact ⟨_law_table_here_21, _, ST20, ⟨_, _, rfl, W, SM20, rn_21, f_21, g_21, hl_21, (by rw [e_21, List.length_append, List.length_singleton]; omega)⟩, e⟩
          case done_20 =>
            intro s_20 σ F_20 H_20 hB e
            obtain ⟨z_20_11, xs_20_10, rfl, W, SM20, r_20_10, f_20_10, g_20_10, l_20_10, inv⟩ := hB
            have r0 := Rep.mono SM20 r0
            have r_1 := Rep.mono SM20 r_1
            have r_2 := Rep.mono SM20 r_2
            have r_11 := Rep.mono SM20 r_11
            have r_12 := Rep.mono SM20 r_12
            have r_17 := Rep.mono SM20 r_17
            have r_18 := Rep.mono SM20 r_18
            have W := W.tell h_19 f_20_10 g_20_10
            have r0 := Rep.mono (same_new (o := .lst xs_20_10) f_20_10) r0
            have r_1 := Rep.mono (same_new (o := .lst xs_20_10) f_20_10) r_1
            have r_2 := Rep.mono (same_new (o := .lst xs_20_10) f_20_10) r_2
            have r_11 := Rep.mono (same_new (o := .lst xs_20_10) f_20_10) r_11
            have r_12 := Rep.mono (same_new (o := .lst xs_20_10) f_20_10) r_12
            have r_17 := Rep.mono (same_new (o := .lst xs_20_10) f_20_10) r_17
            have r_18 := Rep.mono (same_new (o := .lst xs_20_10) f_20_10) r_18
            have r_23 := rep_openG f_20_10 l_20_10 r_20_10
            exact b_one (s_ret (ev_pair (ea2 (ev_add (ev_var 9 rfl r_18) (ev_mul (ev_var 4 rfl r_17) (ev_fst (ev_var 7 rfl r_11)) (by exact .inl ⟨by omega, by omega⟩))) (ev_var 10 rfl r_23))) W.fh fun v F1 H1 w1 r1 => q v F1 H1 (W.trans w1) (rep_eq r1 e))
abbrev s__law_can : Stmt := topS 37
theorem sc__law_can : FnScope ["_law_table_here", "_law_one", "_law_other", "_law_thing", "_law_out", "_law_made", "_law_left"] ["_law_table_here", "_law_one", "_law_other", "_law_thing"] (defScope s__law_can) := ⟨rfl, rfl, rfl, by decide +kernel, rfl, by decide +kernel, by decide +kernel⟩
theorem ok__law_can {f : Addr} {fd : FuncData} (Fd : Fun K "_law_can" "_law_can" s__law_can f fd) (B : Bt mg) : FnOk P w K mg base CX0 1 f fd ["_law_table_here", "_law_one", "_law_other", "_law_thing"] (sp4 K pre__law_canM m__law_can (oF K)) := by
  refine Fd.ok sc__law_can (fun vs H Q E h => ?_) (fun cdv A outer s H vs Q E hr h => ⟨_, bw_pss, ?_⟩)
  · obtain ⟨_, _, _, _, _, _, _, _, _, rfl, _⟩ := h
    rfl
  · obtain ⟨F, _law_table_here, _law_one, _law_other, _law_thing, v0, v1, v2, v3, rfl, fh, r0, r1, r2, r3, pre, q⟩ := h
    have nd := (sc__law_can).nd
    have W := Wk.refl fh
    have e : m__law_can _law_table_here _law_one _law_other _law_thing = _ := rfl
    conv at e => rhs; unfold m__law_can
    unfold L2.start
    unfold pre__law_canM at pre
    refine b_cons (s_for (S := Unit) (xs := _law_one) (fun i s_1 σ F' H' => ∃ (z_1_4 : Option V) (z_1_5 : Option V), σ = [some v0, some v1, some v2, some v3, z_1_4, z_1_5, none] ∧ Wk F H F' H' ∧ Same F F') PassesOwn.never rfl (ei_list (ev_var 1 rfl r1)) W.fh (pg_name (i := 4) nd rfl (by first | exact .inl rfl | exact .inr rfl)) ?h0_1 ?hs_1 e ?turn_1 ?done_1)
    case h0_1 => exact fun F1 H1 w1 => ⟨_, _, rfl, W.trans w1, w1.ff⟩
    case hs_1 =>
      intro i s_1 σ F' H' hB
      obtain ⟨z_1_4, z_1_5, rfl, W, SM1⟩ := hB
      have r0 := Rep.mono SM1 r0
      have r1 := Rep.mono SM1 r1
      have r2 := Rep.mono SM1 r2
      have r3 := Rep.mono SM1 r3
      exact W.fh
    case turn_1 =>
      intro i _law_out_1 s_1 σ F_1 H_1 v_1 kk hx_1 hB rx_1 e
      have hm_1 := List.mem_of_getElem? hx_1
      have hi_1 := (List.getElem?_eq_some_iff.mp hx_1).1
      obtain ⟨z_1_4, z_1_5, rfl, W, SM1⟩ := hB
      have r0 := Rep.mono SM1 r0
      have r1 := Rep.mono SM1 r1
      have r2 := Rep.mono SM1 r2
      have r3 := Rep.mono SM1 r3
      have ST1 := Same.refl F_1
      refine b_cons (s_asg 5 nd (EvN.ev (evn_sorted B.sorted (EvN.ev (evn_cat (EvN.ev (EvC.evn rfl nd (EvC.eq (evn_lcT (f := fun (_law_left_2 : Int) => (!decide (_law_left_2 = _law_out_1))) (g := fun (_law_left_2 : Int) => _law_left_2) 6 nd (ei_list (ev_var 1 rfl r1)) (fun _law_left_2 m_2 u_2 F_2 H_2 w_2 r_2 _ _ _ _ _ => (et_cmp op_ne rr_neI (ev_var 6 rfl r_2) (ev_var 4 rfl (Rep.mono w_2.ff rx_1)))) (fun _law_left_2 m_2 ht_2 u_2 F_2 H_2 w_2 r_2 _ _ _ _ _ => (ev_var 6 rfl r_2))) (List.map_id' _)))) (EvN.ev (evn_lst (el_cons (ev_var 3 rfl r3) el_nil) (by decide : (1 : Nat) ≤ sizeLine))) (by exact cat1 pre (by decide)))))) W.fh fun v_3 F_3 H_3 w_3 r_3 => ?_)
      have W := W.trans w_3
      have SM1 := SM1.trans w_3.ff
      have ST1 := ST1.trans w_3.ff
      have r0 := Rep.mono w_3.ff r0
      have r1 := Rep.mono w_3.ff r1
      have r2 := Rep.mono w_3.ff r2
      have r3 := Rep.mono w_3.ff r3
      have rx_1 := Rep.mono w_3.ff rx_1
      obtain ⟨_law_made_3, e_3⟩ : ∃ y, y = (srt ((_law_one.filter fun (_law_left_2 : Int) => (!decide (_law_left_2 = _law_out_1))) ++ [_law_thing])) := ⟨_, rfl⟩
      have r_3 := rep_eq r_3 e_3
      have e := bnd_eq e e_3
      refine b_one (s_if (et_w (ew_and (et_cmp (op_notInD (hu65 hr)) rr_notIn (ev_var 4 rfl rx_1) (ev_var 2 rfl r2)) fun hs4 => (ew_and1 (et_cmp (op_inD (hu65 hr)) rr_in (ev_var 5 rfl r_3) (ev_var 0 rfl r0))))) W.fh (fun hb_6 F_6 H_6 w_6 => ?_) (fun hb_6 F_6 H_6 w_6 => ?_))
      · --
        have W := W.trans w_6
        have SM1 := SM1.trans w_6.ff
        have ST1 := ST1.trans w_6.ff
        have r0 := Rep.mono w_6.ff r0
        have r1 := Rep.mono w_6.ff r1
        have r2 := Rep.mono w_6.ff r2
        have r3 := Rep.mono w_6.ff r3
        have rx_1 := Rep.mono w_6.ff rx_1
        have r_3 := Rep.mono w_6.ff r_3
        have e := ift e hb_6
        have hp_6 := hb_6
        try simp only [inB_t, inB_f, decide_eq_true_eq, decide_eq_false_iff_not, Bool.and_eq_true, Bool.or_eq_true, Bool.and_eq_false_iff, Bool.or_eq_false_iff, Bool.not_eq_true', Bool.not_eq_false', Bool.not_eq_eq_eq_not, Bool.not_true, Bool.not_false] at hp_6
        exact b_one (s_ret ev_bl W.fh fun v F1 H1 w1 r1 => q v F1 H1 (W.trans w1) (rep_eq r1 e))
      · --
        have W := W.trans w_6
        have SM1 := SM1.trans w_6.ff
        have ST1 := ST1.trans w_6.ff
        have r0 := Rep.mono w_6.ff r0
        have r1 := Rep.mono w_6.ff r1
        have r2 := Rep.mono w_6.ff r2
        have r3 := Rep.mono w_6.ff r3
        have rx_1 := Rep.mono w_6.ff rx_1
        have r_3 := Rep.mono w_6.ff r_3
        have e := MP.iff e hb_6
        have hp_6 := hb_6
        try simp only [inB_t, inB_f, decide_eq_true_eq, decide_eq_false_iff_not, Bool.and_eq_true, Bool.or_eq_true, Bool.and_eq_false_iff, Bool.or_eq_false_iff, Bool.not_eq_true', Bool.not_eq_false', Bool.not_eq_eq_eq_not, Bool.not_true, Bool.not_false] at hp_6
        refine b_nil ?_
        exact ⟨(), _, ST1, ⟨_, _, rfl, W, SM1⟩, e⟩
    case done_1 =>
      intro s_1 σ F_1 H_1 hB e
      obtain ⟨z_1_4, z_1_5, rfl, W, SM1⟩ := hB
      have r0 := Rep.mono SM1 r0
      have r1 := Rep.mono SM1 r1
      have r2 := Rep.mono SM1 r2
      have r3 := Rep.mono SM1 r3
      exact b_one (s_ret ev_bl W.fh fun v F1 H1 w1 r1 => q v F1 H1 (W.trans w1) (rep_eq r1 e))
abbrev s__law_fault : Stmt := topS 38
theorem sc__law_fault : FnScope ["_law_count", "_law_table_here", "_law_one", "_law_thing", "_law_other"] ["_law_count", "_law_table_here"] (defScope s__law_fault) := ⟨rfl, rfl, rfl, by decide +kernel, rfl, by decide +kernel, by decide +kernel⟩
theorem ok__law_fault {f : Addr} {fd : FuncData} (Fd : Fun K "_law_fault" "_law_fault" s__law_fault f fd) (B : Bt mg) (C__law_can : Cal P w K mg base CX0 1 "_law_can" ["_law_table_here", "_law_one", "_law_other", "_law_thing"] (sp4 K pre__law_canM m__law_can (oF K))) : FnOk P w K mg base CX0 2 f fd ["_law_count", "_law_table_here"] (sp2 K pre__law_faultM m__law_fault (oF K)) := by
  refine Fd.ok sc__law_fault (fun vs H Q E h => ?_) (fun cdv A outer s H vs Q E hr h => ⟨_, bw_pss, ?_⟩)
  · obtain ⟨_, _, _, _, _, rfl, _⟩ := h
    rfl
  · obtain ⟨F, _law_count, _law_table_here, v0, v1, rfl, fh, r0, r1, pre, q⟩ := h
    have nd := (sc__law_fault).nd
    have W := Wk.refl fh
    have e : m__law_fault _law_count _law_table_here = _ := rfl
    conv at e => rhs; unfold m__law_fault
    unfold L2.start
    unfold pre__law_faultM at pre
    refine b_cons (s_for (S := Unit) (xs := _law_table_here) (fun i s_1 σ F' H' => ∃ (z_1_2 : Option V) (z_1_3 : Option V) (z_1_4 : Option V), σ = [some v0, some v1, z_1_2, z_1_3, z_1_4] ∧ Wk F H F' H' ∧ Same F F') PassesOwn.never rfl (ei_list (ev_var 1 rfl r1)) W.fh (pg_name (i := 2) nd rfl (by first | exact .inl rfl | exact .inr rfl)) ?h0_1 ?hs_1 e ?turn_1 ?done_1)
    case h0_1 => exact fun F1 H1 w1 => ⟨_, _, _, rfl, W.trans w1, w1.ff⟩
    case hs_1 =>
      intro i s_1 σ F' H' hB
      obtain ⟨z_1_2, z_1_3, z_1_4, rfl, W, SM1⟩ := hB
      have r0 := Rep.mono SM1 r0
      have r1 := Rep.mono SM1 r1
      exact W.fh
    case turn_1 =>
      intro i _law_one_1 s_1 σ F_1 H_1 v_1 kk hx_1 hB rx_1 e
      have hm_1 := List.mem_of_getElem? hx_1
      have hi_1 := (List.getElem?_eq_some_iff.mp hx_1).1
      obtain ⟨z_1_2, z_1_3, z_1_4, rfl, W, SM1⟩ := hB
      have r0 := Rep.mono SM1 r0
      have r1 := Rep.mono SM1 r1
      have ST1 := Same.refl F_1
      refine b_one (s_for (S := Unit) (xs := (rng 0 _law_count)) (fun i s_2 σ F' H' => ∃ (z_2_3 : Option V) (z_2_4 : Option V), σ = [some v0, some v1, some v_1, z_2_3, z_2_4] ∧ Wk F H F' H' ∧ Same F_1 F') PassesOwn.never rfl (ei_range1 B.range (ev_var 0 rfl r0) (by walk_at "vc")) W.fh (pg_name (i := 3) nd rfl (by first | exact .inl rfl | exact .inr rfl)) ?h0_2 ?hs_2 e ?turn_2 ?done_2)
      case h0_2 => exact fun F1 H1 w1 => ⟨_, _, rfl, W.trans w1, w1.ff⟩
      case hs_2 =>
        intro i s_2 σ F' H' hB
        obtain ⟨z_2_3, z_2_4, rfl, W, SM2⟩ := hB
        have r0 := Rep.mono SM2 r0
        have r1 := Rep.mono SM2 r1
        have rx_1 := Rep.mono SM2 rx_1
        have SM1 := SM1.trans SM2
        have ST1 := ST1.trans SM2
        exact W.fh
      case turn_2 =>
        intro i _law_thing_2 s_2 σ F_2 H_2 v_2 kk hx_2 hB rx_2 e
        have hm_2 := List.mem_of_getElem? hx_2
        have hi_2 := (List.getElem?_eq_some_iff.mp hx_2).1
        have hr_2 := rng_mem.mp hm_2
        have hg_2 := rng_get hx_2
        obtain ⟨z_2_3, z_2_4, rfl, W, SM2⟩ := hB
        have r0 := Rep.mono SM2 r0
        have r1 := Rep.mono SM2 r1
        have rx_1 := Rep.mono SM2 rx_1
        have SM1 := SM1.trans SM2
        have ST1 := ST1.trans SM2
        have ST2 := Same.refl F_2
        refine b_one (s_if (et_cmp (op_notInD (hu65 hr)) rr_notIn (ev_var 3 rfl rx_2) (ev_var 2 rfl rx_1)) W.fh (fun hb_3 F_3 H_3 w_3 => ?_) (fun hb_3 F_3 H_3 w_3 => ?_))
        · --
          have W := W.trans w_3
          have SM1 := SM1.trans w_3.ff
          have ST1 := ST1.trans w_3.ff
          have SM2 := SM2.trans w_3.ff
          have ST2 := ST2.trans w_3.ff
          have r0 := Rep.mono w_3.ff r0
          have r1 := Rep.mono w_3.ff r1
          have rx_1 := Rep.mono w_3.ff rx_1
          have rx_2 := Rep.mono w_3.ff rx_2
          have e := ift e hb_3
          have hp_3 := hb_3
          try simp only [inB_t, inB_f, decide_eq_true_eq, decide_eq_false_iff_not, Bool.and_eq_true, Bool.or_eq_true, Bool.and_eq_false_iff, Bool.or_eq_false_iff, Bool.not_eq_true', Bool.not_eq_false', Bool.not_eq_eq_eq_not, Bool.not_true, Bool.not_false] at hp_3
          refine b_one (s_for (S := Unit) (xs := _law_table_here) (fun i s_4 σ F' H' => ∃ (z_4_4 : Option V), σ = [some v0, some v1, some v_1, some v_2, z_4_4] ∧ Wk F H F' H' ∧ Same F_3 F') PassesOwn.never rfl (ei_list (ev_var 1 rfl r1)) W.fh (pg_name (i := 4) nd rfl (by first | exact .inl rfl | exact .inr rfl)) ?h0_4 ?hs_4 e ?turn_4 ?done_4)
          case h0_4 => exact fun F1 H1 w1 => ⟨_, rfl, W.trans w1, w1.ff⟩
          case hs_4 =>
            intro i s_4 σ F' H' hB
            obtain ⟨z_4_4, rfl, W, SM4⟩ := hB
            have r0 := Rep.mono SM4 r0
            have r1 := Rep.mono SM4 r1
            have rx_1 := Rep.mono SM4 rx_1
            have rx_2 := Rep.mono SM4 rx_2
            have SM1 := SM1.trans SM4
            have ST1 := ST1.trans SM4
            have SM2 := SM2.trans SM4
            have ST2 := ST2.trans SM4
            exact W.fh
          case turn_4 =>
            intro i _law_other_4 s_4 σ F_4 H_4 v_4 kk hx_4 hB rx_4 e
            have hm_4 := List.mem_of_getElem? hx_4
            have hi_4 := (List.getElem?_eq_some_iff.mp hx_4).1
            obtain ⟨z_4_4, rfl, W, SM4⟩ := hB
            have r0 := Rep.mono SM4 r0
            have r1 := Rep.mono SM4 r1
            have rx_1 := Rep.mono SM4 rx_1
            have rx_2 := Rep.mono SM4 rx_2
            have SM1 := SM1.trans SM4
            have ST1 := ST1.trans SM4
            have SM2 := SM2.trans SM4
            have ST2 := ST2.trans SM4
            have ST4 := Same.refl F_4
            refine b_one (s_if (et_w (ew_and (et_cmp (op_inD (hu65 hr)) rr_in (ev_var 3 rfl rx_2) (ev_var 4 rfl rx_4)) fun hs5 => (ew_and1 (et_not (et_val (ev_call4 pass0 (hr.mono (by decide)) C__law_can (ev_var 1 rfl r1) (ev_var 2 rfl rx_1) (ev_var 4 rfl rx_4) (ev_var 3 rfl rx_2) (by exact pre.2.2 _ hm_1))))))) W.fh (fun hb_7 F_7 H_7 w_7 => ?_) (fun hb_7 F_7 H_7 w_7 => ?_))
            · --
              have W := W.trans w_7
              have SM1 := SM1.trans w_7.ff
              have ST1 := ST1.trans w_7.ff
              have SM2 := SM2.trans w_7.ff
              have ST2 := ST2.trans w_7.ff
              have SM4 := SM4.trans w_7.ff
              have ST4 := ST4.trans w_7.ff
              have r0 := Rep.mono w_7.ff r0
              have r1 := Rep.mono w_7.ff r1
              have rx_1 := Rep.mono w_7.ff rx_1
              have rx_2 := Rep.mono w_7.ff rx_2
              have rx_4 := Rep.mono w_7.ff rx_4
              have e := ift e hb_7
              have hp_7 := hb_7
              try simp only [inB_t, inB_f, decide_eq_true_eq, decide_eq_false_iff_not, Bool.and_eq_true, Bool.or_eq_true, Bool.and_eq_false_iff, Bool.or_eq_false_iff, Bool.not_eq_true', Bool.not_eq_false', Bool.not_eq_eq_eq_not, Bool.not_true, Bool.not_false] at hp_7
              exact b_one (s_ret (Ev.some (ev_tri (ev_var 2 rfl rx_1) (ev_var 4 rfl rx_4) (ev_var 3 rfl rx_2))) W.fh fun v F1 H1 w1 r1 => q v F1 H1 (W.trans w1) (rep_eq r1 e))
            · --
              have W := W.trans w_7
              have SM1 := SM1.trans w_7.ff
              have ST1 := ST1.trans w_7.ff
              have SM2 := SM2.trans w_7.ff
              have ST2 := ST2.trans w_7.ff
              have SM4 := SM4.trans w_7.ff
              have ST4 := ST4.trans w_7.ff
              have r0 := Rep.mono w_7.ff r0
              have r1 := Rep.mono w_7.ff r1
              have rx_1 := Rep.mono w_7.ff rx_1
              have rx_2 := Rep.mono w_7.ff rx_2
              have rx_4 := Rep.mono w_7.ff rx_4
              have e := MP.iff e hb_7
              have hp_7 := hb_7
              try simp only [inB_t, inB_f, decide_eq_true_eq, decide_eq_false_iff_not, Bool.and_eq_true, Bool.or_eq_true, Bool.and_eq_false_iff, Bool.or_eq_false_iff, Bool.not_eq_true', Bool.not_eq_false', Bool.not_eq_eq_eq_not, Bool.not_true, Bool.not_false] at hp_7
              refine b_nil ?_
              exact ⟨(), _, ST4, ⟨_, rfl, W, SM4⟩, e⟩
          case done_4 =>
            intro s_4 σ F_4 H_4 hB e
            obtain ⟨z_4_4, rfl, W, SM4⟩ := hB
            have r0 := Rep.mono SM4 r0
            have r1 := Rep.mono SM4 r1
            have rx_1 := Rep.mono SM4 rx_1
            have rx_2 := Rep.mono SM4 rx_2
            have SM1 := SM1.trans SM4
            have ST1 := ST1.trans SM4
            have SM2 := SM2.trans SM4
            have ST2 := ST2.trans SM4
            exact ⟨(), _, ST2, ⟨_, _, rfl, W, SM2⟩, e⟩
        · --
          have W := W.trans w_3
          have SM1 := SM1.trans w_3.ff
          have ST1 := ST1.trans w_3.ff
          have SM2 := SM2.trans w_3.ff
          have ST2 := ST2.trans w_3.ff
          have r0 := Rep.mono w_3.ff r0
          have r1 := Rep.mono w_3.ff r1
          have rx_1 := Rep.mono w_3.ff rx_1
          have rx_2 := Rep.mono w_3.ff rx_2
          have e := MP.iff e hb_3
          have hp_3 := hb_3
          try simp only [inB_t, inB_f, decide_eq_true_eq, decide_eq_false_iff_not, Bool.and_eq_true, Bool.or_eq_true, Bool.and_eq_false_iff, Bool.or_eq_false_iff, Bool.not_eq_true', Bool.not_eq_false', Bool.not_eq_eq_eq_not, Bool.not_true, Bool.not_false] at hp_3
          refine b_nil ?_
          exact ⟨(), _, ST2, ⟨_, _, rfl, W, SM2⟩, e⟩
      case done_2 =>
        intro s_2 σ F_2 H_2 hB e
        obtain ⟨z_2_3, z_2_4, rfl, W, SM2⟩ := hB
        have r0 := Rep.mono SM2 r0
        have r1 := Rep.mono SM2 r1
        have rx_1 := Rep.mono SM2 rx_1
        have SM1 := SM1.trans SM2
        have ST1 := ST1.trans SM2
        exact ⟨(), _, ST1, ⟨_, _, _, rfl, W, SM1⟩, e⟩
    case done_1 =>
      intro s_1 σ F_1 H_1 hB e
      obtain ⟨z_1_2, z_1_3, z_1_4, rfl, W, SM1⟩ := hB
      have r0 := Rep.mono SM1 r0
      have r1 := Rep.mono SM1 r1
      exact b_one (s_ret ev_non W.fh fun v F1 H1 w1 r1 => q v F1 H1 (W.trans w1) (rep_eq r1 e))
abbrev s__law_bit : Stmt := topS 27
theorem sc__law_bit : FnScope ["_law_cell", "_law_k", "_law_j"] ["_law_cell", "_law_k"] (defScope s__law_bit) := ⟨rfl, rfl, rfl, by decide +kernel, rfl, by decide +kernel, by decide +kernel⟩
theorem ok__law_bit {f : Addr} {fd : FuncData} (Fd : Fun K "_law_bit" "_law_bit" s__law_bit f fd) (B : Bt mg) : FnOk P w K mg base CX0 1 f fd ["_law_cell", "_law_k"] (sp2 K pre__law_bit m__law_bit (oF K)) := by
  refine Fd.ok sc__law_bit (fun vs H Q E h => ?_) (fun cdv A outer s H vs Q E hr h => ⟨_, bw_pss, ?_⟩)
  · obtain ⟨_, _, _, _, _, rfl, _⟩ := h
    rfl
  · obtain ⟨F, _law_cell, _law_k, v0, v1, rfl, fh, r0, r1, pre, q⟩ := h
    have nd := (sc__law_bit).nd
    have W := Wk.refl fh
    have e : m__law_bit _law_cell _law_k = _ := rfl
    conv at e => rhs; unfold m__law_bit
    unfold L2.start
    unfold pre__law_bit at pre
    refine b_cons (s_for (S := Int) (xs := (rng 0 _law_k)) (fun i s_1 σ F' H' => ∃ (y_1_0 : V) (z_1_2 : Option V), σ = [some y_1_0, some v1, z_1_2] ∧ Wk F H F' H' ∧ Same F F' ∧ rep K F' y_1_0 s_1) PassesOwn.never rfl (ei_range1 B.range (ev_var 1 rfl r1) (by walk_at "vc")) W.fh (pg_name (i := 2) nd rfl (by first | exact .inl rfl | exact .inr rfl)) ?h0_1 ?hs_1 e ?turn_1 ?done_1)
    case h0_1 => exact fun F1 H1 w1 => ⟨_, _, rfl, W.trans w1, w1.ff, (Rep.mono w1.ff r0)⟩
    case hs_1 =>
      intro i s_1 σ F' H' hB
      obtain ⟨y_1_0, z_1_2, rfl, W, SM1, r_1_0⟩ := hB
      have r1 := Rep.mono SM1 r1
      exact W.fh
    case turn_1 =>
      intro i _law_j_1 s_1 σ F_1 H_1 v_1 kk hx_1 hB rx_1 e
      have hm_1 := List.mem_of_getElem? hx_1
      have hi_1 := (List.getElem?_eq_some_iff.mp hx_1).1
      have hr_1 := rng_mem.mp hm_1
      have hg_1 := rng_get hx_1
      obtain ⟨y_1_0, z_1_2, rfl, W, SM1, r_1_0⟩ := hB
      have r1 := Rep.mono SM1 r1
      have ST1 := Same.refl F_1
      refine b_one (s_asg 0 nd (ev_div (ev_var 0 rfl r_1_0) ev_int ⟨by decide, by decide⟩) W.fh fun v_2 F_2 H_2 w_2 r_2 => ?_)
      have W := W.trans w_2
      have SM1 := SM1.trans w_2.ff
      have ST1 := ST1.trans w_2.ff
      have r1 := Rep.mono w_2.ff r1
      have rx_1 := Rep.mono w_2.ff rx_1
      obtain ⟨_law_cell_2, e_2⟩ : ∃ y, y = (s_1 / (2 : Int)) := ⟨_, rfl⟩
      have r_2 := rep_eq r_2 e_2
      have e := bnd_eq e e_2
      exact ⟨_law_cell_2, _, ST1, ⟨_, _, rfl, W, SM1, r_2⟩, e⟩
    case done_1 =>
      intro s_1 σ F_1 H_1 hB e
      obtain ⟨y_1_0, z_1_2, rfl, W, SM1, r_1_0⟩ := hB
      have r1 := Rep.mono SM1 r1
      exact b_one (s_ret (ev_cmp op_eq rr_eqI (ev_mod (ev_var 0 rfl r_1_0) ev_int (by decide)) ev_int) W.fh fun v F1 H1 w1 r1 => q v F1 H1 (W.trans w1) (rep_eq r1 e))
abbrev s__law_held : Stmt := topS 36
theorem sc__law_held : FnScope ["_law_script", "_law_made", "_law_thing"] ["_law_script"] (defScope s__law_held) := ⟨rfl, rfl, rfl, by decide +kernel, rfl, by decide +kernel, by decide +kernel⟩
theorem ok__law_held {f : Addr} {fd : FuncData} (Fd : Fun K "_law_held" "_law_held" s__law_held f fd) (B : Bt mg) (C__law_table : Cal P w K mg base CX0 4 "_law_table" ["_law_script"] (sp1 K (fun _ => True) m__law_table (oF K))) (C__law_fault : Cal P w K mg base CX0 2 "_law_fault" ["_law_count", "_law_table_here"] (sp2 K pre__law_faultM m__law_fault (oF K))) (C__law_bit : Cal P w K mg base CX0 1 "_law_bit" ["_law_cell", "_law_k"] (sp2 K pre__law_bit m__law_bit (oF K))) (C__law_cell_at : Cal P w K mg base CX0 1 "_law_cell_at" ["_law_script", "_law_k"] (sp2 K pre__law_cell_at m__law_cell_at (oF K))) : FnOk P w K mg base CX0 5 f fd ["_law_script"] (sp1 K (fun _ => True) m__law_held (oF K)) := by
  refine Fd.ok sc__law_held (fun vs H Q E h => ?_) (fun cdv A outer s H vs Q E hr h => ⟨_, bw_pss, ?_⟩)
  · obtain ⟨_, _, _, rfl, _⟩ := h
    rfl
  · obtain ⟨F, _law_script, v0, rfl, fh, r0, pre, q⟩ := h
    have nd := (sc__law_held).nd
    have W := Wk.refl fh
    have e : m__law_held _law_script = _ := rfl
    conv at e => rhs; unfold m__law_held
    unfold L2.start
    refine b_cons (s_asg 1 nd (ev_call1 pass0 (hr.mono (by decide)) C__law_table (ev_var 0 rfl r0) trivial) W.fh fun v_1 F_1 H_1 w_1 r_1 => ?_)
    have W := W.trans w_1
    have r0 := Rep.mono w_1.ff r0
    obtain ⟨_law_made_1, e_1⟩ : ∃ y, y = (m__law_table _law_script) := ⟨_, rfl⟩
    have r_1 := rep_eq r_1 e_1
    have e := bnd_eq e e_1
    have t1 := table_spec _law_script
    rw [← e_1] at t1
    refine b_cons (s_if (et_w (ew_or (et_cmp (op_eqD (hu64 hr)) rr_eqD (ev_snd (ev_var 1 rfl r_1)) (EvN.ev (evn_nil (α := (List Int))))) fun hs2 => (ew_or1 (et_cmp op_notN (rr_notN (fun _ _ _ => nn_tri)) (ev_call2 pass0 (hr.mono (by decide)) C__law_fault (ev_fst (ev_var 1 rfl r_1)) (ev_snd (ev_var 1 rfl r_1)) (by unfold pre__law_faultM; exact ⟨t1.1, by have := t1.2.1; omega, fun c hc => by have := (t1.2.2 c hc).len; have := t1.2.1; omega⟩)) ev_non_)))) W.fh (fun hb_4 F_4 H_4 w_4 => ?_) (fun hb_4 F_4 H_4 w_4 => ?_))
    · --
      have W := W.trans w_4
      have r0 := Rep.mono w_4.ff r0
      have r_1 := Rep.mono w_4.ff r_1
      have e := ift e hb_4
      have hp_4 := hb_4
      try simp only [inB_t, inB_f, decide_eq_true_eq, decide_eq_false_iff_not, Bool.and_eq_true, Bool.or_eq_true, Bool.and_eq_false_iff, Bool.or_eq_false_iff, Bool.not_eq_true', Bool.not_eq_false', Bool.not_eq_eq_eq_not, Bool.not_true, Bool.not_false] at hp_4
      exact b_one (s_ret (ev_pair (ea2 (ev_fst (ev_var 1 rfl r_1)) (EvN.ev (evn_lst (el_cons (EvN.ev (EvC.evn rfl nd (EvC.eq (evn_lcT (f := fun (_law_thing_5 : Int) => (m__law_bit (m__law_cell_at _law_script (2 : Int)) _law_thing_5)) (g := fun (_law_thing_5 : Int) => _law_thing_5) 2 nd (ei_range1 B.range (ev_fst (ev_var 1 rfl r_1)) (by have h1 := t1.1; have h2 := t1.2.1; clear e; omega)) (fun _law_thing_5 m_5 u_5 F_5 H_5 w_5 r_5 _ _ _ _ _ => (et_val (ev_call2 pass0 (hr.mono (by decide)) C__law_bit (ev_call2 pass0 (hr.mono (by decide)) C__law_cell_at (ev_var 0 rfl (Rep.mono w_5.ff r0)) ev_int (by have q0 := rng_mem.mp m_5; unfold pre__law_cell_at; walk_at "vc")) (ev_var 2 rfl r_5) (by have h1 := rng_mem.mp m_5; have h2 := t1.2.1; unfold pre__law_bit; clear e; omega)))) (fun _law_thing_5 m_5 ht_5 u_5 F_5 H_5 w_5 r_5 _ _ _ _ _ => (ev_var 2 rfl r_5))) (List.map_id' _)))) el_nil) (by decide : (1 : Nat) ≤ sizeLine))))) W.fh fun v F1 H1 w1 r1 => q v F1 H1 (W.trans w1) (rep_eq r1 e))
    · --
      have W := W.trans w_4
      have r0 := Rep.mono w_4.ff r0
      have r_1 := Rep.mono w_4.ff r_1
      have e := MP.iff e hb_4
      have hp_4 := hb_4
      try simp only [inB_t, inB_f, decide_eq_true_eq, decide_eq_false_iff_not, Bool.and_eq_true, Bool.or_eq_true, Bool.and_eq_false_iff, Bool.or_eq_false_iff, Bool.not_eq_true', Bool.not_eq_false', Bool.not_eq_eq_eq_not, Bool.not_true, Bool.not_false] at hp_4
      refine b_nil ?_
      exact b_one (s_ret (ev_var 1 rfl r_1) W.fh fun v F1 H1 w1 r1 => q v F1 H1 (W.trans w1) (rep_eq r1 e))
abbrev s_sure_things : Stmt := topS 10
theorem sc_sure_things : FnScope ["count", "things", "k"] ["count", "things"] (defScope s_sure_things) := ⟨rfl, rfl, rfl, by decide +kernel, rfl, by decide +kernel, by decide +kernel⟩
theorem ok_sure_things {f : Addr} {fd : FuncData} {ec : Exn → Addr} (Fd : Fun K "sure_things" "sure_things" s_sure_things f fd) (B : Bt mg) (X_NoThing : Ex1 K mg "NoThing" (ec .thing)) : FnOk P w K mg base (L2.CX P w) 1 f fd ["count", "things"] (sp2 K (fun _ _ => True) m_sure_things (oX ec (oF K))) := by
  refine Fd.okX sc_sure_things (fun vs H Q E h => ?_) (fun cdv A outer s H vs Q E hr h => ⟨_, bw_pss, ?_⟩)
  · obtain ⟨_, _, _, _, _, rfl, _⟩ := h
    rfl
  · obtain ⟨F, count, things, v0, v1, rfl, fh, r0, r1, pre, q⟩ := h
    have nd := (sc_sure_things).nd
    have W := Wk.refl fh
    have e : m_sure_things count things = _ := rfl
    conv at e => rhs; unfold m_sure_things
    unfold L2.start
    refine b_cons (s_for (S := Unit) (xs := (rng 0 (things.length : Int))) (fun i s_1 σ F' H' => ∃ (z_1_2 : Option V), σ = [some v0, some v1, z_1_2] ∧ Wk F H F' H' ∧ Same F F') (passes_of rfl) rfl (ei_range1 B.range (ev_len B.len (ev_var 1 rfl r1)) (by have := rep_len r1; rw [sizeLine_eq] at this; omega)) W.fh (pg_name (i := 2) nd rfl (by first | exact .inl rfl | exact .inr rfl)) ?h0_1 ?hs_1 e ?turn_1 ?done_1)
    case h0_1 => exact fun F1 H1 w1 => ⟨_, rfl, W.trans w1, w1.ff⟩
    case hs_1 =>
      intro i s_1 σ F' H' hB
      obtain ⟨z_1_2, rfl, W, SM1⟩ := hB
      have r0 := Rep.mono SM1 r0
      have r1 := Rep.mono SM1 r1
      exact W.fh
    case turn_1 =>
      intro i k_1 s_1 σ F_1 H_1 v_1 kk hx_1 hB rx_1 e
      have hm_1 := List.mem_of_getElem? hx_1
      have hi_1 := (List.getElem?_eq_some_iff.mp hx_1).1
      have hr_1 := rng_mem.mp hm_1
      have hg_1 := rng_get hx_1
      obtain ⟨z_1_2, rfl, W, SM1⟩ := hB
      have r0 := Rep.mono SM1 r0
      have r1 := Rep.mono SM1 r1
      have ST1 := Same.refl F_1
      refine b_one (s_if (et_w (ew_or (et_not (et_chain op_le op_lt rr_leI rr_ltI ev_int (ev_ixL (ev_var 1 rfl r1) (ev_var 2 rfl rx_1) (by walk_at "vc")) (ev_var 0 rfl r0))) fun hs2 => (ew_or1 (et_cmp (op_inD (hu65 hr)) rr_in (ev_ixL (ev_var 1 rfl r1) (ev_var 2 rfl rx_1) (by have q0 := hs2; walk_at "vc")) (EvN.ev (evn_slice (ev_var 1 rfl r1) eo_none (eo_some (ev_var 2 rfl rx_1)))))))) W.fh (fun hb_4 F_4 H_4 w_4 => ?_) (fun hb_4 F_4 H_4 w_4 => ?_))
      · --
        have W := W.trans w_4
        have SM1 := SM1.trans w_4.ff
        have ST1 := ST1.trans w_4.ff
        have r0 := Rep.mono w_4.ff r0
        have r1 := Rep.mono w_4.ff r1
        have rx_1 := Rep.mono w_4.ff rx_1
        have e := ift e hb_4
        have hp_4 := hb_4
        try simp only [inB_t, inB_f, decide_eq_true_eq, decide_eq_false_iff_not, Bool.and_eq_true, Bool.or_eq_true, Bool.and_eq_false_iff, Bool.or_eq_false_iff, Bool.not_eq_true', Bool.not_eq_false', Bool.not_eq_eq_eq_not, Bool.not_true, Bool.not_false] at hp_4
        exact b_one (s_raise (takes_of rfl rfl rfl rfl) X_NoThing (q.2 _ e _ _ W))
      · --
        have W := W.trans w_4
        have SM1 := SM1.trans w_4.ff
        have ST1 := ST1.trans w_4.ff
        have r0 := Rep.mono w_4.ff r0
        have r1 := Rep.mono w_4.ff r1
        have rx_1 := Rep.mono w_4.ff rx_1
        have e := MP.iff e hb_4
        have hp_4 := hb_4
        try simp only [inB_t, inB_f, decide_eq_true_eq, decide_eq_false_iff_not, Bool.and_eq_true, Bool.or_eq_true, Bool.and_eq_false_iff, Bool.or_eq_false_iff, Bool.not_eq_true', Bool.not_eq_false', Bool.not_eq_eq_eq_not, Bool.not_true, Bool.not_false] at hp_4
        refine b_nil ?_
        exact ⟨(), _, ST1, ⟨_, rfl, W, SM1⟩, e⟩
    case done_1 =>
      intro s_1 σ F_1 H_1 hB e
      obtain ⟨z_1_2, rfl, W, SM1⟩ := hB
      have r0 := Rep.mono SM1 r0
      have r1 := Rep.mono SM1 r1
      exact b_one (s_ret (EvN.ev (evn_sorted B.sorted (ev_var 1 rfl r1))) W.fh fun v F1 H1 w1 r1 => q.1 _ e v F1 H1 (W.trans w1) r1)
abbrev s_known_by : Stmt := topS 12
theorem sc_known_by : FnScope ["table", "known", "choice"] ["table"] (defScope s_known_by) := ⟨rfl, rfl, rfl, by decide +kernel, rfl, by decide +kernel, by decide +kernel⟩
theorem ok_known_by {f : Addr} {fd : FuncData} (Fd : Fun K "known_by" "known_by" s_known_by f fd) (B : Bt mg) : FnOk P w K mg base CX0 1 f fd ["table"] (sp1 K (fun _ => True) m_known_by (oF K)) := by
  refine Fd.ok sc_known_by (fun vs H Q E h => ?_) (fun cdv A outer s H vs Q E hr h => ⟨_, bw_pss, ?_⟩)
  · obtain ⟨_, _, _, rfl, _⟩ := h
    rfl
  · obtain ⟨F, table, v0, rfl, fh, r0, pre, q⟩ := h
    have nd := (sc_known_by).nd
    have W := Wk.refl fh
    have e : m_known_by table = _ := rfl
    conv at e => rhs; unfold m_known_by
    unfold L2.start
    have hz := rep_len r0
    refine b_cons (s_dnew 1 nd W.fh fun d hd => ?_)
    have hFd := fh.free hd
    have W0 : Wk F H F (upd H d (.dT [])) := .lay fh hd
    refine b_cons (s_for (S := List (List Int)) (xs := table) (fun i s σ F' H' => ∃ (z : Option V) (kvs : List (List Key × V)), σ = [some v0, some (.ref d), z] ∧ Wk F H F' H' ∧ Same F F' ∧ F' d = Option.none ∧ H' d = some (.dT kvs) ∧ KvOf kvs s ∧ s.length ≤ i ∧ ∀ k ∈ s, k.length ≤ sizeLine) PassesOwn.never rfl (ei_list (ev_var 0 rfl r0)) W0.fh (pg_name (i := 2) nd rfl (by first | exact .inl rfl | exact .inr rfl)) ?h0 ?hs e ?turn ?done)
    case h0 => exact fun F1 H1 w1 => ⟨_, [], rfl, W0.trans w1, w1.ff, w1.off hFd upd_same, w1.hh _ _ upd_same, rfl, Nat.le_refl _, (fun _ z => nomatch z)⟩
    case hs =>
      intro i s σ F' H' hB
      obtain ⟨z, kvs, rfl, W, _⟩ := hB
      exact W.fh
    case turn =>
      intro i c s σ F' H' v kk hx hB rx e
      obtain ⟨z, kvs, rfl, W, SM, fd', gd, hk, hl, hs⟩ := hB
      have hi := (List.getElem?_eq_some_iff.mp hx).1
      have hkl : kvs.length = s.length := by
        have := congrArg List.length hk
        rw [List.length_map, List.length_map] at this
        exact this
      refine b_one (s_dput (hu_of hr) B.tuple (er_var 1 rfl) (ev_var 2 rfl rx) W.fh gd (by omega) fun F1 H1 w1 => ?_)
      have f1 := w1.off fd' gd
      refine ⟨addK s c, F1, w1.ff, ⟨_, _, rfl, (W.trans w1).mut hd f1 (w1.hh _ _ gd), SM.trans w1.ff, f1, upd_same, put_known c _ hk, ?_, addK_all hs (rep_len rx)⟩, e⟩
      unfold addK
      split
      · omega
      · rw [List.length_append, List.length_singleton]
        omega
    case done =>
      intro s σ F' H' hB e
      obtain ⟨z, kvs, rfl, W, SM, fd', gd, hk, hl, hs⟩ := hB
      have hkl : kvs.length = s.length := by
        have := congrArg List.length hk
        rw [List.length_map, List.length_map] at this
        exact this
      refine b_one (s_retV (er_var 1 rfl) W.fh fun F1 H1 w1 => ?_)
      have f1 := w1.off fd' gd
      have g1 := w1.hh _ _ gd
      exact q _ _ _ ((W.trans w1).tell hd f1 g1) (rep_eq ⟨d, kvs, rfl, upd_same, hk, by rw [hkl]; exact Nat.le_trans hl hz, hs⟩ e)
abbrev s_exchanged : Stmt := topS 9
theorem sc_exchanged : FnScope ["choice", "out", "thing", "one"] ["choice", "out", "thing"] (defScope s_exchanged) := ⟨rfl, rfl, rfl, by decide +kernel, rfl, by decide +kernel, by decide +kernel⟩
theorem ok_exchanged {f : Addr} {fd : FuncData} (Fd : Fun K "exchanged" "exchanged" s_exchanged f fd) (B : Bt mg) : FnOk P w K mg base CX0 1 f fd ["choice", "out", "thing"] (sp3 K pre_exchangedM m_exchanged (oN K)) := by
  refine Fd.ok sc_exchanged (fun vs H Q E h => ?_) (fun cdv A outer s H vs Q E hr h => ⟨_, bw_pss, ?_⟩)
  · obtain ⟨_, _, _, _, _, _, _, rfl, _⟩ := h
    rfl
  · obtain ⟨F, choice, out, thing, v0, v1, v2, rfl, fh, r0, r1, r2, pre, q⟩ := h
    have nd := (sc_exchanged).nd
    have W := Wk.refl fh
    have e : m_exchanged choice out thing = _ := rfl
    conv at e => rhs; unfold m_exchanged
    unfold L2.start
    unfold pre_exchangedM at pre
    exact b_one (s_retN (evn_sorted B.sorted (EvN.ev (evn_cat (EvN.ev (EvC.evn rfl nd (EvC.eq (evn_lcT (f := fun (one_1 : Int) => (!decide (one_1 = out))) (g := fun (one_1 : Int) => one_1) 3 nd (ei_list (ev_var 0 rfl r0)) (fun one_1 m_1 u_1 F_1 H_1 w_1 r_1 _ _ _ _ _ => (et_cmp op_ne rr_neI (ev_var 3 rfl r_1) (ev_var 1 rfl (Rep.mono w_1.ff r1)))) (fun one_1 m_1 ht_1 u_1 F_1 H_1 w_1 r_1 _ _ _ _ _ => (ev_var 3 rfl r_1))) (List.map_id' _)))) (EvN.ev (evn_lst (el_cons (ev_var 2 rfl r2) el_nil) (by decide : (1 : Nat) ≤ sizeLine))) (by exact cat1 pre (by decide))))) W.fh fun p xs F1 H1 w1 r1 f1 h1 g1 l1 => q p xs F1 H1 (W.trans w1) (reps_eq r1 e) f1 (W.hfree h1) g1 l1)
abbrev s_outs_of : Stmt := topS 13
theorem sc_outs_of : FnScope ["known", "choice", "thing", "out"] ["known", "choice", "thing"] (defScope s_outs_of) := ⟨rfl, rfl, rfl, by decide +kernel, rfl, by decide +kernel, by decide +kernel⟩
theorem ok_outs_of {f : Addr} {fd : FuncData} (Fd : Fun K "outs_of" "outs_of" s_outs_of f fd) (B : Bt mg) (C_exchanged : Cal P w K mg base CX0 1 "exchanged" ["choice", "out", "thing"] (sp3 K pre_exchangedM m_exchanged (oN K))) : FnOk P w K mg base CX0 2 f fd ["known", "choice", "thing"] (sp3 K pre_outs_ofM m_outs_of (oN K)) := by
  refine Fd.ok sc_outs_of (fun vs H Q E h => ?_) (fun cdv A outer s H vs Q E hr h => ⟨_, bw_pss, ?_⟩)
  · obtain ⟨_, _, _, _, _, _, _, rfl, _⟩ := h
    rfl
  · obtain ⟨F, known, choice, thing, v0, v1, v2, rfl, fh, r0, r1, r2, pre, q⟩ := h
    have nd := (sc_outs_of).nd
    have W := Wk.refl fh
    have e : m_outs_of known choice thing = _ := rfl
    conv at e => rhs; unfold m_outs_of
    unfold L2.start
    unfold pre_outs_ofM at pre
    exact b_one (s_retN (EvC.evn rfl nd (EvC.eq (evn_lcT (f := fun (out_1 : Int) => (inB (m_exchanged choice out_1 thing) known.ks)) (g := fun (out_1 : Int) => out_1) 3 nd (ei_list (ev_var 1 rfl r1)) (fun out_1 m_1 u_1 F_1 H_1 w_1 r_1 _ _ _ _ _ => (et_known (hu_of hr) B.tuple (EvN.ev (evn_call3 pass0 (hr.mono (by decide)) C_exchanged (ev_var 1 rfl (Rep.mono w_1.ff r1)) (ev_var 3 rfl r_1) (ev_var 2 rfl (Rep.mono w_1.ff r2)) (by have q0 := m_1; unfold pre_exchangedM; walk_at "vc"))) (ev_var 0 rfl (Rep.mono w_1.ff r0)))) (fun out_1 m_1 ht_1 u_1 F_1 H_1 w_1 r_1 _ _ _ _ _ => (ev_var 3 rfl r_1))) (List.map_id' _))) W.fh fun p xs F1 H1 w1 r1 f1 h1 g1 l1 => q p xs F1 H1 (W.trans w1) (reps_eq r1 e) f1 (W.hfree h1) g1 l1)
abbrev s_fault : Stmt := topS 14
theorem sc_fault : FnScope ["count", "table", "known", "one", "thing", "outs", "other", "out"] ["count", "table"] (defScope s_fault) := ⟨rfl, rfl, rfl, by decide +kernel, rfl, by decide +kernel, by decide +kernel⟩
theorem ok_fault {f : Addr} {fd : FuncData} (Fd : Fun K "fault" "fault" s_fault f fd) (B : Bt mg) (C_known_by : Cal P w K mg base CX0 1 "known_by" ["table"] (sp1 K (fun _ => True) m_known_by (oF K))) (C_outs_of : Cal P w K mg base CX0 2 "outs_of" ["known", "choice", "thing"] (sp3 K pre_outs_ofM m_outs_of (oN K))) : FnOk P w K mg base CX0 3 f fd ["count", "table"] (sp2 K pre_faultM m_fault (oF K)) := by
  refine Fd.ok sc_fault (fun vs H Q E h => ?_) (fun cdv A outer s H vs Q E hr h => ⟨_, bw_pss, ?_⟩)
  · obtain ⟨_, _, _, _, _, rfl, _⟩ := h
    rfl
  · obtain ⟨F, count, table, v0, v1, rfl, fh, r0, r1, pre, q⟩ := h
    have nd := (sc_fault).nd
    have W := Wk.refl fh
    have e : m_fault count table = _ := rfl
    conv at e => rhs; unfold m_fault
    unfold L2.start
    unfold pre_faultM at pre
    refine b_cons (s_asg 2 nd (ev_call1 pass0 (hr.mono (by decide)) C_known_by (ev_var 1 rfl r1) trivial) W.fh fun v_1 F_1 H_1 w_1 r_1 => ?_)
    have W := W.trans w_1
    have r0 := Rep.mono w_1.ff r0
    have r1 := Rep.mono w_1.ff r1
    obtain ⟨known_1, e_1⟩ : ∃ y, y = (m_known_by table) := ⟨_, rfl⟩
    have r_1 := rep_eq r_1 e_1
    have e := bnd_eq e e_1
    refine b_cons (s_for (S := Unit) (xs := table) (fun i s_2 σ F' H' => ∃ (z_2_3 : Option V) (z_2_4 : Option V) (z_2_5 : Option V) (z_2_6 : Option V), σ = [some v0, some v1, some v_1, z_2_3, z_2_4, z_2_5, z_2_6, none] ∧ Wk F H F' H' ∧ Same F_1 F') PassesOwn.never rfl (ei_list (ev_var 1 rfl r1)) W.fh (pg_name (i := 3) nd rfl (by first | exact .inl rfl | exact .inr rfl)) ?h0_2 ?hs_2 e ?turn_2 ?done_2)
    case h0_2 => exact fun F1 H1 w1 => ⟨_, _, _, _, rfl, W.trans w1, w1.ff⟩
    case hs_2 =>
      intro i s_2 σ F' H' hB
      obtain ⟨z_2_3, z_2_4, z_2_5, z_2_6, rfl, W, SM2⟩ := hB
      have r0 := Rep.mono SM2 r0
      have r1 := Rep.mono SM2 r1
      have r_1 := Rep.mono SM2 r_1
      exact W.fh
    case turn_2 =>
      intro i one_2 s_2 σ F_2 H_2 v_2 kk hx_2 hB rx_2 e
      have hm_2 := List.mem_of_getElem? hx_2
      have hi_2 := (List.getElem?_eq_some_iff.mp hx_2).1
      obtain ⟨z_2_3, z_2_4, z_2_5, z_2_6, rfl, W, SM2⟩ := hB
      have r0 := Rep.mono SM2 r0
      have r1 := Rep.mono SM2 r1
      have r_1 := Rep.mono SM2 r_1
      have ST2 := Same.refl F_2
      refine b_one (s_for (S := Unit) (xs := (rng 0 count)) (fun i s_3 σ F' H' => ∃ (z_3_4 : Option V) (z_3_5 : Option V) (z_3_6 : Option V), σ = [some v0, some v1, some v_1, some v_2, z_3_4, z_3_5, z_3_6, none] ∧ Wk F H F' H' ∧ Same F_2 F') PassesOwn.never rfl (ei_range1 B.range (ev_var 0 rfl r0) (by walk_at "vc")) W.fh (pg_name (i := 4) nd rfl (by first | exact .inl rfl | exact .inr rfl)) ?h0_3 ?hs_3 e ?turn_3 ?done_3)
      case h0_3 => exact fun F1 H1 w1 => ⟨_, _, _, rfl, W.trans w1, w1.ff⟩
      case hs_3 =>
        intro i s_3 σ F' H' hB
        obtain ⟨z_3_4, z_3_5, z_3_6, rfl, W, SM3⟩ := hB
        have r0 := Rep.mono SM3 r0
        have r1 := Rep.mono SM3 r1
        have r_1 := Rep.mono SM3 r_1
        have rx_2 := Rep.mono SM3 rx_2
        have SM2 := SM2.trans SM3
        have ST2 := ST2.trans SM3
        exact W.fh
      case turn_3 =>
        intro i thing_3 s_3 σ F_3 H_3 v_3 kk hx_3 hB rx_3 e
        have hm_3 := List.mem_of_getElem? hx_3
        have hi_3 := (List.getElem?_eq_some_iff.mp hx_3).1
        have hr_3 := rng_mem.mp hm_3
        have hg_3 := rng_get hx_3
        obtain ⟨z_3_4, z_3_5, z_3_6, rfl, W, SM3⟩ := hB
        have r0 := Rep.mono SM3 r0
        have r1 := Rep.mono SM3 r1
        have r_1 := Rep.mono SM3 r_1
        have rx_2 := Rep.mono SM3 rx_2
        have SM2 := SM2.trans SM3
        have ST2 := ST2.trans SM3
        have ST3 := Same.refl F_3
        refine b_one (s_if (et_cmp (op_notInD (hu65 hr)) rr_notIn (ev_var 4 rfl rx_3) (ev_var 3 rfl rx_2)) W.fh (fun hb_4 F_4 H_4 w_4 => ?_) (fun hb_4 F_4 H_4 w_4 => ?_))
        · --
          have W := W.trans w_4
          have SM2 := SM2.trans w_4.ff
          have ST2 := ST2.trans w_4.ff
          have SM3 := SM3.trans w_4.ff
          have ST3 := ST3.trans w_4.ff
          have r0 := Rep.mono w_4.ff r0
          have r1 := Rep.mono w_4.ff r1
          have r_1 := Rep.mono w_4.ff r_1
          have rx_2 := Rep.mono w_4.ff rx_2
          have rx_3 := Rep.mono w_4.ff rx_3
          have e := ift e hb_4
          have hp_4 := hb_4
          try simp only [inB_t, inB_f, decide_eq_true_eq, decide_eq_false_iff_not, Bool.and_eq_true, Bool.or_eq_true, Bool.and_eq_false_iff, Bool.or_eq_false_iff, Bool.not_eq_true', Bool.not_eq_false', Bool.not_eq_eq_eq_not, Bool.not_true, Bool.not_false] at hp_4
          refine b_cons (s_asg 5 nd (EvN.ev (evn_call3 pass0 (hr.mono (by decide)) C_outs_of (ev_var 2 rfl r_1) (ev_var 3 rfl rx_2) (ev_var 4 rfl rx_3) (by exact pre.2.2 _ hm_2))) W.fh fun v_5 F_5 H_5 w_5 r_5 => ?_)
          have W := W.trans w_5
          have SM2 := SM2.trans w_5.ff
          have ST2 := ST2.trans w_5.ff
          have SM3 := SM3.trans w_5.ff
          have ST3 := ST3.trans w_5.ff
          have r0 := Rep.mono w_5.ff r0
          have r1 := Rep.mono w_5.ff r1
          have r_1 := Rep.mono w_5.ff r_1
          have rx_2 := Rep.mono w_5.ff rx_2
          have rx_3 := Rep.mono w_5.ff rx_3
          obtain ⟨outs_5, e_5⟩ : ∃ y, y = (m_outs_of known_1 one_2 thing_3) := ⟨_, rfl⟩
          have r_5 := rep_eq r_5 e_5
          have e := bnd_eq e e_5
          refine b_one (s_for (S := Unit) (xs := table) (fun i s_6 σ F' H' => ∃ (z_6_6 : Option V), σ = [some v0, some v1, some v_1, some v_2, some v_3, some v_5, z_6_6, none] ∧ Wk F H F' H' ∧ Same F_5 F') PassesOwn.never rfl (ei_list (ev_var 1 rfl r1)) W.fh (pg_name (i := 6) nd rfl (by first | exact .inl rfl | exact .inr rfl)) ?h0_6 ?hs_6 e ?turn_6 ?done_6)
          case h0_6 => exact fun F1 H1 w1 => ⟨_, rfl, W.trans w1, w1.ff⟩
          case hs_6 =>
            intro i s_6 σ F' H' hB
            obtain ⟨z_6_6, rfl, W, SM6⟩ := hB
            have r0 := Rep.mono SM6 r0
            have r1 := Rep.mono SM6 r1
            have r_1 := Rep.mono SM6 r_1
            have rx_2 := Rep.mono SM6 rx_2
            have rx_3 := Rep.mono SM6 rx_3
            have r_5 := Rep.mono SM6 r_5
            have SM2 := SM2.trans SM6
            have ST2 := ST2.trans SM6
            have SM3 := SM3.trans SM6
            have ST3 := ST3.trans SM6
            exact W.fh
          case turn_6 =>
            intro i other_6 s_6 σ F_6 H_6 v_6 kk hx_6 hB rx_6 e
            have hm_6 := List.mem_of_getElem? hx_6
            have hi_6 := (List.getElem?_eq_some_iff.mp hx_6).1
            obtain ⟨z_6_6, rfl, W, SM6⟩ := hB
            have r0 := Rep.mono SM6 r0
            have r1 := Rep.mono SM6 r1
            have r_1 := Rep.mono SM6 r_1
            have rx_2 := Rep.mono SM6 rx_2
            have rx_3 := Rep.mono SM6 rx_3
            have r_5 := Rep.mono SM6 r_5
            have SM2 := SM2.trans SM6
            have ST2 := ST2.trans SM6
            have SM3 := SM3.trans SM6
            have ST3 := ST3.trans SM6
            have ST6 := Same.refl F_6
            refine b_one (s_if (et_w (ew_and (et_cmp (op_inD (hu65 hr)) rr_in (ev_var 4 rfl rx_3) (ev_var 6 rfl rx_6)) fun hs7 => (ew_and1 (et_not (et_lst (EvN.ev (EvC.evn rfl nd (EvC.eq (evn_lcT (f := fun (out_8 : Int) => (!inB out_8 other_6)) (g := fun (out_8 : Int) => out_8) 7 nd (ei_list (ev_var 5 rfl r_5)) (fun out_8 m_8 u_8 F_8 H_8 w_8 r_8 _ _ _ _ _ => (et_cmp (op_notInD (hu65 hr)) rr_notIn (ev_var 7 rfl r_8) (ev_var 6 rfl (Rep.mono w_8.ff rx_6)))) (fun out_8 m_8 ht_8 u_8 F_8 H_8 w_8 r_8 _ _ _ _ _ => (ev_var 7 rfl r_8))) (List.map_id' _))))))))) W.fh (fun hb_10 F_10 H_10 w_10 => ?_) (fun hb_10 F_10 H_10 w_10 => ?_))
            · --
              have W := W.trans w_10
              have SM2 := SM2.trans w_10.ff
              have ST2 := ST2.trans w_10.ff
              have SM3 := SM3.trans w_10.ff
              have ST3 := ST3.trans w_10.ff
              have SM6 := SM6.trans w_10.ff
              have ST6 := ST6.trans w_10.ff
              have r0 := Rep.mono w_10.ff r0
              have r1 := Rep.mono w_10.ff r1
              have r_1 := Rep.mono w_10.ff r_1
              have rx_2 := Rep.mono w_10.ff rx_2
              have rx_3 := Rep.mono w_10.ff rx_3
              have r_5 := Rep.mono w_10.ff r_5
              have rx_6 := Rep.mono w_10.ff rx_6
              have e := ift e hb_10
              have hp_10 := hb_10
              try simp only [inB_t, inB_f, decide_eq_true_eq, decide_eq_false_iff_not, Bool.and_eq_true, Bool.or_eq_true, Bool.and_eq_false_iff, Bool.or_eq_false_iff, Bool.not_eq_true', Bool.not_eq_false', Bool.not_eq_eq_eq_not, Bool.not_true, Bool.not_false] at hp_10
              exact b_one (s_ret (Ev.some (ev_tri (EvN.ev (evn_list B.list (ev_var 3 rfl rx_2))) (EvN.ev (evn_list B.list (ev_var 6 rfl rx_6))) (ev_var 4 rfl rx_3))) W.fh fun v F1 H1 w1 r1 => q v F1 H1 (W.trans w1) (rep_eq r1 e))
            · --
              have W := W.trans w_10
              have SM2 := SM2.trans w_10.ff
              have ST2 := ST2.trans w_10.ff
              have SM3 := SM3.trans w_10.ff
              have ST3 := ST3.trans w_10.ff
              have SM6 := SM6.trans w_10.ff
              have ST6 := ST6.trans w_10.ff
              have r0 := Rep.mono w_10.ff r0
              have r1 := Rep.mono w_10.ff r1
              have r_1 := Rep.mono w_10.ff r_1
              have rx_2 := Rep.mono w_10.ff rx_2
              have rx_3 := Rep.mono w_10.ff rx_3
              have r_5 := Rep.mono w_10.ff r_5
              have rx_6 := Rep.mono w_10.ff rx_6
              have e := MP.iff e hb_10
              have hp_10 := hb_10
              try simp only [inB_t, inB_f, decide_eq_true_eq, decide_eq_false_iff_not, Bool.and_eq_true, Bool.or_eq_true, Bool.and_eq_false_iff, Bool.or_eq_false_iff, Bool.not_eq_true', Bool.not_eq_false', Bool.not_eq_eq_eq_not, Bool.not_true, Bool.not_false] at hp_10
              refine b_nil ?_
              exact ⟨(), _, ST6, ⟨_, rfl, W, SM6⟩, e⟩
          case done_6 =>
            intro s_6 σ F_6 H_6 hB e
            obtain ⟨z_6_6, rfl, W, SM6⟩ := hB
            have r0 := Rep.mono SM6 r0
            have r1 := Rep.mono SM6 r1
            have r_1 := Rep.mono SM6 r_1
            have rx_2 := Rep.mono SM6 rx_2
            have rx_3 := Rep.mono SM6 rx_3
            have r_5 := Rep.mono SM6 r_5
            have SM2 := SM2.trans SM6
            have ST2 := ST2.trans SM6
            have SM3 := SM3.trans SM6
            have ST3 := ST3.trans SM6
            exact ⟨(), _, ST3, ⟨_, _, _, rfl, W, SM3⟩, e⟩
        · --
          have W := W.trans w_4
          have SM2 := SM2.trans w_4.ff
          have ST2 := ST2.trans w_4.ff
          have SM3 := SM3.trans w_4.ff
          have ST3 := ST3.trans w_4.ff
          have r0 := Rep.mono w_4.ff r0
          have r1 := Rep.mono w_4.ff r1
          have r_1 := Rep.mono w_4.ff r_1
          have rx_2 := Rep.mono w_4.ff rx_2
          have rx_3 := Rep.mono w_4.ff rx_3
          have e := MP.iff e hb_4
          have hp_4 := hb_4
          try simp only [inB_t, inB_f, decide_eq_true_eq, decide_eq_false_iff_not, Bool.and_eq_true, Bool.or_eq_true, Bool.and_eq_false_iff, Bool.or_eq_false_iff, Bool.not_eq_true', Bool.not_eq_false', Bool.not_eq_eq_eq_not, Bool.not_true, Bool.not_false] at hp_4
          refine b_nil ?_
          exact ⟨(), _, ST3, ⟨_, _, _, rfl, W, SM3⟩, e⟩
      case done_3 =>
        intro s_3 σ F_3 H_3 hB e
        obtain ⟨z_3_4, z_3_5, z_3_6, rfl, W, SM3⟩ := hB
        have r0 := Rep.mono SM3 r0
        have r1 := Rep.mono SM3 r1
        have r_1 := Rep.mono SM3 r_1
        have rx_2 := Rep.mono SM3 rx_2
        have SM2 := SM2.trans SM3
        have ST2 := ST2.trans SM3
        exact ⟨(), _, ST2, ⟨_, _, _, _, rfl, W, SM2⟩, e⟩
    case done_2 =>
      intro s_2 σ F_2 H_2 hB e
      obtain ⟨z_2_3, z_2_4, z_2_5, z_2_6, rfl, W, SM2⟩ := hB
      have r0 := Rep.mono SM2 r0
      have r1 := Rep.mono SM2 r1
      have r_1 := Rep.mono SM2 r_1
      exact b_one (s_ret ev_non W.fh fun v F1 H1 w1 r1 => q v F1 H1 (W.trans w1) (rep_eq r1 e))
abbrev s_Rule : Stmt := (clsBody (topS 16)).getD 0 (.Pass ⟨0, 0, 0, 0⟩)
theorem sc_Rule : FnScope ["self", "count", "table", "known", "choice"] ["self", "count", "table"] (defScope s_Rule) := ⟨rfl, rfl, rfl, by decide +kernel, rfl, by decide +kernel, by decide +kernel⟩
theorem ok_Rule {RC : Addr} {ec : Exn → Addr} {f : Addr} {fd : FuncData} (Fd : Fun K "__init__" "Rule.__init__" s_Rule f fd) (B : Bt mg) (R : RuleB K mg RC) (X_NoChoice : Ex1 K mg "NoChoice" (ec .choice)) (X_NoExchange : Ex1 K mg "NoExchange" (ec .exchange))
    (C_sure_things : Cal P w K mg base (L2.CX P w) 1 "sure_things" ["count", "things"] (sp2 K (fun _ _ => True) m_sure_things (oX ec (oF K)))) (C_known_by : Cal P w K mg base CX0 1 "known_by" ["table"] (sp1 K (fun _ => True) m_known_by (oF K))) (C_fault : Cal P w K mg base CX0 3 "fault" ["count", "table"] (sp2 K pre_faultM m_fault (oF K))) :
    FnOk P w K mg base (L2.CX P w) 4 f fd ["self", "count", "table"] (spO K ec RC pre_RuleX m_RuleX) := by
  refine Fd.okX sc_Rule (fun vs H Q E h => ?_) (fun cdv A outer s H vs Q E hr h => ⟨_, bw_pss, ?_⟩)
  · obtain ⟨_, _, _, _, _, _, _, _, rfl, _⟩ := h
    rfl
  · obtain ⟨F, H0, x, dx, count, table, v1, v2, rfl, fh, nx, ndx, ne, rfl, r1, r2, pre, q⟩ := h
    have nd := sc_Rule.nd
    have e : m_RuleX count table = _ := rfl
    conv at e => rhs; unfold m_RuleX
    unfold pre_RuleX at pre
    obtain ⟨p1, p2, p3⟩ := pre
    unfold L2.start
    have W0 : Wk F H0 F (upd H0 dx (.own x)) := .lay fh ndx
    have W : Wk F H0 F (upd (upd H0 dx (.own x)) x (.ins RC dx [])) := W0.trans (.lay W0.fh (by rw [upd_ne (Ne.symm ne)]; exact nx))
    have nF : F x = none := fh.free nx
    have gx : upd (upd H0 dx (.own x)) x (.ins RC dx []) x = some (.ins RC dx []) := upd_same
    refine b_cons (s_if (et_cmp op_eq rr_eqI (ev_len B.len (ev_var 2 rfl r2)) ev_int) W.fh (fun hb F_1 H_1 w_1 => ?_) (fun hb F_1 H_1 w_1 => ?_))
    · exact b_one (s_raise (takes_of rfl rfl rfl rfl) X_NoChoice (q.2 _ (ift e hb) _ _ (W.trans w_1)))
    have e := MP.iff e hb
    have hne : table ≠ [] := fun z => by
      rw [z] at hb
      simp at hb
    have W := W.trans w_1
    have r1 := Rep.mono w_1.ff r1
    have r2 := Rep.mono w_1.ff r2
    have nF := w_1.off nF gx
    have gx := w_1.hh _ _ gx
    refine b_nil (b_cons (s_asgX 3 nd (pcal1c at0 (hr.mono (by decide)) C_known_by (EvP.oNF (evp_lcX 4 (takes_of rfl rfl rfl rfl) rfl rfl rfl nd (ei_list (ev_var 2 rfl r2)) (fun c hm u F_2 H_2 w_2 r_2 s Hb C cl fp => pcal2 at_xb (hr.mono (by decide)) C_sure_things (ev_var 1 rfl (Rep.mono w_2.ff r1)) (ev_var 4 rfl r_2) trivial))) (fun _ _ => trivial)) W.fh (fun kn hd_3 v_3 F_3 H_3 w_3 r_3 => ?_) (fun ex hx_3 F_3 H_3 w_3 => q.2 _ (bindX_err e hx_3) _ _ (W.trans w_3))))
    have W := W.trans w_3
    have r1 := Rep.mono w_3.ff r1
    have nF := w_3.off nF gx
    have gx := w_3.hh _ _ gx
    have e := bindX_ok e hd_3
    obtain ⟨p4, p6⟩ := rowsX_all hd_3 p3
    refine b_cons (s_fld R.c R.n1 (er_var 0 rfl) (ev_var 1 rfl r1) W.fh gx (by decide) fun v_4 F_4 H_4 w_4 r_4 => ?_)
    have nF := w_4.off nF gx
    have W := (W.trans w_4).mut (o := .ins RC dx (putF "count" v_4 [])) nx nF (w_4.hh _ _ gx)
    have r_3 := Rep.mono w_4.ff r_3
    have r1 := Rep.mono w_4.ff r1
    have gx : upd H_4 x (.ins RC dx (putF "count" v_4 [])) x = some (.ins RC dx [(("count" : Str), v_4)]) := upd_same
    refine b_cons (s_fld R.c R.n2 (er_var 0 rfl) (EvN.own (N := fun a => H0 a = none) (fun a z => W.hfree z) (EvC.evn rfl nd (evn_lc (g := fun t : Tup => (OwnL.mk t.ns : OwnL (fun a => H0 a = none) Int)) 4 nd (ei_list (EvN.ev (evn_sortedU hr B.sorted (EvN.ev (evn_listK rfl B.list (ev_var 3 rfl r_3)))))) (fun t hm u F_5 H_5 w_5 r_5 _ _ _ _ _ => EvN.own (fun a z => W.hfree (w_5.hfree z)) (evn_listT B.list (ev_var 4 rfl r_5)))))) W.fh gx (Nat.lt_of_le_of_lt (by exact Nat.le_refl 1) (by decide)) fun v_6 F_6 H_6 w_6 r_6 => ?_)
    obtain ⟨full, e_6⟩ : ∃ y, y = rowsT (srtT (kn.ks.map Tup.mk)) := ⟨_, rfl⟩
    have ho : List.map (fun t : Tup => (OwnL.mk t.ns : OwnL (fun a => H0 a = none) Int)) (srtT (kn.ks.map Tup.mk)) = owns (fun a => H0 a = none) full := by
      rw [e_6]
      unfold rowsT owns
      rw [List.map_map]
      rfl
    rw [ho] at r_6
    obtain ⟨ro_6, np_6⟩ := r_6
    obtain ⟨p_6, hv_6⟩ : ∃ p, v_6 = .ref p := by
      obtain ⟨a, xs, e, _⟩ := ro_6
      exact ⟨a, e⟩
    subst hv_6
    have np_6 := np_6 _ rfl
    have r_6 : rep K F_6 (.ref p_6) full := own_rep ro_6
    rw [← e_6] at p4 p6
    have e := bnd_eq e e_6
    have nF := w_6.off nF gx
    have W := (W.trans w_6).mut (o := .ins RC dx (putF "full" (.ref p_6) [(("count" : Str), v_4)])) nx nF (w_6.hh _ _ gx)
    have r1 := Rep.mono w_6.ff r1
    have r_4 := Rep.mono w_6.ff r_4
    have gx : upd H_6 x (.ins RC dx (putF "full" (.ref p_6) [(("count" : Str), v_4)])) x = some (.ins RC dx [(("count" : Str), v_4), (("full" : Str), (.ref p_6))]) := upd_same
    refine b_cons (s_if (et_cmp op_notN (rr_notN (fun _ _ _ => nn_tri)) (ev_call2 pass0 (hr.mono (by decide)) C_fault (ev_var 1 rfl r1) (ev_fldO R.c R.n2 (er_var 0 rfl) gx rfl r_6) (by unfold pre_faultM; exact ⟨p1, p2, p4⟩)) ev_non_) W.fh (fun hb2 F_7 H_7 w_7 => ?_) (fun hb2 F_7 H_7 w_7 => ?_))
    · exact b_one (s_raise (takes_of rfl rfl rfl rfl) X_NoExchange (q.2 _ (ift e hb2) _ _ (W.trans w_7)))
    have e := MP.iff e hb2
    have nF := w_7.off nF gx
    have gx := w_7.hh _ _ gx
    have W := W.trans w_7
    have r_4 := Rep.mono w_7.ff r_4
    have r_6 := Rep.mono w_7.ff r_6
    have ro_6 := Rep.mono w_7.ff ro_6
    refine b_nil (b_one (s_fld R.c R.n3 (er_var 0 rfl) (ev_len B.len (ev_ixL (ev_fldO R.c R.n2 (er_var 0 rfl) gx rfl r_6) ev_int ?ixok)) W.fh gx (Nat.lt_of_le_of_lt (by exact Nat.le_refl 2) (by decide)) fun v_8 F_8 H_8 w_8 r_8 => ?_))
    case ixok =>
      have := List.length_pos_iff.mpr (p6 hne)
      omega
    have nF := w_8.off nF gx
    have W := (W.trans w_8).mut (o := .ins RC dx (putF "size" v_8 [(("count" : Str), v_4), (("full" : Str), (.ref p_6))])) nx nF (w_8.hh _ _ gx)
    have r_4 := Rep.mono w_8.ff r_4
    have ro_6 := Rep.mono w_8.ff ro_6
    obtain rfl : v_4 = .int count := r_4
    obtain rfl : v_8 = .int ((gi full 0).length : Int) := r_8
    refine q.1 _ e _ _ (W.tell nx nF upd_same) ⟨x, RC, dx, p_6, rfl, R.ns, upd_same, nx, np_6, Rep.mono (same_new nF) ro_6⟩
abbrev s__law_words : Stmt := topS 39
theorem sc__law_words : FnScope ["_law_choice", "_law_thing"] ["_law_choice"] (defScope s__law_words) := ⟨rfl, rfl, rfl, by decide +kernel, rfl, by decide +kernel, by decide +kernel⟩
theorem ok__law_words {f : Addr} {fd : FuncData} (Fd : Fun K "_law_words" "_law_words" s__law_words f fd) (B : Bt mg) : FnOk P w K mg base CX0 1 f fd ["_law_choice"] (sp1 K pre__law_words m__law_words (oF K)) := by
  refine Fd.ok sc__law_words (fun vs H Q E h => ?_) (fun cdv A outer s H vs Q E hr h => ⟨_, bw_pss, ?_⟩)
  · obtain ⟨_, _, _, rfl, _⟩ := h
    rfl
  · obtain ⟨F, _law_choice, v0, rfl, fh, r0, pre, q⟩ := h
    have nd := (sc__law_words).nd
    have W := Wk.refl fh
    have e : m__law_words _law_choice = _ := rfl
    conv at e => rhs; unfold m__law_words
    unfold L2.start
    unfold pre__law_words at pre
    refine b_cons (s_if (et_cmp (op_eqD (hu64 hr)) rr_eqD (ev_var 0 rfl r0) (EvN.ev (evn_nil (α := Int)))) W.fh (fun hb_1 F_1 H_1 w_1 => ?_) (fun hb_1 F_1 H_1 w_1 => ?_))
    · --
      have W := W.trans w_1
      have r0 := Rep.mono w_1.ff r0
      have e := ift e hb_1
      have hp_1 := hb_1
      try simp only [inB_t, inB_f, decide_eq_true_eq, decide_eq_false_iff_not, Bool.and_eq_true, Bool.or_eq_true, Bool.and_eq_false_iff, Bool.or_eq_false_iff, Bool.not_eq_true', Bool.not_eq_false', Bool.not_eq_eq_eq_not, Bool.not_true, Bool.not_false] at hp_1
      exact b_one (s_ret ev_str W.fh fun v F1 H1 w1 r1 => q v F1 H1 (W.trans w1) (rep_eq r1 e))
    · --
      have W := W.trans w_1
      have r0 := Rep.mono w_1.ff r0
      have e := MP.iff e hb_1
      have hp_1 := hb_1
      try simp only [inB_t, inB_f, decide_eq_true_eq, decide_eq_false_iff_not, Bool.and_eq_true, Bool.or_eq_true, Bool.and_eq_false_iff, Bool.or_eq_false_iff, Bool.not_eq_true', Bool.not_eq_false', Bool.not_eq_eq_eq_not, Bool.not_true, Bool.not_false] at hp_1
      refine b_nil ?_
      exact b_one (s_ret (ev_join ev_str (EvN.ev (EvC.evn rfl nd (evn_lc 1 nd (ei_list (ev_var 0 rfl r0)) (fun _law_thing_2 m_2 u_2 F_2 H_2 w_2 r_2 _ _ _ _ _ => (ev_strI B.str (ev_var 1 rfl r_2) (by exact big_ok (pre.2 _ m_2))))))) (by exact words_sz pre.1 pre.2)) W.fh fun v F1 H1 w1 r1 => q v F1 H1 (W.trans w1) (rep_eq r1 e))
abbrev s_choice_shown : Stmt := topS 19
theorem sc_choice_shown : FnScope ["choice", "thing"] ["choice"] (defScope s_choice_shown) := ⟨rfl, rfl, rfl, by decide +kernel, rfl, by decide +kernel, by decide +kernel⟩
theorem ok_choice_shown {f : Addr} {fd : FuncData} (Fd : Fun K "choice_shown" "choice_shown" s_choice_shown f fd) (B : Bt mg) : FnOk P w K mg base CX0 1 f fd ["choice"] (sp1 K pre_choice_shown m_choice_shown (oF K)) := by
  refine Fd.ok sc_choice_shown (fun vs H Q E h => ?_) (fun cdv A outer s H vs Q E hr h => ⟨_, bw_pss, ?_⟩)
  · obtain ⟨_, _, _, rfl, _⟩ := h
    rfl
  · obtain ⟨F, choice, v0, rfl, fh, r0, pre, q⟩ := h
    have nd := (sc_choice_shown).nd
    have W := Wk.refl fh
    have e : m_choice_shown choice = _ := rfl
    conv at e => rhs; unfold m_choice_shown
    unfold L2.start
    unfold pre_choice_shown at pre
    refine b_cons (s_if (et_cmp (op_eqD (hu64 hr)) rr_eqD (ev_var 0 rfl r0) (EvN.ev (evn_nil (α := Int)))) W.fh (fun hb_1 F_1 H_1 w_1 => ?_) (fun hb_1 F_1 H_1 w_1 => ?_))
    · --
      have W := W.trans w_1
      have r0 := Rep.mono w_1.ff r0
      have e := ift e hb_1
      have hp_1 := hb_1
      try simp only [inB_t, inB_f, decide_eq_true_eq, decide_eq_false_iff_not, Bool.and_eq_true, Bool.or_eq_true, Bool.and_eq_false_iff, Bool.or_eq_false_iff, Bool.not_eq_true', Bool.not_eq_false', Bool.not_eq_eq_eq_not, Bool.not_true, Bool.not_false] at hp_1
      exact b_one (s_ret ev_str W.fh fun v F1 H1 w1 r1 => q v F1 H1 (W.trans w1) (rep_eq r1 e))
    · --
      have W := W.trans w_1
      have r0 := Rep.mono w_1.ff r0
      have e := MP.iff e hb_1
      have hp_1 := hb_1
      try simp only [inB_t, inB_f, decide_eq_true_eq, decide_eq_false_iff_not, Bool.and_eq_true, Bool.or_eq_true, Bool.and_eq_false_iff, Bool.or_eq_false_iff, Bool.not_eq_true', Bool.not_eq_false', Bool.not_eq_eq_eq_not, Bool.not_true, Bool.not_false] at hp_1
      refine b_nil ?_
      exact b_one (s_ret (ev_join ev_str (EvN.ev (EvC.evn rfl nd (evn_lc 1 nd (ei_list (ev_var 0 rfl r0)) (fun thing_2 m_2 u_2 F_2 H_2 w_2 r_2 _ _ _ _ _ => (ev_strI B.str (ev_var 1 rfl r_2) (by exact big_ok (pre.2 _ m_2))))))) (by exact words_sz pre.1 pre.2)) W.fh fun v F1 H1 w1 r1 => q v F1 H1 (W.trans w1) (rep_eq r1 e))
abbrev s_shown : Stmt := topS 20
theorem sc_shown : FnScope ["rule", "choice"] ["rule"] (defScope s_shown) := ⟨rfl, rfl, rfl, by decide +kernel, rfl, by decide +kernel, by decide +kernel⟩
theorem ok_shown {f : Addr} {fd : FuncData} {RC : Addr} (Fd : Fun K "shown" "shown" s_shown f fd) (B : Bt mg) (R : RuleB K mg RC) (C_choice_shown : Cal P w K mg base CX0 1 "choice_shown" ["choice"] (sp1 K pre_choice_shown m_choice_shown (oF K))) : FnOk P w K mg base CX0 2 f fd ["rule"] (sp1 K pre_shown m_shown (oF K)) := by
  refine Fd.ok sc_shown (fun vs H Q E h => ?_) (fun cdv A outer s H vs Q E hr h => ⟨_, bw_pss, ?_⟩)
  · obtain ⟨_, _, _, rfl, _⟩ := h
    rfl
  · obtain ⟨F, rule, v0, rfl, fh, r0, pre, q⟩ := h
    have nd := (sc_shown).nd
    have W := Wk.refl fh
    have e : m_shown rule = _ := rfl
    conv at e => rhs; unfold m_shown
    unfold L2.start
    unfold pre_shown at pre
    exact b_one (s_ret (ev_cats (ev_cats (ev_strI B.str (ev_count R (ev_var 0 rfl r0)) (by exact big_ok ⟨pre.1, pre.2.1⟩)) ev_str (by exact sz_of (Nat.le_trans (head_len ⟨pre.1, pre.2.1⟩) (by decide)))) (ev_join ev_str (EvN.ev (EvC.evn rfl nd (evn_lc 1 nd (ei_list (ev_full R (ev_var 0 rfl r0))) (fun choice_1 m_1 u_1 F_1 H_1 w_1 r_1 _ _ _ _ _ => (ev_call1 pass0 (hr.mono (by decide)) C_choice_shown (ev_var 1 rfl r_1) (by exact pre.2.2.2 _ m_1)))))) (by exact shown_sz pre.2.2.1 pre.2.2.2)) (by have h1 := head_len ⟨pre.1, pre.2.1⟩; have h2 := shown_join pre.2.2.1 pre.2.2.2; rw [len_app]; exact sz_of (by clear e; omega))) W.fh fun v F1 H1 w1 r1 => q v F1 H1 (W.trans w1) (rep_eq r1 e))
abbrev s__law_sign_by : Stmt := topS 48
theorem sc__law_sign_by : FnScope ["_law_cell", "_law_some"] ["_law_cell"] (defScope s__law_sign_by) := ⟨rfl, rfl, rfl, by decide +kernel, rfl, by decide +kernel, by decide +kernel⟩
theorem ok__law_sign_by {f : Addr} {fd : FuncData} (Fd : Fun K "_law_sign_by" "_law_sign_by" s__law_sign_by f fd) (B : Bt mg) : FnOk P w K mg base CX0 1 f fd ["_law_cell"] (sp1 K (fun _ => True) m__law_sign_by (oF K)) := by
  refine Fd.ok sc__law_sign_by (fun vs H Q E h => ?_) (fun cdv A outer s H vs Q E hr h => ⟨_, bw_pss, ?_⟩)
  · obtain ⟨_, _, _, rfl, _⟩ := h
    rfl
  · obtain ⟨F, _law_cell, v0, rfl, fh, r0, pre, q⟩ := h
    have nd := (sc__law_sign_by).nd
    have W := Wk.refl fh
    have e : m__law_sign_by _law_cell = _ := rfl
    conv at e => rhs; unfold m__law_sign_by
    unfold L2.start
    refine b_cons (s_asg 1 nd ev_str W.fh fun v_1 F_1 H_1 w_1 r_1 => ?_)
    have W := W.trans w_1
    have r0 := Rep.mono w_1.ff r0
    obtain ⟨_law_some_1, e_1⟩ : ∃ y, y = (" !\"#$&'()*+,-./0123456789:;<=>?@ABCDEFGHIJKLMNOPQRSTUVWXYZ[\\]^_`" : Str) := ⟨_, rfl⟩
    have r_1 := rep_eq r_1 e_1
    have e := bnd_eq e e_1
    refine b_cons (s_asg 1 nd (ev_cats (ev_var 1 rfl r_1) ev_str (by rw [e_1, len_a, len_b]; exact sz_of (by decide))) W.fh fun v_2 F_2 H_2 w_2 r_2 => ?_)
    have W := W.trans w_2
    have r0 := Rep.mono w_2.ff r0
    obtain ⟨_law_some_2, e_2⟩ : ∃ y, y = (_law_some_1 ++ ("abcdefghijklmnopqrstuvwxyz{|}~\n\t" : Str)) := ⟨_, rfl⟩
    have r_2 := rep_eq r_2 e_2
    have e := bnd_eq e e_2
    exact b_one (s_ret (ev_sgn (ev_var 1 rfl r_2) (ev_mod (ev_var 0 rfl r0) ev_int (by decide)) (by rw [e_2, e_1, len_app, len_a, len_b]; exact sz_of (by decide)) (by have hl : _law_some_2.length = 96 := (by rw [e_2, e_1, len_app, len_a, len_b]); rw [hl]; exact mod_ix (n := 96) (by decide))) W.fh fun v F1 H1 w1 r1 => q v F1 H1 (W.trans w1) (rep_eq r1 e))
abbrev s__law_changed : Stmt := topS 49
theorem sc__law_changed : FnScope ["_law_text", "_law_cell", "_law_low", "_law_at"] ["_law_text", "_law_cell", "_law_low"] (defScope s__law_changed) := ⟨rfl, rfl, rfl, by decide +kernel, rfl, by decide +kernel, by decide +kernel⟩
theorem ok__law_changed {f : Addr} {fd : FuncData} (Fd : Fun K "_law_changed" "_law_changed" s__law_changed f fd) (B : Bt mg) (C__law_sign_by : Cal P w K mg base CX0 1 "_law_sign_by" ["_law_cell"] (sp1 K (fun _ => True) m__law_sign_by (oF K))) : FnOk P w K mg base CX0 2 f fd ["_law_text", "_law_cell", "_law_low"] (sp3 K pre__law_changed m__law_changed (oF K)) := by
  refine Fd.ok sc__law_changed (fun vs H Q E h => ?_) (fun cdv A outer s H vs Q E hr h => ⟨_, bw_pss, ?_⟩)
  · obtain ⟨_, _, _, _, _, _, _, rfl, _⟩ := h
    rfl
  · obtain ⟨F, _law_text, _law_cell, _law_low, v0, v1, v2, rfl, fh, r0, r1, r2, pre, q⟩ := h
    have nd := (sc__law_changed).nd
    have W := Wk.refl fh
    have e : m__law_changed _law_text _law_cell _law_low = _ := rfl
    conv at e => rhs; unfold m__law_changed
    unfold L2.start
    unfold pre__law_changed at pre
    refine b_cons (s_asg 3 nd (ev_add (ev_var 2 rfl r2) (ev_mod (ev_div (ev_var 1 rfl r1) ev_int ⟨by decide, by decide⟩) (ev_sub (ev_add (ev_lens B.len (ev_var 0 rfl r0) (by walk_at "vc")) ev_int) (ev_var 2 rfl r2)) (by walk_at "vc"))) W.fh fun v_1 F_1 H_1 w_1 r_1 => ?_)
    have W := W.trans w_1
    have r0 := Rep.mono w_1.ff r0
    have r1 := Rep.mono w_1.ff r1
    have r2 := Rep.mono w_1.ff r2
    obtain ⟨_law_at_1, e_1⟩ : ∃ y, y = (_law_low + ((_law_cell / (768 : Int)) % (((_law_text.length : Int) + (1 : Int)) - _law_low))) := ⟨_, rfl⟩
    have r_1 := rep_eq r_1 e_1
    have e := bnd_eq e e_1
    refine b_cons (s_join (S := Int) (fun s_2 σ F' H' => ∃ (y_2_3 : V), σ = [some v0, some v1, some v2, some y_2_3] ∧ Wk F H F' H' ∧ Same F_1 F' ∧ rep K F' y_2_3 s_2) (et_cmp op_eq rr_eqI (ev_mod (ev_div (ev_var 1 rfl r1) ev_int ⟨by decide, by decide⟩) ev_int (by decide)) ev_int) W.fh e (fun hb_2 F_2 H_2 w_2 kk e => ?_) (fun hb_2 F_2 H_2 w_2 kk e => ?_) (fun s_2 σ F_2 H_2 hB e => ?_))
    ·
      have SM2 := Same.refl F_1
      have W := W.trans w_2
      have SM2 := SM2.trans w_2.ff
      have r0 := Rep.mono w_2.ff r0
      have r1 := Rep.mono w_2.ff r1
      have r2 := Rep.mono w_2.ff r2
      have r_1 := Rep.mono w_2.ff r_1
      have e := ift e hb_2
      have hp_2 := hb_2
      try simp only [inB_t, inB_f, decide_eq_true_eq, decide_eq_false_iff_not, Bool.and_eq_true, Bool.or_eq_true, Bool.and_eq_false_iff, Bool.or_eq_false_iff, Bool.not_eq_true', Bool.not_eq_false', Bool.not_eq_eq_eq_not, Bool.not_true, Bool.not_false] at hp_2
      refine b_one (s_asg 3 nd (ev_lens B.len (ev_var 0 rfl r0) (by walk_at "vc")) W.fh fun v_3 F_3 H_3 w_3 r_3 => ?_)
      have W := W.trans w_3
      have SM2 := SM2.trans w_3.ff
      have r0 := Rep.mono w_3.ff r0
      have r1 := Rep.mono w_3.ff r1
      have r2 := Rep.mono w_3.ff r2
      obtain ⟨_law_at_3, e_3⟩ : ∃ y, y = (_law_text.length : Int) := ⟨_, rfl⟩
      have r_3 := rep_eq r_3 e_3
      have e := bnd_eq e e_3
      exact ⟨_law_at_3, _, ⟨_, rfl, W, SM2, r_3⟩, e⟩
    ·
      have SM2 := Same.refl F_1
      have W := W.trans w_2
      have SM2 := SM2.trans w_2.ff
      have r0 := Rep.mono w_2.ff r0
      have r1 := Rep.mono w_2.ff r1
      have r2 := Rep.mono w_2.ff r2
      have r_1 := Rep.mono w_2.ff r_1
      have e := MP.iff e hb_2
      have hp_2 := hb_2
      try simp only [inB_t, inB_f, decide_eq_true_eq, decide_eq_false_iff_not, Bool.and_eq_true, Bool.or_eq_true, Bool.and_eq_false_iff, Bool.or_eq_false_iff, Bool.not_eq_true', Bool.not_eq_false', Bool.not_eq_eq_eq_not, Bool.not_true, Bool.not_false] at hp_2
      exact b_nil ⟨_law_at_1, _, ⟨_, rfl, W, SM2, r_1⟩, e⟩
    obtain ⟨y_2_3, rfl, W, SM2, r_2_3⟩ := hB
    have r0 := Rep.mono SM2 r0
    have r1 := Rep.mono SM2 r1
    have r2 := Rep.mono SM2 r2
    refine b_cons (s_if (et_cmp op_eq rr_eqI (ev_mod (ev_div (ev_var 1 rfl r1) ev_int ⟨by decide, by decide⟩) ev_int (by decide)) ev_int) W.fh (fun hb_4 F_4 H_4 w_4 => ?_) (fun hb_4 F_4 H_4 w_4 => ?_))
    · --
      have W := W.trans w_4
      have r0 := Rep.mono w_4.ff r0
      have r1 := Rep.mono w_4.ff r1
      have r2 := Rep.mono w_4.ff r2
      have r_2_3 := Rep.mono w_4.ff r_2_3
      have e := ift e hb_4
      have hp_4 := hb_4
      try simp only [inB_t, inB_f, decide_eq_true_eq, decide_eq_false_iff_not, Bool.and_eq_true, Bool.or_eq_true, Bool.and_eq_false_iff, Bool.or_eq_false_iff, Bool.not_eq_true', Bool.not_eq_false', Bool.not_eq_eq_eq_not, Bool.not_true, Bool.not_false] at hp_4
      exact b_one (s_ret (ev_cats (ev_cutS (ev_var 0 rfl r0) eo_none (eo_some (ev_var 3 rfl r_2_3)) (by walk_at "vc")) (ev_cutS (ev_var 0 rfl r0) (eo_some (ev_add (ev_var 3 rfl r_2_3) ev_int)) eo_none (by walk_at "vc")) (by have h1 := cutS_le _law_text none (some s_2); have h2 := cutS_le _law_text (some s_2) none; have h3 := cutS_le _law_text (some (s_2 + 1)) none; have h := pre.1; exact sz_of (by clear e; omega))) W.fh fun v F1 H1 w1 r1 => q v F1 H1 (W.trans w1) (rep_eq r1 e))
    · --
      have W := W.trans w_4
      have r0 := Rep.mono w_4.ff r0
      have r1 := Rep.mono w_4.ff r1
      have r2 := Rep.mono w_4.ff r2
      have r_2_3 := Rep.mono w_4.ff r_2_3
      have e := MP.iff e hb_4
      have hp_4 := hb_4
      try simp only [inB_t, inB_f, decide_eq_true_eq, decide_eq_false_iff_not, Bool.and_eq_true, Bool.or_eq_true, Bool.and_eq_false_iff, Bool.or_eq_false_iff, Bool.not_eq_true', Bool.not_eq_false', Bool.not_eq_eq_eq_not, Bool.not_true, Bool.not_false] at hp_4
      refine b_nil ?_
      refine b_cons (s_if (et_cmp op_eq rr_eqI (ev_mod (ev_var 1 rfl r1) ev_int (by decide)) ev_int) W.fh (fun hb_5 F_5 H_5 w_5 => ?_) (fun hb_5 F_5 H_5 w_5 => ?_))
      · --
        have W := W.trans w_5
        have r0 := Rep.mono w_5.ff r0
        have r1 := Rep.mono w_5.ff r1
        have r2 := Rep.mono w_5.ff r2
        have r_2_3 := Rep.mono w_5.ff r_2_3
        have e := ift e hb_5
        have hp_5 := hb_5
        try simp only [inB_t, inB_f, decide_eq_true_eq, decide_eq_false_iff_not, Bool.and_eq_true, Bool.or_eq_true, Bool.and_eq_false_iff, Bool.or_eq_false_iff, Bool.not_eq_true', Bool.not_eq_false', Bool.not_eq_eq_eq_not, Bool.not_true, Bool.not_false] at hp_5
        exact b_one (s_ret (ev_cats (ev_cats (ev_cutS (ev_var 0 rfl r0) eo_none (eo_some (ev_var 3 rfl r_2_3)) (by walk_at "vc")) (ev_sgn ev_str (ev_mod (ev_div (ev_var 1 rfl r1) ev_int ⟨by decide, by decide⟩) ev_int (by decide)) (by rw [len14]; exact sz_of (by decide)) (by rw [len14]; exact mod_ix (n := 14) (by decide))) (by have h1 := cutS_le _law_text none (some s_2); have h2 := cutS_le _law_text (some s_2) none; have h3 := cutS_le _law_text (some (s_2 + 1)) none; have h := pre.1; rw [sgn_len]; exact sz_of (by clear e; omega))) (ev_cutS (ev_var 0 rfl r0) (eo_some (ev_var 3 rfl r_2_3)) eo_none (by walk_at "vc")) (by have h1 := cutS_le _law_text none (some s_2); have h2 := cutS_le _law_text (some s_2) none; have h3 := cutS_le _law_text (some (s_2 + 1)) none; have h := pre.1; rw [len_app, sgn_len]; exact sz_of (by clear e; omega))) W.fh fun v F1 H1 w1 r1 => q v F1 H1 (W.trans w1) (rep_eq r1 e))
      · --
        have W := W.trans w_5
        have r0 := Rep.mono w_5.ff r0
        have r1 := Rep.mono w_5.ff r1
        have r2 := Rep.mono w_5.ff r2
        have r_2_3 := Rep.mono w_5.ff r_2_3
        have e := MP.iff e hb_5
        have hp_5 := hb_5
        try simp only [inB_t, inB_f, decide_eq_true_eq, decide_eq_false_iff_not, Bool.and_eq_true, Bool.or_eq_true, Bool.and_eq_false_iff, Bool.or_eq_false_iff, Bool.not_eq_true', Bool.not_eq_false', Bool.not_eq_eq_eq_not, Bool.not_true, Bool.not_false] at hp_5
        refine b_nil ?_
        exact b_one (s_ret (ev_cats (ev_cats (ev_cutS (ev_var 0 rfl r0) eo_none (eo_some (ev_var 3 rfl r_2_3)) (by walk_at "vc")) (ev_call1 pass0 (hr.mono (by decide)) C__law_sign_by (ev_div (ev_var 1 rfl r1) ev_int ⟨by decide, by decide⟩) trivial) (by have h1 := cutS_le _law_text none (some s_2); have h2 := cutS_le _law_text (some s_2) none; have h3 := cutS_le _law_text (some (s_2 + 1)) none; have h := pre.1; rw [sgnby_len]; exact sz_of (by clear e; omega))) (ev_cutS (ev_var 0 rfl r0) (eo_some (ev_var 3 rfl r_2_3)) eo_none (by walk_at "vc")) (by have h1 := cutS_le _law_text none (some s_2); have h2 := cutS_le _law_text (some s_2) none; have h3 := cutS_le _law_text (some (s_2 + 1)) none; have h := pre.1; rw [len_app, sgnby_len]; exact sz_of (by clear e; omega))) W.fh fun v F1 H1 w1 r1 => q v F1 H1 (W.trans w1) (rep_eq r1 e))
abbrev s__law_odd_line : Stmt := topS 47
theorem sc__law_odd_line : FnScope ["_law_cell", "_law_some"] ["_law_cell"] (defScope s__law_odd_line) := ⟨rfl, rfl, rfl, by decide +kernel, rfl, by decide +kernel, by decide +kernel⟩
theorem ok__law_odd_line {f : Addr} {fd : FuncData} (Fd : Fun K "_law_odd_line" "_law_odd_line" s__law_odd_line f fd) (B : Bt mg) : FnOk P w K mg base CX0 1 f fd ["_law_cell"] (sp1 K (fun _ => True) m__law_odd_line (oF K)) := by
  refine Fd.ok sc__law_odd_line (fun vs H Q E h => ?_) (fun cdv A outer s H vs Q E hr h => ⟨_, bw_pss, ?_⟩)
  · obtain ⟨_, _, _, rfl, _⟩ := h
    rfl
  · obtain ⟨F, _law_cell, v0, rfl, fh, r0, pre, q⟩ := h
    have nd := (sc__law_odd_line).nd
    have W := Wk.refl fh
    have e : m__law_odd_line _law_cell = _ := rfl
    conv at e => rhs; unfold m__law_odd_line
    unfold L2.start
    refine b_cons (s_asg 1 nd (EvN.ev (evn_lst (el_cons ev_str (el_cons ev_str (el_cons ev_str (el_cons ev_str (el_cons ev_str (el_cons ev_str (el_cons ev_str (el_cons ev_str (el_cons ev_str (el_cons ev_str (el_cons ev_str (el_cons ev_str (el_cons ev_str el_nil))))))))))))) (by decide : (13 : Nat) ≤ sizeLine))) W.fh fun v_1 F_1 H_1 w_1 r_1 => ?_)
    have W := W.trans w_1
    have r0 := Rep.mono w_1.ff r0
    obtain ⟨_law_some_1, e_1⟩ : ∃ y, y = [("" : Str), ("3" : Str), ("3:" : Str), ("3: " : Str), (": 0" : Str), (" 3: 0" : Str), ("3 : 0" : Str), ("3:0" : Str), ("3: 0,1" : Str), ("3: 0 ,1" : Str), ("3:  0" : Str), ("3: 0, " : Str), ("3: -, -" : Str)] := ⟨_, rfl⟩
    have r_1 := rep_eq r_1 e_1
    have e := bnd_eq e e_1
    refine b_cons (s_asg 1 nd (EvN.ev (evn_cat (ev_var 1 rfl r_1) (EvN.ev (evn_lst (el_cons ev_str (el_cons ev_str (el_cons ev_str (el_cons ev_str (el_cons ev_str (el_cons ev_str (el_cons ev_str el_nil))))))) (by decide : (7 : Nat) ≤ sizeLine))) (by rw [e_1]; exact sz_of (by decide)))) W.fh fun v_2 F_2 H_2 w_2 r_2 => ?_)
    have W := W.trans w_2
    have r0 := Rep.mono w_2.ff r0
    obtain ⟨_law_some_2, e_2⟩ : ∃ y, y = (_law_some_1 ++ [("3: 0 1,  1 2" : Str), ("03: 0" : Str), ("3: 00" : Str), ("3: +1" : Str), ("3: --" : Str), ("3: 0 -" : Str), ("3: 0: 1" : Str)]) := ⟨_, rfl⟩
    have r_2 := rep_eq r_2 e_2
    have e := bnd_eq e e_2
    exact b_one (s_ret (ev_ixL (ev_var 1 rfl r_2) (ev_mod (ev_var 0 rfl r0) ev_int (by decide)) (by exact odd_ix _ (by rw [e_2, e_1]; rfl))) W.fh fun v F1 H1 w1 r1 => q v F1 H1 (W.trans w1) (rep_eq r1 e))
abbrev s__law_number : Stmt := topS 40
theorem sc__law_number : FnScope ["_law_word", "_law_sign"] ["_law_word"] (defScope s__law_number) := ⟨rfl, rfl, rfl, by decide +kernel, rfl, by decide +kernel, by decide +kernel⟩
theorem ok__law_number {f : Addr} {fd : FuncData} (Fd : Fun K "_law_number" "_law_number" s__law_number f fd) (B : Bt mg) : FnOk P w K mg base CX0 1 f fd ["_law_word"] (sp1 K pre__law_number m__law_number (oF K)) := by
  refine Fd.ok sc__law_number (fun vs H Q E h => ?_) (fun cdv A outer s H vs Q E hr h => ⟨_, bw_pss, ?_⟩)
  · obtain ⟨_, _, _, rfl, _⟩ := h
    rfl
  · obtain ⟨F, _law_word, v0, rfl, fh, r0, pre, q⟩ := h
    have nd := (sc__law_number).nd
    have W := Wk.refl fh
    have e : m__law_number _law_word = _ := rfl
    conv at e => rhs; unfold m__law_number
    unfold L2.start
    unfold pre__law_number at pre
    refine b_cons (s_if (et_w (ew_or (et_cmp op_eq rr_eqS (ev_var 0 rfl r0) ev_str) fun hs1 => (ew_or (et_cmp op_gt rr_gtI (ev_lens B.len (ev_var 0 rfl r0) (by have q0 := hs1; walk_at "vc")) ev_int) fun hs2 => (ew_or1 (et_w (ew_and (et_cmp op_eq rr_eqI (ev_lens B.len (ev_var 0 rfl r0) (by have q0 := hs1; have q1 := hs2; walk_at "vc")) ev_int) fun hs3 => (ew_and1 (et_cmp op_eq rr_eqS (ev_sgn (ev_var 0 rfl r0) ev_int (by have q0 := hs1; have q1 := hs2; have q2 := hs3; walk_at "vc") (by have q0 := hs1; have q1 := hs2; have q2 := hs3; walk_at "vc")) ev_str)))))))) W.fh (fun hb_6 F_6 H_6 w_6 => ?_) (fun hb_6 F_6 H_6 w_6 => ?_))
    · --
      have W := W.trans w_6
      have r0 := Rep.mono w_6.ff r0
      have e := ift e hb_6
      have hp_6 := hb_6
      try simp only [inB_t, inB_f, decide_eq_true_eq, decide_eq_false_iff_not, Bool.and_eq_true, Bool.or_eq_true, Bool.and_eq_false_iff, Bool.or_eq_false_iff, Bool.not_eq_true', Bool.not_eq_false', Bool.not_eq_eq_eq_not, Bool.not_true, Bool.not_false] at hp_6
      exact b_one (s_ret (ev_neg ev_int) W.fh fun v F1 H1 w1 r1 => q v F1 H1 (W.trans w1) (rep_eq r1 e))
    · --
      have W := W.trans w_6
      have r0 := Rep.mono w_6.ff r0
      have e := MP.iff e hb_6
      have hp_6 := hb_6
      try simp only [inB_t, inB_f, decide_eq_true_eq, decide_eq_false_iff_not, Bool.and_eq_true, Bool.or_eq_true, Bool.and_eq_false_iff, Bool.or_eq_false_iff, Bool.not_eq_true', Bool.not_eq_false', Bool.not_eq_eq_eq_not, Bool.not_true, Bool.not_false] at hp_6
      refine b_nil ?_
      refine b_cons (s_for (S := Unit) (xs := (signs _law_word)) (fun i s_7 σ F' H' => ∃ (z_7_1 : Option V), σ = [some v0, z_7_1] ∧ Wk F H F' H' ∧ Same F_6 F' ∧ SgnI _law_word i) PassesOwn.never rfl (ei_signs (ev_var 0 rfl r0) (by walk_at "vc")) W.fh (pg_name (i := 1) nd rfl (by first | exact .inl rfl | exact .inr rfl)) ?h0_7 ?hs_7 e ?turn_7 ?done_7)
      case h0_7 => exact fun F1 H1 w1 => ⟨_, rfl, W.trans w1, w1.ff, sgnI0⟩
      case hs_7 =>
        intro i s_7 σ F' H' hB
        obtain ⟨z_7_1, rfl, W, SM7, inv⟩ := hB
        have r0 := Rep.mono SM7 r0
        exact W.fh
      case turn_7 =>
        intro i _law_sign_7 s_7 σ F_7 H_7 v_7 kk hx_7 hB rx_7 e
        have hm_7 := List.mem_of_getElem? hx_7
        have hi_7 := (List.getElem?_eq_some_iff.mp hx_7).1
        obtain ⟨z_7_1, rfl, W, SM7, inv⟩ := hB
        have r0 := Rep.mono SM7 r0
        have ST7 := Same.refl F_7
        refine b_one (s_if (et_cmp op_notIn_sign (rr_notInS (by exact signs_one hm_7)) (ev_var 1 rfl rx_7) ev_str) W.fh (fun hb_8 F_8 H_8 w_8 => ?_) (fun hb_8 F_8 H_8 w_8 => ?_))
        · --
          have W := W.trans w_8
          have SM7 := SM7.trans w_8.ff
          have ST7 := ST7.trans w_8.ff
          have r0 := Rep.mono w_8.ff r0
          have rx_7 := Rep.mono w_8.ff rx_7
          have e := ift e hb_8
          have hp_8 := hb_8
          try simp only [inB_t, inB_f, decide_eq_true_eq, decide_eq_false_iff_not, Bool.and_eq_true, Bool.or_eq_true, Bool.and_eq_false_iff, Bool.or_eq_false_iff, Bool.not_eq_true', Bool.not_eq_false', Bool.not_eq_eq_eq_not, Bool.not_true, Bool.not_false] at hp_8
          exact b_one (s_ret (ev_neg ev_int) W.fh fun v F1 H1 w1 r1 => q v F1 H1 (W.trans w1) (rep_eq r1 e))
        · --
          have W := W.trans w_8
          have SM7 := SM7.trans w_8.ff
          have ST7 := ST7.trans w_8.ff
          have r0 := Rep.mono w_8.ff r0
          have rx_7 := Rep.mono w_8.ff rx_7
          have e := MP.iff e hb_8
          have hp_8 := hb_8
          try simp only [inB_t, inB_f, decide_eq_true_eq, decide_eq_false_iff_not, Bool.and_eq_true, Bool.or_eq_true, Bool.and_eq_false_iff, Bool.or_eq_false_iff, Bool.not_eq_true', Bool.not_eq_false', Bool.not_eq_eq_eq_not, Bool.not_true, Bool.not_false] at hp_8
          refine b_nil ?_
          exact ⟨(), _, ST7, ⟨_, rfl, W, SM7, (sgnI1 inv hx_7 (by simpa using hp_8))⟩, e⟩
      case done_7 =>
        intro s_7 σ F_7 H_7 hB e
        obtain ⟨z_7_1, rfl, W, SM7, inv⟩ := hB
        have r0 := Rep.mono SM7 r0
        exact b_one (s_ret (ev_intS B.int (ev_var 0 rfl r0) (by exact figs_ok hp_6.1 hp_6.2.1 inv) (by walk_at "vc")) W.fh fun v F1 H1 w1 r1 => q v F1 H1 (W.trans w1) (rep_eq r1 e))
abbrev s__law_part : Stmt := topS 41
theorem sc__law_part : FnScope ["_law_part_here", "_law_word"] ["_law_part_here"] (defScope s__law_part) := ⟨rfl, rfl, rfl, by decide +kernel, rfl, by decide +kernel, by decide +kernel⟩
theorem ok__law_part {f : Addr} {fd : FuncData} (Fd : Fun K "_law_part" "_law_part" s__law_part f fd) (B : Bt mg) (C__law_number : Cal P w K mg base CX0 1 "_law_number" ["_law_word"] (sp1 K pre__law_number m__law_number (oF K))) : FnOk P w K mg base CX0 2 f fd ["_law_part_here"] (sp1 K pre__law_part m__law_part (oF K)) := by
  refine Fd.ok sc__law_part (fun vs H Q E h => ?_) (fun cdv A outer s H vs Q E hr h => ⟨_, bw_pss, ?_⟩)
  · obtain ⟨_, _, _, rfl, _⟩ := h
    rfl
  · obtain ⟨F, _law_part_here, v0, rfl, fh, r0, pre, q⟩ := h
    have nd := (sc__law_part).nd
    have W := Wk.refl fh
    have e : m__law_part _law_part_here = _ := rfl
    conv at e => rhs; unfold m__law_part
    unfold L2.start
    unfold pre__law_part at pre
    refine b_cons (s_if (et_cmp op_eq rr_eqS (ev_var 0 rfl r0) ev_str) W.fh (fun hb_1 F_1 H_1 w_1 => ?_) (fun hb_1 F_1 H_1 w_1 => ?_))
    · --
      have W := W.trans w_1
      have r0 := Rep.mono w_1.ff r0
      have e := ift e hb_1
      have hp_1 := hb_1
      try simp only [inB_t, inB_f, decide_eq_true_eq, decide_eq_false_iff_not, Bool.and_eq_true, Bool.or_eq_true, Bool.and_eq_false_iff, Bool.or_eq_false_iff, Bool.not_eq_true', Bool.not_eq_false', Bool.not_eq_eq_eq_not, Bool.not_true, Bool.not_false] at hp_1
      exact b_one (s_ret (EvN.ev (evn_nil (α := Int))) W.fh fun v F1 H1 w1 r1 => q v F1 H1 (W.trans w1) (rep_eq r1 e))
    · --
      have W := W.trans w_1
      have r0 := Rep.mono w_1.ff r0
      have e := MP.iff e hb_1
      have hp_1 := hb_1
      try simp only [inB_t, inB_f, decide_eq_true_eq, decide_eq_false_iff_not, Bool.and_eq_true, Bool.or_eq_true, Bool.and_eq_false_iff, Bool.or_eq_false_iff, Bool.not_eq_true', Bool.not_eq_false', Bool.not_eq_eq_eq_not, Bool.not_true, Bool.not_false] at hp_1
      refine b_nil ?_
      exact b_one (s_ret (EvN.ev (EvC.evn rfl nd (evn_lcS 1 nd (ei_list (EvN.ev (evn_split (ev_var 0 rfl r0) ev_str (by decide) (by walk_at "vc")))) (fun _law_word_2 m_2 u_2 F_2 H_2 w_2 r_2 _ _ _ _ _ => (ev_call1 pass0 (hr.mono (by decide)) C__law_number (ev_var 1 rfl r_2) (by exact Nat.le_trans (part_blank m_2) pre)))))) W.fh fun v F1 H1 w1 r1 => q v F1 H1 (W.trans w1) (rep_eq r1 e))
abbrev s__law_read : Stmt := topS 42
theorem sc__law_read : FnScope ["_law_text", "_law_at", "_law_table_here", "_law_part_here", "_law_choice"] ["_law_text"] (defScope s__law_read) := ⟨rfl, rfl, rfl, by decide +kernel, rfl, by decide +kernel, by decide +kernel⟩
theorem ok__law_read {f : Addr} {fd : FuncData} (Fd : Fun K "_law_read" "_law_read" s__law_read f fd) (B : Bt mg) (C__law_number : Cal P w K mg base CX0 1 "_law_number" ["_law_word"] (sp1 K pre__law_number m__law_number (oF K))) (C__law_part : Cal P w K mg base CX0 2 "_law_part" ["_law_part_here"] (sp1 K pre__law_part m__law_part (oF K))) : FnOk P w K mg base CX0 3 f fd ["_law_text"] (sp1 K pre__law_read m__law_read (oF K)) := by
  refine Fd.ok sc__law_read (fun vs H Q E h => ?_) (fun cdv A outer s H vs Q E hr h => ⟨_, bw_pss, ?_⟩)
  · obtain ⟨_, _, _, rfl, _⟩ := h
    rfl
  · obtain ⟨F, _law_text, v0, rfl, fh, r0, pre, q⟩ := h
    have nd := (sc__law_read).nd
    have W := Wk.refl fh
    have e : m__law_read _law_text = _ := rfl
    conv at e => rhs; unfold m__law_read
    unfold L2.start
    unfold pre__law_read at pre
    refine b_cons (s_asg 1 nd (ev_find (ev_var 0 rfl r0) ev_str) W.fh fun v_1 F_1 H_1 w_1 r_1 => ?_)
    have W := W.trans w_1
    have r0 := Rep.mono w_1.ff r0
    obtain ⟨_law_at_1, e_1⟩ : ∃ y, y = (Txt.find _law_text (": " : Str)) := ⟨_, rfl⟩
    have r_1 := rep_eq r_1 e_1
    have e := bnd_eq e e_1
    refine b_cons (s_if (et_w (ew_or (et_cmp op_lt rr_ltI (ev_var 1 rfl r_1) ev_int) fun hs2 => (ew_or (et_cmp op_ge rr_geI (ev_find (ev_cutS (ev_var 0 rfl r0) (eo_some (ev_add (ev_var 1 rfl r_1) ev_int)) eo_none (by have q0 := hs2; walk_at "vc")) ev_str) ev_int) fun hs3 => (ew_or1 (et_cmp op_lt rr_ltI (ev_call1 pass0 (hr.mono (by decide)) C__law_number (ev_cutS (ev_var 0 rfl r0) eo_none (eo_some (ev_var 1 rfl r_1)) (by have q0 := hs2; have q1 := hs3; walk_at "vc")) (by unfold pre__law_number; have h := cutS_le _law_text none (some _law_at_1); clear e; omega)) ev_int))))) W.fh (fun hb_5 F_5 H_5 w_5 => ?_) (fun hb_5 F_5 H_5 w_5 => ?_))
    · --
      have W := W.trans w_5
      have r0 := Rep.mono w_5.ff r0
      have r_1 := Rep.mono w_5.ff r_1
      have e := ift e hb_5
      have hp_5 := hb_5
      try simp only [inB_t, inB_f, decide_eq_true_eq, decide_eq_false_iff_not, Bool.and_eq_true, Bool.or_eq_true, Bool.and_eq_false_iff, Bool.or_eq_false_iff, Bool.not_eq_true', Bool.not_eq_false', Bool.not_eq_eq_eq_not, Bool.not_true, Bool.not_false] at hp_5
      exact b_one (s_ret ev_non W.fh fun v F1 H1 w1 r1 => q v F1 H1 (W.trans w1) (rep_eq r1 e))
    · --
      have W := W.trans w_5
      have r0 := Rep.mono w_5.ff r0
      have r_1 := Rep.mono w_5.ff r_1
      have e := MP.iff e hb_5
      have hp_5 := hb_5
      try simp only [inB_t, inB_f, decide_eq_true_eq, decide_eq_false_iff_not, Bool.and_eq_true, Bool.or_eq_true, Bool.and_eq_false_iff, Bool.or_eq_false_iff, Bool.not_eq_true', Bool.not_eq_false', Bool.not_eq_eq_eq_not, Bool.not_true, Bool.not_false] at hp_5
      refine b_nil ?_
      refine b_cons (s_asgCv 2 nd (evn_lcS 3 nd (ei_list (EvN.ev (evn_split (ev_cutS (ev_var 0 rfl r0) (eo_some (ev_add (ev_var 1 rfl r_1) ev_int)) eo_none (by walk_at "vc")) ev_str (by decide) (by have h := cutS_le _law_text (some (_law_at_1 + 2)) none; exact sz_of (by clear e; omega))))) (fun _law_part_here_6 m_6 u_6 F_6 H_6 w_6 r_6 _ _ _ _ _ => (ev_call1 pass0 (hr.mono (by decide)) C__law_part (ev_var 3 rfl r_6) (by unfold pre__law_part; have h := part_comma m_6; have h2 := cutS_le _law_text (some (_law_at_1 + 2)) none; clear e; omega)))) W.fh fun v_7 F_7 H_7 w_7 r_7 => ?_)
      have W := W.trans w_7
      have r0 := Rep.mono w_7.ff r0
      have r_1 := Rep.mono w_7.ff r_1
      obtain ⟨_law_table_here_7, e_7⟩ : ∃ y, y = ((Txt.split (cutS _law_text (some (_law_at_1 + (2 : Int))) none) (", " : Str)).map fun (_law_part_here_6 : Str) => (m__law_part _law_part_here_6)) := ⟨_, rfl⟩
      have r_7 := rep_eq r_7 e_7
      have e := bnd_eq e e_7
      refine b_cons (s_for (S := Unit) (xs := _law_table_here_7) (fun i s_8 σ F' H' => ∃ (z_8_4 : Option V), σ = [some v0, some v_1, some v_7, none, z_8_4] ∧ Wk F H F' H' ∧ Same F_7 F') PassesOwn.never rfl (ei_list (ev_var 2 rfl r_7)) W.fh (pg_name (i := 4) nd rfl (by first | exact .inl rfl | exact .inr rfl)) ?h0_8 ?hs_8 e ?turn_8 ?done_8)
      case h0_8 => exact fun F1 H1 w1 => ⟨_, rfl, W.trans w1, w1.ff⟩
      case hs_8 =>
        intro i s_8 σ F' H' hB
        obtain ⟨z_8_4, rfl, W, SM8⟩ := hB
        have r0 := Rep.mono SM8 r0
        have r_1 := Rep.mono SM8 r_1
        have r_7 := Rep.mono SM8 r_7
        exact W.fh
      case turn_8 =>
        intro i _law_choice_8 s_8 σ F_8 H_8 v_8 kk hx_8 hB rx_8 e
        have hm_8 := List.mem_of_getElem? hx_8
        have hi_8 := (List.getElem?_eq_some_iff.mp hx_8).1
        obtain ⟨z_8_4, rfl, W, SM8⟩ := hB
        have r0 := Rep.mono SM8 r0
        have r_1 := Rep.mono SM8 r_1
        have r_7 := Rep.mono SM8 r_7
        have ST8 := Same.refl F_8
        refine b_one (s_if (et_cmp (op_inD (hu65 hr)) rr_in (ev_neg ev_int) (ev_var 4 rfl rx_8)) W.fh (fun hb_9 F_9 H_9 w_9 => ?_) (fun hb_9 F_9 H_9 w_9 => ?_))
        · --
          have W := W.trans w_9
          have SM8 := SM8.trans w_9.ff
          have ST8 := ST8.trans w_9.ff
          have r0 := Rep.mono w_9.ff r0
          have r_1 := Rep.mono w_9.ff r_1
          have r_7 := Rep.mono w_9.ff r_7
          have rx_8 := Rep.mono w_9.ff rx_8
          have e := ift e hb_9
          have hp_9 := hb_9
          try simp only [inB_t, inB_f, decide_eq_true_eq, decide_eq_false_iff_not, Bool.and_eq_true, Bool.or_eq_true, Bool.and_eq_false_iff, Bool.or_eq_false_iff, Bool.not_eq_true', Bool.not_eq_false', Bool.not_eq_eq_eq_not, Bool.not_true, Bool.not_false] at hp_9
          exact b_one (s_ret ev_non W.fh fun v F1 H1 w1 r1 => q v F1 H1 (W.trans w1) (rep_eq r1 e))
        · --
          have W := W.trans w_9
          have SM8 := SM8.trans w_9.ff
          have ST8 := ST8.trans w_9.ff
          have r0 := Rep.mono w_9.ff r0
          have r_1 := Rep.mono w_9.ff r_1
          have r_7 := Rep.mono w_9.ff r_7
          have rx_8 := Rep.mono w_9.ff rx_8
          have e := MP.iff e hb_9
          have hp_9 := hb_9
          try simp only [inB_t, inB_f, decide_eq_true_eq, decide_eq_false_iff_not, Bool.and_eq_true, Bool.or_eq_true, Bool.and_eq_false_iff, Bool.or_eq_false_iff, Bool.not_eq_true', Bool.not_eq_false', Bool.not_eq_eq_eq_not, Bool.not_true, Bool.not_false] at hp_9
          refine b_nil ?_
          exact ⟨(), _, ST8, ⟨_, rfl, W, SM8⟩, e⟩
      case done_8 =>
        intro s_8 σ F_8 H_8 hB e
        obtain ⟨z_8_4, rfl, W, SM8⟩ := hB
        have r0 := Rep.mono SM8 r0
        have r_1 := Rep.mono SM8 r_1
        have r_7 := Rep.mono SM8 r_7
        exact b_one (s_ret (Ev.some (ev_pair (ea2 (ev_call1 pass0 (hr.mono (by decide)) C__law_number (ev_cutS (ev_var 0 rfl r0) eo_none (eo_some (ev_var 1 rfl r_1)) (by walk_at "vc")) (by unfold pre__law_number; have h := cutS_le _law_text none (some _law_at_1); clear e; omega)) (ev_var 2 rfl r_7)))) W.fh fun v F1 H1 w1 r1 => q v F1 H1 (W.trans w1) (rep_eq r1 e))
abbrev s__law_sound : Stmt := topS 43
theorem sc__law_sound : FnScope ["_law_count", "_law_choice", "_law_k"] ["_law_count", "_law_choice"] (defScope s__law_sound) := ⟨rfl, rfl, rfl, by decide +kernel, rfl, by decide +kernel, by decide +kernel⟩
theorem ok__law_sound {f : Addr} {fd : FuncData} (Fd : Fun K "_law_sound" "_law_sound" s__law_sound f fd) (B : Bt mg) : FnOk P w K mg base CX0 1 f fd ["_law_count", "_law_choice"] (sp2 K (fun _ _ => True) m__law_sound (oF K)) := by
  refine Fd.ok sc__law_sound (fun vs H Q E h => ?_) (fun cdv A outer s H vs Q E hr h => ⟨_, bw_pss, ?_⟩)
  · obtain ⟨_, _, _, _, _, rfl, _⟩ := h
    rfl
  · obtain ⟨F, _law_count, _law_choice, v0, v1, rfl, fh, r0, r1, pre, q⟩ := h
    have nd := (sc__law_sound).nd
    have W := Wk.refl fh
    have e : m__law_sound _law_count _law_choice = _ := rfl
    conv at e => rhs; unfold m__law_sound
    unfold L2.start
    refine b_cons (s_for (S := Unit) (xs := (rng 0 (_law_choice.length : Int))) (fun i s_1 σ F' H' => ∃ (z_1_2 : Option V), σ = [some v0, some v1, z_1_2] ∧ Wk F H F' H' ∧ Same F F') PassesOwn.never rfl (ei_range1 B.range (ev_len B.len (ev_var 1 rfl r1)) (by have := rep_len r1; rw [sizeLine_eq] at this; clear e; omega)) W.fh (pg_name (i := 2) nd rfl (by first | exact .inl rfl | exact .inr rfl)) ?h0_1 ?hs_1 e ?turn_1 ?done_1)
    case h0_1 => exact fun F1 H1 w1 => ⟨_, rfl, W.trans w1, w1.ff⟩
    case hs_1 =>
      intro i s_1 σ F' H' hB
      obtain ⟨z_1_2, rfl, W, SM1⟩ := hB
      have r0 := Rep.mono SM1 r0
      have r1 := Rep.mono SM1 r1
      exact W.fh
    case turn_1 =>
      intro i _law_k_1 s_1 σ F_1 H_1 v_1 kk hx_1 hB rx_1 e
      have hm_1 := List.mem_of_getElem? hx_1
      have hi_1 := (List.getElem?_eq_some_iff.mp hx_1).1
      have hr_1 := rng_mem.mp hm_1
      have hg_1 := rng_get hx_1
      obtain ⟨z_1_2, rfl, W, SM1⟩ := hB
      have r0 := Rep.mono SM1 r0
      have r1 := Rep.mono SM1 r1
      have ST1 := Same.refl F_1
      refine b_one (s_if (et_w (ew_or (et_cmp op_ge rr_geI (ev_ixL (ev_var 1 rfl r1) (ev_var 2 rfl rx_1) (by walk_at "vc")) (ev_var 0 rfl r0)) fun hs2 => (ew_or1 (et_cmp (op_inD (hu65 hr)) rr_in (ev_ixL (ev_var 1 rfl r1) (ev_var 2 rfl rx_1) (by have q0 := hs2; walk_at "vc")) (EvN.ev (evn_slice (ev_var 1 rfl r1) eo_none (eo_some (ev_var 2 rfl rx_1)))))))) W.fh (fun hb_4 F_4 H_4 w_4 => ?_) (fun hb_4 F_4 H_4 w_4 => ?_))
      · --
        have W := W.trans w_4
        have SM1 := SM1.trans w_4.ff
        have ST1 := ST1.trans w_4.ff
        have r0 := Rep.mono w_4.ff r0
        have r1 := Rep.mono w_4.ff r1
        have rx_1 := Rep.mono w_4.ff rx_1
        have e := ift e hb_4
        have hp_4 := hb_4
        try simp only [inB_t, inB_f, decide_eq_true_eq, decide_eq_false_iff_not, Bool.and_eq_true, Bool.or_eq_true, Bool.and_eq_false_iff, Bool.or_eq_false_iff, Bool.not_eq_true', Bool.not_eq_false', Bool.not_eq_eq_eq_not, Bool.not_true, Bool.not_false] at hp_4
        exact b_one (s_ret ev_bl W.fh fun v F1 H1 w1 r1 => q v F1 H1 (W.trans w1) (rep_eq r1 e))
      · --
        have W := W.trans w_4
        have SM1 := SM1.trans w_4.ff
        have ST1 := ST1.trans w_4.ff
        have r0 := Rep.mono w_4.ff r0
        have r1 := Rep.mono w_4.ff r1
        have rx_1 := Rep.mono w_4.ff rx_1
        have e := MP.iff e hb_4
        have hp_4 := hb_4
        try simp only [inB_t, inB_f, decide_eq_true_eq, decide_eq_false_iff_not, Bool.and_eq_true, Bool.or_eq_true, Bool.and_eq_false_iff, Bool.or_eq_false_iff, Bool.not_eq_true', Bool.not_eq_false', Bool.not_eq_eq_eq_not, Bool.not_true, Bool.not_false] at hp_4
        refine b_nil ?_
        exact ⟨(), _, ST1, ⟨_, rfl, W, SM1⟩, e⟩
    case done_1 =>
      intro s_1 σ F_1 H_1 hB e
      obtain ⟨z_1_2, rfl, W, SM1⟩ := hB
      have r0 := Rep.mono SM1 r0
      have r1 := Rep.mono SM1 r1
      exact b_one (s_ret ev_bl W.fh fun v F1 H1 w1 r1 => q v F1 H1 (W.trans w1) (rep_eq r1 e))
abbrev s__law_due : Stmt := topS 44
theorem sc__law_due : FnScope ["_law_told_here", "_law_choice"] ["_law_told_here"] (defScope s__law_due) := ⟨rfl, rfl, rfl, by decide +kernel, rfl, by decide +kernel, by decide +kernel⟩
theorem ok__law_due {f : Addr} {fd : FuncData} (Fd : Fun K "_law_due" "_law_due" s__law_due f fd) (B : Bt mg) (C__law_sound : Cal P w K mg base CX0 1 "_law_sound" ["_law_count", "_law_choice"] (sp2 K (fun _ _ => True) m__law_sound (oF K))) (C__law_fault : Cal P w K mg base CX0 2 "_law_fault" ["_law_count", "_law_table_here"] (sp2 K pre__law_faultM m__law_fault (oF K))) : FnOk P w K mg base CX0 3 f fd ["_law_told_here"] (sp1 K pre__law_due m__law_due (oF K)) := by
  refine Fd.ok sc__law_due (fun vs H Q E h => ?_) (fun cdv A outer s H vs Q E hr h => ⟨_, bw_pss, ?_⟩)
  · obtain ⟨_, _, _, rfl, _⟩ := h
    rfl
  · obtain ⟨F, _law_told_here, v0, rfl, fh, r0, pre, q⟩ := h
    have nd := (sc__law_due).nd
    have W := Wk.refl fh
    have e : m__law_due _law_told_here = _ := rfl
    conv at e => rhs; unfold m__law_due
    unfold L2.start
    unfold pre__law_due at pre
    refine b_cons (s_if (et_cmp op_isN (rr_isN (fun _ _ _ => nn_pair)) (ev_var 0 rfl r0) ev_non_) W.fh (fun hb_1 F_1 H_1 w_1 => ?_) (fun hb_1 F_1 H_1 w_1 => ?_))
    · --
      have W := W.trans w_1
      have r0 := Rep.mono w_1.ff r0
      have e := ift e hb_1
      have hp_1 := hb_1
      try simp only [inB_t, inB_f, decide_eq_true_eq, decide_eq_false_iff_not, Bool.and_eq_true, Bool.or_eq_true, Bool.and_eq_false_iff, Bool.or_eq_false_iff, Bool.not_eq_true', Bool.not_eq_false', Bool.not_eq_eq_eq_not, Bool.not_true, Bool.not_false] at hp_1
      exact b_one (s_ret ev_int W.fh fun v F1 H1 w1 r1 => q v F1 H1 (W.trans w1) (rep_eq r1 e))
    · --
      have W := W.trans w_1
      have r0 := Rep.mono w_1.ff r0
      have e := MP.iff e hb_1
      have hp_1 := hb_1
      try simp only [inB_t, inB_f, decide_eq_true_eq, decide_eq_false_iff_not, Bool.and_eq_true, Bool.or_eq_true, Bool.and_eq_false_iff, Bool.or_eq_false_iff, Bool.not_eq_true', Bool.not_eq_false', Bool.not_eq_eq_eq_not, Bool.not_true, Bool.not_false] at hp_1
      obtain ⟨_law_told_here_2, hx_2⟩ : ∃ t, _law_told_here = some t := some_of hb_1
      have e := bnd_eq e (optv_eq hx_2)
      have r_2 := rep_eq r0 hx_2.symm
      have r_2 : rep K _ _ _law_told_here_2 := r_2
      refine b_nil ?_
      refine b_cons (s_for (S := Unit) (xs := _law_told_here_2.2) (fun i s_3 σ F' H' => ∃ (z_3_1 : Option V), σ = [some v0, z_3_1] ∧ Wk F H F' H' ∧ Same F_1 F') PassesOwn.never rfl (ei_list (ev_snd (ev_var 0 rfl r_2))) W.fh (pg_name (i := 1) nd rfl (by first | exact .inl rfl | exact .inr rfl)) ?h0_3 ?hs_3 e ?turn_3 ?done_3)
      case h0_3 => exact fun F1 H1 w1 => ⟨_, rfl, W.trans w1, w1.ff⟩
      case hs_3 =>
        intro i s_3 σ F' H' hB
        obtain ⟨z_3_1, rfl, W, SM3⟩ := hB
        have r_2 := Rep.mono SM3 r_2
        exact W.fh
      case turn_3 =>
        intro i _law_choice_3 s_3 σ F_3 H_3 v_3 kk hx_3 hB rx_3 e
        have hm_3 := List.mem_of_getElem? hx_3
        have hi_3 := (List.getElem?_eq_some_iff.mp hx_3).1
        obtain ⟨z_3_1, rfl, W, SM3⟩ := hB
        have r_2 := Rep.mono SM3 r_2
        have ST3 := Same.refl F_3
        refine b_one (s_if (et_not (et_val (ev_call2 pass0 (hr.mono (by decide)) C__law_sound (ev_fst (ev_var 0 rfl r_2)) (ev_var 1 rfl rx_3) trivial))) W.fh (fun hb_4 F_4 H_4 w_4 => ?_) (fun hb_4 F_4 H_4 w_4 => ?_))
        · --
          have W := W.trans w_4
          have SM3 := SM3.trans w_4.ff
          have ST3 := ST3.trans w_4.ff
          have r_2 := Rep.mono w_4.ff r_2
          have rx_3 := Rep.mono w_4.ff rx_3
          have e := ift e hb_4
          have hp_4 := hb_4
          try simp only [inB_t, inB_f, decide_eq_true_eq, decide_eq_false_iff_not, Bool.and_eq_true, Bool.or_eq_true, Bool.and_eq_false_iff, Bool.or_eq_false_iff, Bool.not_eq_true', Bool.not_eq_false', Bool.not_eq_eq_eq_not, Bool.not_true, Bool.not_false] at hp_4
          exact b_one (s_ret ev_int W.fh fun v F1 H1 w1 r1 => q v F1 H1 (W.trans w1) (rep_eq r1 e))
        · --
          have W := W.trans w_4
          have SM3 := SM3.trans w_4.ff
          have ST3 := ST3.trans w_4.ff
          have r_2 := Rep.mono w_4.ff r_2
          have rx_3 := Rep.mono w_4.ff rx_3
          have e := MP.iff e hb_4
          have hp_4 := hb_4
          try simp only [inB_t, inB_f, decide_eq_true_eq, decide_eq_false_iff_not, Bool.and_eq_true, Bool.or_eq_true, Bool.and_eq_false_iff, Bool.or_eq_false_iff, Bool.not_eq_true', Bool.not_eq_false', Bool.not_eq_eq_eq_not, Bool.not_true, Bool.not_false] at hp_4
          refine b_nil ?_
          exact ⟨(), _, ST3, ⟨_, rfl, W, SM3⟩, e⟩
      case done_3 =>
        intro s_3 σ F_3 H_3 hB e
        obtain ⟨z_3_1, rfl, W, SM3⟩ := hB
        have r_2 := Rep.mono SM3 r_2
        refine b_cons (s_if (et_cmp op_notN (rr_notN (fun _ _ _ => nn_tri)) (ev_call2 pass0 (hr.mono (by decide)) C__law_fault (ev_fst (ev_var 0 rfl r_2)) (EvN.ev (EvC.evn rfl nd (evn_lc 1 nd (ei_list (ev_snd (ev_var 0 rfl r_2))) (fun _law_choice_5 m_5 u_5 F_5 H_5 w_5 r_5 _ _ _ _ _ => (EvN.ev (evn_sorted B.sorted (ev_var 1 rfl r_5))))))) (by have h := pre _ hx_2; exact ⟨h.1, h.2.1, due_rows h.2.2⟩)) ev_non_) W.fh (fun hb_6 F_6 H_6 w_6 => ?_) (fun hb_6 F_6 H_6 w_6 => ?_))
        · --
          have W := W.trans w_6
          have r_2 := Rep.mono w_6.ff r_2
          have e := ift e hb_6
          have hp_6 := hb_6
          try simp only [inB_t, inB_f, decide_eq_true_eq, decide_eq_false_iff_not, Bool.and_eq_true, Bool.or_eq_true, Bool.and_eq_false_iff, Bool.or_eq_false_iff, Bool.not_eq_true', Bool.not_eq_false', Bool.not_eq_eq_eq_not, Bool.not_true, Bool.not_false] at hp_6
          exact b_one (s_ret ev_int W.fh fun v F1 H1 w1 r1 => q v F1 H1 (W.trans w1) (rep_eq r1 e))
        · --
          have W := W.trans w_6
          have r_2 := Rep.mono w_6.ff r_2
          have e := MP.iff e hb_6
          have hp_6 := hb_6
          try simp only [inB_t, inB_f, decide_eq_true_eq, decide_eq_false_iff_not, Bool.and_eq_true, Bool.or_eq_true, Bool.and_eq_false_iff, Bool.or_eq_false_iff, Bool.not_eq_true', Bool.not_eq_false', Bool.not_eq_eq_eq_not, Bool.not_true, Bool.not_false] at hp_6
          refine b_nil ?_
          exact b_one (s_ret ev_int W.fh fun v F1 H1 w1 r1 => q v F1 H1 (W.trans w1) (rep_eq r1 e))
abbrev s_number_of : Stmt := topS 21
theorem sc_number_of : FnScope ["word", "sign"] ["word"] (defScope s_number_of) := ⟨rfl, rfl, rfl, by decide +kernel, rfl, by decide +kernel, by decide +kernel⟩
theorem ok_number_of {f : Addr} {fd : FuncData} {ec : Exn → Addr} (Fd : Fun K "number_of" "number_of" s_number_of f fd) (B : Bt mg) (X_NoRule : Ex1 K mg "NoRule" (ec .rule)) (Y_gcs_FIGURES : ∃ u, mg "FIGURES" = some u ∧ RelV (V.str "0123456789") u) : FnOk P w K mg base (L2.CX P w) 1 f fd ["word"] (sp1 K pre_number_of m_number_of (oX ec (oF K))) := by
  refine Fd.okX sc_number_of (fun vs H Q E h => ?_) (fun cdv A outer s H vs Q E hr h => ⟨_, bw_pss, ?_⟩)
  · obtain ⟨_, _, _, rfl, _⟩ := h
    rfl
  · obtain ⟨F, word, v0, rfl, fh, r0, pre, q⟩ := h
    have nd := (sc_number_of).nd
    have W := Wk.refl fh
    have e : m_number_of word = _ := rfl
    conv at e => rhs; unfold m_number_of
    unfold L2.start
    unfold pre_number_of at pre
    refine b_cons (s_if (et_w (ew_or (et_cmp op_eq rr_eqS (ev_var 0 rfl r0) ev_str) fun hs1 => (ew_or (et_cmp op_gt rr_gtI (ev_lens B.len (ev_var 0 rfl r0) (by have q0 := hs1; walk_at "vc")) ev_int) fun hs2 => (ew_or1 (et_w (ew_and (et_cmp op_eq rr_eqI (ev_lens B.len (ev_var 0 rfl r0) (by have q0 := hs1; have q1 := hs2; walk_at "vc")) ev_int) fun hs3 => (ew_and1 (et_cmp op_eq rr_eqS (ev_sgn (ev_var 0 rfl r0) ev_int (by have q0 := hs1; have q1 := hs2; have q2 := hs3; walk_at "vc") (by have q0 := hs1; have q1 := hs2; have q2 := hs3; walk_at "vc")) ev_str)))))))) W.fh (fun hb_6 F_6 H_6 w_6 => ?_) (fun hb_6 F_6 H_6 w_6 => ?_))
    · --
      have W := W.trans w_6
      have r0 := Rep.mono w_6.ff r0
      have e := ift e hb_6
      have hp_6 := hb_6
      try simp only [inB_t, inB_f, decide_eq_true_eq, decide_eq_false_iff_not, Bool.and_eq_true, Bool.or_eq_true, Bool.and_eq_false_iff, Bool.or_eq_false_iff, Bool.not_eq_true', Bool.not_eq_false', Bool.not_eq_eq_eq_not, Bool.not_true, Bool.not_false] at hp_6
      exact b_one (s_raise (takes_of rfl rfl rfl rfl) X_NoRule (q.2 _ e _ _ W))
    · --
      have W := W.trans w_6
      have r0 := Rep.mono w_6.ff r0
      have e := MP.iff e hb_6
      have hp_6 := hb_6
      try simp only [inB_t, inB_f, decide_eq_true_eq, decide_eq_false_iff_not, Bool.and_eq_true, Bool.or_eq_true, Bool.and_eq_false_iff, Bool.or_eq_false_iff, Bool.not_eq_true', Bool.not_eq_false', Bool.not_eq_eq_eq_not, Bool.not_true, Bool.not_false] at hp_6
      refine b_nil ?_
      refine b_cons (s_for (S := Unit) (xs := (signs word)) (fun i s_7 σ F' H' => ∃ (z_7_1 : Option V), σ = [some v0, z_7_1] ∧ Wk F H F' H' ∧ Same F_6 F' ∧ SgnI word i) (passes_of rfl) rfl (ei_signs (ev_var 0 rfl r0) (by walk_at "vc")) W.fh (pg_name (i := 1) nd rfl (by first | exact .inl rfl | exact .inr rfl)) ?h0_7 ?hs_7 e ?turn_7 ?done_7)
      case h0_7 => exact fun F1 H1 w1 => ⟨_, rfl, W.trans w1, w1.ff, sgnI0⟩
      case hs_7 =>
        intro i s_7 σ F' H' hB
        obtain ⟨z_7_1, rfl, W, SM7, inv⟩ := hB
        have r0 := Rep.mono SM7 r0
        exact W.fh
      case turn_7 =>
        intro i sign_7 s_7 σ F_7 H_7 v_7 kk hx_7 hB rx_7 e
        have hm_7 := List.mem_of_getElem? hx_7
        have hi_7 := (List.getElem?_eq_some_iff.mp hx_7).1
        obtain ⟨z_7_1, rfl, W, SM7, inv⟩ := hB
        have r0 := Rep.mono SM7 r0
        have ST7 := Same.refl F_7
        refine b_one (s_if (et_cmp op_notIn_sign (rr_notInS (by exact signs_one hm_7)) (ev_var 1 rfl rx_7) (ev_gcS Y_gcs_FIGURES)) W.fh (fun hb_8 F_8 H_8 w_8 => ?_) (fun hb_8 F_8 H_8 w_8 => ?_))
        · --
          have W := W.trans w_8
          have SM7 := SM7.trans w_8.ff
          have ST7 := ST7.trans w_8.ff
          have r0 := Rep.mono w_8.ff r0
          have rx_7 := Rep.mono w_8.ff rx_7
          have e := ift e hb_8
          have hp_8 := hb_8
          try simp only [inB_t, inB_f, decide_eq_true_eq, decide_eq_false_iff_not, Bool.and_eq_true, Bool.or_eq_true, Bool.and_eq_false_iff, Bool.or_eq_false_iff, Bool.not_eq_true', Bool.not_eq_false', Bool.not_eq_eq_eq_not, Bool.not_true, Bool.not_false] at hp_8
          exact b_one (s_raise (takes_of rfl rfl rfl rfl) X_NoRule (q.2 _ e _ _ W))
        · --
          have W := W.trans w_8
          have SM7 := SM7.trans w_8.ff
          have ST7 := ST7.trans w_8.ff
          have r0 := Rep.mono w_8.ff r0
          have rx_7 := Rep.mono w_8.ff rx_7
          have e := MP.iff e hb_8
          have hp_8 := hb_8
          try simp only [inB_t, inB_f, decide_eq_true_eq, decide_eq_false_iff_not, Bool.and_eq_true, Bool.or_eq_true, Bool.and_eq_false_iff, Bool.or_eq_false_iff, Bool.not_eq_true', Bool.not_eq_false', Bool.not_eq_eq_eq_not, Bool.not_true, Bool.not_false] at hp_8
          refine b_nil ?_
          exact ⟨(), _, ST7, ⟨_, rfl, W, SM7, (sgnI1 inv hx_7 (by simpa using hp_8))⟩, e⟩
      case done_7 =>
        intro s_7 σ F_7 H_7 hB e
        obtain ⟨z_7_1, rfl, W, SM7, inv⟩ := hB
        have r0 := Rep.mono SM7 r0
        exact b_one (s_ret (ev_intS B.int (ev_var 0 rfl r0) (by exact figs_ok hp_6.1 hp_6.2.1 inv) (by walk_at "vc")) W.fh fun v F1 H1 w1 r1 => q.1 _ e v F1 H1 (W.trans w1) r1)
abbrev s_choice_of : Stmt := topS 22
theorem sc_choice_of : FnScope ["part", "word"] ["part"] (defScope s_choice_of) := ⟨rfl, rfl, rfl, by decide +kernel, rfl, by decide +kernel, by decide +kernel⟩
theorem ok_choice_of {f : Addr} {fd : FuncData} {ec : Exn → Addr} (Fd : Fun K "choice_of" "choice_of" s_choice_of f fd) (B : Bt mg) (C_number_of : Cal P w K mg base (L2.CX P w) 1 "number_of" ["word"] (sp1 K pre_number_of m_number_of (oX ec (oF K)))) : FnOk P w K mg base (L2.CX P w) 2 f fd ["part"] (sp1 K pre_choice_of m_choice_of (oX ec (oF K))) := by
  refine Fd.okX sc_choice_of (fun vs H Q E h => ?_) (fun cdv A outer s H vs Q E hr h => ⟨_, bw_pss, ?_⟩)
  · obtain ⟨_, _, _, rfl, _⟩ := h
    rfl
  · obtain ⟨F, part, v0, rfl, fh, r0, pre, q⟩ := h
    have nd := (sc_choice_of).nd
    have W := Wk.refl fh
    have e : m_choice_of part = _ := rfl
    conv at e => rhs; unfold m_choice_of
    unfold L2.start
    unfold pre_choice_of at pre
    refine b_cons (s_if (et_cmp op_eq rr_eqS (ev_var 0 rfl r0) ev_str) W.fh (fun hb_1 F_1 H_1 w_1 => ?_) (fun hb_1 F_1 H_1 w_1 => ?_))
    · --
      have W := W.trans w_1
      have r0 := Rep.mono w_1.ff r0
      have e := ift e hb_1
      have hp_1 := hb_1
      try simp only [inB_t, inB_f, decide_eq_true_eq, decide_eq_false_iff_not, Bool.and_eq_true, Bool.or_eq_true, Bool.and_eq_false_iff, Bool.or_eq_false_iff, Bool.not_eq_true', Bool.not_eq_false', Bool.not_eq_eq_eq_not, Bool.not_true, Bool.not_false] at hp_1
      exact b_one (s_ret (EvN.ev (evn_nil (α := Int))) W.fh fun v F1 H1 w1 r1 => q.1 _ e v F1 H1 (W.trans w1) r1)
    · --
      have W := W.trans w_1
      have r0 := Rep.mono w_1.ff r0
      have e := MP.iff e hb_1
      have hp_1 := hb_1
      try simp only [inB_t, inB_f, decide_eq_true_eq, decide_eq_false_iff_not, Bool.and_eq_true, Bool.or_eq_true, Bool.and_eq_false_iff, Bool.or_eq_false_iff, Bool.not_eq_true', Bool.not_eq_false', Bool.not_eq_eq_eq_not, Bool.not_true, Bool.not_false] at hp_1
      refine b_nil ?_
      exact b_one (s_retX (EvP.oNF (evp_lcX 1 (takes_of rfl rfl rfl rfl) rfl rfl rfl nd (ei_list (EvN.ev (evn_split (ev_var 0 rfl r0) ev_str (by decide) (by walk_at "vc")))) (fun word_2 m_2 u_2 F_2 H_2 w_2 r_2 _ _ _ _ _ => (pcal1 at_xb (hr.mono (by decide)) C_number_of (ev_var 1 rfl r_2) (by exact Nat.le_trans (part_blank m_2) pre))))) W.fh (fun d hd v F1 H1 w1 r1 => q.1 _ (e.trans hd) v F1 H1 (W.trans w1) r1) fun x hx F1 H1 w1 => q.2 _ (e.trans hx) _ _ (W.trans w1))
abbrev s_read : Stmt := topS 23
theorem sc_read : FnScope ["text", "parts", "part"] ["text"] (defScope s_read) := ⟨rfl, rfl, rfl, by decide +kernel, rfl, by decide +kernel, by decide +kernel⟩
theorem ok_read {f : Addr} {fd : FuncData} {RC : Addr} {ec : Exn → Addr} (Fd : Fun K "read" "read" s_read f fd) (B : Bt mg) (R : RuleB K mg RC) (X_NoRule : Ex1 K mg "NoRule" (ec .rule)) (M_Rule : MkB P w K mg base 4 RC ["self", "count", "table"] (spO K ec RC pre_RuleX m_RuleX)) (C_number_of : Cal P w K mg base (L2.CX P w) 1 "number_of" ["word"] (sp1 K pre_number_of m_number_of (oX ec (oF K)))) (C_choice_of : Cal P w K mg base (L2.CX P w) 2 "choice_of" ["part"] (sp1 K pre_choice_of m_choice_of (oX ec (oF K)))) : FnOk P w K mg base (L2.CX P w) 6 f fd ["text"] (sp1 K pre_read m_read (oX ec (oR K))) := by
  refine Fd.okX sc_read (fun vs H Q E h => ?_) (fun cdv A outer s H vs Q E hr h => ⟨_, bw_pss, ?_⟩)
  · obtain ⟨_, _, _, rfl, _⟩ := h
    rfl
  · obtain ⟨F, text, v0, rfl, fh, r0, pre, q⟩ := h
    have nd := (sc_read).nd
    have W := Wk.refl fh
    have e : m_read text = _ := rfl
    conv at e => rhs; unfold m_read
    unfold L2.start
    unfold pre_read at pre
    refine b_cons (s_asg 1 nd (EvN.ev (evn_split (ev_var 0 rfl r0) ev_str (by decide) (by walk_at "vc"))) W.fh fun v_1 F_1 H_1 w_1 r_1 => ?_)
    have W := W.trans w_1
    have r0 := Rep.mono w_1.ff r0
    obtain ⟨parts_1, e_1⟩ : ∃ y, y = (Txt.split text (": " : Str)) := ⟨_, rfl⟩
    have r_1 := rep_eq r_1 e_1
    have e := bnd_eq e e_1
    refine b_cons (s_if (et_cmp op_ne rr_neI (ev_len B.len (ev_var 1 rfl r_1)) ev_int) W.fh (fun hb_2 F_2 H_2 w_2 => ?_) (fun hb_2 F_2 H_2 w_2 => ?_))
    · --
      have W := W.trans w_2
      have r0 := Rep.mono w_2.ff r0
      have r_1 := Rep.mono w_2.ff r_1
      have e := ift e hb_2
      have hp_2 := hb_2
      try simp only [inB_t, inB_f, decide_eq_true_eq, decide_eq_false_iff_not, Bool.and_eq_true, Bool.or_eq_true, Bool.and_eq_false_iff, Bool.or_eq_false_iff, Bool.not_eq_true', Bool.not_eq_false', Bool.not_eq_eq_eq_not, Bool.not_true, Bool.not_false] at hp_2
      exact b_one (s_raise (takes_of rfl rfl rfl rfl) X_NoRule (q.2 _ e _ _ W))
    · --
      have W := W.trans w_2
      have r0 := Rep.mono w_2.ff r0
      have r_1 := Rep.mono w_2.ff r_1
      have e := MP.iff e hb_2
      have hp_2 := hb_2
      try simp only [inB_t, inB_f, decide_eq_true_eq, decide_eq_false_iff_not, Bool.and_eq_true, Bool.or_eq_true, Bool.and_eq_false_iff, Bool.or_eq_false_iff, Bool.not_eq_true', Bool.not_eq_false', Bool.not_eq_eq_eq_not, Bool.not_true, Bool.not_false] at hp_2
      refine b_nil ?_
      exact b_one (s_retR (pmakeOX R M_Rule (atX (takes_of rfl rfl rfl rfl)) (hr.mono (by decide)) (pcal1 (atX (takes_of rfl rfl rfl rfl)) (hr.mono (by decide)) C_number_of (ev_ixL (ev_var 1 rfl r_1) ev_int (by walk_at "vc")) (by unfold pre_number_of; have h := two_part e_1 hp_2 (i := 0) (by decide); clear e; omega)) (EvP.oNF (evp_lcX 2 (takes_of rfl rfl rfl rfl) rfl rfl rfl nd (ei_list (EvN.ev (evn_split (ev_ixL (ev_var 1 rfl r_1) ev_int (by walk_at "vc")) ev_str (by decide) (by have h := two_part e_1 hp_2 (i := 1) (by decide); exact sz_of (by clear e; omega))))) (fun part_3 m_3 u_3 F_3 H_3 w_3 r_3 _ _ _ _ _ => (pcal1 at_xb (hr.mono (by decide)) C_choice_of (ev_var 2 rfl r_3) (by unfold pre_choice_of; have h := two_part e_1 hp_2 (i := 1) (by decide); have h2 := part_comma m_3; clear e; omega))))) (by have h := two_part e_1 hp_2 (i := 1) (by decide); exact fun u v h1 h2 => read_pre (Nat.le_trans h pre) h1 h2)) W.fh (fun d hd v F1 H1 w1 r1 => q.1 _ (e.trans hd) v F1 H1 (W.trans w1) (RuleO.mono (fun a z => W.hfree z) r1)) fun x hx F1 H1 w1 => q.2 _ (e.trans hx) _ _ (W.trans w1))
abbrev s__law_told : Stmt := topS 45
theorem sc__law_told : FnScope ["_law_text"] ["_law_text"] (defScope s__law_told) := ⟨rfl, rfl, rfl, by decide +kernel, rfl, by decide +kernel, by decide +kernel⟩
theorem ok__law_told {f : Addr} {fd : FuncData} {ec : Exn → Addr} (Fd : Fun K "_law_told" "_law_told" s__law_told f fd) (B : Bt mg) (X_NoRule : Ex1 K mg "NoRule" (ec .rule)) (X_NoThing : Ex1 K mg "NoThing" (ec .thing)) (X_NoExchange : Ex1 K mg "NoExchange" (ec .exchange)) (XM : ∀ x ∈ S_exn, ∀ y ∈ S_exn, PySem.W.exmOne K (.ref (ec x)) (.ref (ec y)) = some (decide (x = y))) (C_read : Cal P w K mg base (L2.CX P w) 6 "read" ["text"] (sp1 K pre_read m_read (oX ec (oR K)))) : FnOk P w K mg base CX0 8 f fd ["_law_text"] (sp1 K pre__law_told m__law_told (oF K)) := by
  refine Fd.ok sc__law_told (fun vs H Q E h => ?_) (fun cdv A outer s H vs Q E hr h => ⟨_, bw_pss, ?_⟩)
  · obtain ⟨_, _, _, rfl, _⟩ := h
    rfl
  · obtain ⟨F, _law_text, v0, rfl, fh, r0, pre, q⟩ := h
    have nd := (sc__law_told).nd
    have W := Wk.refl fh
    have e : m__law_told _law_text = _ := rfl
    conv at e => rhs; unfold m__law_told
    unfold L2.start
    unfold pre__law_told at pre
    refine b_cons (s_try (hds_cons ⟨rfl, by decide, .inl X_NoRule.g⟩ (hds_cons ⟨rfl, by decide, .inl X_NoThing.g⟩ (hds_cons ⟨rfl, by decide, .inl X_NoExchange.g⟩ hds_nil))) fun pn_1 xe_1 tk_1 => ?_)
    refine b_one (s_exprX (EvP.rF (pcal1 (atX tk_1) (hr.mono (by decide)) C_read (ev_var 0 rfl r0) (by unfold pre_read; walk_at "vc"))) W.fh (fun d_1 hd_1 v_1 F_1 H_1 w_1 r_1 => ?_) fun x_1 hx_1 F_1 H_1 w_1 => ?_)
    · --
      have W := W.trans w_1
      have r0 := Rep.mono w_1.ff r0
      have e := tryX_ok e hd_1
      exact b_one (s_ret ev_int W.fh fun v F1 H1 w1 r1 => q v F1 H1 (W.trans w1) (rep_eq r1 e))
    · --
      have W := W.trans w_1
      have r0 := Rep.mono w_1.ff r0
      have e := tryX_err e hx_1
      have hh_1 : x_1 = .rule ∨ x_1 = .thing ∨ x_1 = .exchange := (by exact read_err hx_1)
      rcases hh_1 with rfl | rfl | rfl
      · --
        refine exm_yes (XM .rule (by decide) .rule (by decide)) (by decide) fun a_1 ha_1 => fun oe_1 qn_1 hz_1 hf_1 => ?_
        have e := ift e (by decide)
        exact b_one (s_ret ev_int W.fh fun v F1 H1 w1 r1 => q v F1 H1 (W.trans w1) (rep_eq r1 e))
      · --
        refine exm_no (XM .thing (by decide) .rule (by decide)) (by decide) (exm_yes (XM .thing (by decide) .thing (by decide)) (by decide) fun a_1 ha_1 => fun oe_1 qn_1 hz_1 hf_1 => ?_)
        have e := MP.iff e (by decide)
        have e := ift e (by decide)
        exact b_one (s_ret ev_int W.fh fun v F1 H1 w1 r1 => q v F1 H1 (W.trans w1) (rep_eq r1 e))
      · --
        refine exm_no (XM .exchange (by decide) .rule (by decide)) (by decide) (exm_no (XM .exchange (by decide) .thing (by decide)) (by decide) (exm_yes (XM .exchange (by decide) .exchange (by decide)) (by decide) fun a_1 ha_1 => fun oe_1 qn_1 hz_1 hf_1 => ?_))
        have e := MP.iff e (by decide)
        have e := MP.iff e (by decide)
        exact b_one (s_ret ev_int W.fh fun v F1 H1 w1 r1 => q v F1 H1 (W.trans w1) (rep_eq r1 e))
abbrev s__law_refused_alone : Stmt := topS 46
theorem sc__law_refused_alone : FnScope ["_law_text", "e", "_law_other"] ["_law_text"] (defScope s__law_refused_alone) := ⟨rfl, rfl, rfl, by decide +kernel, rfl, by decide +kernel, by decide +kernel⟩
theorem ok__law_refused_alone {f : Addr} {fd : FuncData} {RC : Addr} {ec : Exn → Addr} {PK : Addr} (Fd : Fun K "_law_refused_alone" "_law_refused_alone" s__law_refused_alone f fd) (B : Bt mg) (R : RuleB K mg RC) (X_NoThing : Ex1 K mg "NoThing" (ec .thing)) (X_NoChoice : Ex1 K mg "NoChoice" (ec .choice)) (X_NoExchange : Ex1 K mg "NoExchange" (ec .exchange)) (X_NoRule : Ex1 K mg "NoRule" (ec .rule)) (X_NoWeights : Ex1 K mg "NoWeights" (ec .weights)) (Y_mg_PickError : mg "PickError" = some (.ref PK)) (Y_exm_NoThing_PickError : PySem.W.exmOne K (.ref (ec .thing)) (.ref PK) = some true) (Y_xc_NoThing : ExcC K (ec .thing)) (Y_kit_NoThing_NoChoice : PySem.W.kitOne K (.ref (ec .thing)) (.ref (ec .choice)) = some false) (Y_kit_NoThing_NoThing : PySem.W.kitOne K (.ref (ec .thing)) (.ref (ec .thing)) = some true) (Y_kit_NoThing_NoExchange : PySem.W.kitOne K (.ref (ec .thing)) (.ref (ec .exchange)) = some false) (Y_kit_NoThing_NoRule : PySem.W.kitOne K (.ref (ec .thing)) (.ref (ec .rule)) = some false) (Y_kit_NoThing_NoWeights : PySem.W.kitOne K (.ref (ec .thing)) (.ref (ec .weights)) = some false) (Y_exm_NoChoice_PickError : PySem.W.exmOne K (.ref (ec .choice)) (.ref PK) = some true) (Y_xc_NoChoice : ExcC K (ec .choice)) (Y_kit_NoChoice_NoChoice : PySem.W.kitOne K (.ref (ec .choice)) (.ref (ec .choice)) = some true) (Y_kit_NoChoice_NoThing : PySem.W.kitOne K (.ref (ec .choice)) (.ref (ec .thing)) = some false) (Y_kit_NoChoice_NoExchange : PySem.W.kitOne K (.ref (ec .choice)) (.ref (ec .exchange)) = some false) (Y_kit_NoChoice_NoRule : PySem.W.kitOne K (.ref (ec .choice)) (.ref (ec .rule)) = some false) (Y_kit_NoChoice_NoWeights : PySem.W.kitOne K (.ref (ec .choice)) (.ref (ec .weights)) = some false) (Y_exm_NoExchange_PickError : PySem.W.exmOne K (.ref (ec .exchange)) (.ref PK) = some true) (Y_xc_NoExchange : ExcC K (ec .exchange)) (Y_kit_NoExchange_NoChoice : PySem.W.kitOne K (.ref (ec .exchange)) (.ref (ec .choice)) = some false) (Y_kit_NoExchange_NoThing : PySem.W.kitOne K (.ref (ec .exchange)) (.ref (ec .thing)) = some false) (Y_kit_NoExchange_NoExchange : PySem.W.kitOne K (.ref (ec .exchange)) (.ref (ec .exchange)) = some true) (Y_kit_NoExchange_NoRule : PySem.W.kitOne K (.ref (ec .exchange)) (.ref (ec .rule)) = some false) (Y_kit_NoExchange_NoWeights : PySem.W.kitOne K (.ref (ec .exchange)) (.ref (ec .weights)) = some false) (Y_exm_NoRule_PickError : PySem.W.exmOne K (.ref (ec .rule)) (.ref PK) = some true) (Y_xc_NoRule : ExcC K (ec .rule)) (Y_kit_NoRule_NoChoice : PySem.W.kitOne K (.ref (ec .rule)) (.ref (ec .choice)) = some false) (Y_kit_NoRule_NoThing : PySem.W.kitOne K (.ref (ec .rule)) (.ref (ec .thing)) = some false) (Y_kit_NoRule_NoExchange : PySem.W.kitOne K (.ref (ec .rule)) (.ref (ec .exchange)) = some false) (Y_kit_NoRule_NoRule : PySem.W.kitOne K (.ref (ec .rule)) (.ref (ec .rule)) = some true) (Y_kit_NoRule_NoWeights : PySem.W.kitOne K (.ref (ec .rule)) (.ref (ec .weights)) = some false) (C_read : Cal P w K mg base (L2.CX P w) 6 "read" ["text"] (sp1 K pre_read m_read (oX ec (oR K)))) : FnOk P w K mg base CX0 8 f fd ["_law_text"] (sp1 K pre__law_refused_alone m__law_refused_alone (oF K)) := by
  refine Fd.ok sc__law_refused_alone (fun vs H Q E h => ?_) (fun cdv A outer s H vs Q E hr h => ⟨_, bw_pss, ?_⟩)
  · obtain ⟨_, _, _, rfl, _⟩ := h
    rfl
  · obtain ⟨F, _law_text, v0, rfl, fh, r0, pre, q⟩ := h
    have nd := (sc__law_refused_alone).nd
    have W := Wk.refl fh
    have e : m__law_refused_alone _law_text = _ := rfl
    conv at e => rhs; unfold m__law_refused_alone
    unfold L2.start
    unfold pre__law_refused_alone at pre
    refine b_cons (s_tryAs 1 nd ⟨rfl, by decide, .inl Y_mg_PickError⟩ fun pn_1 xe_1 tk_1 => ?_)
    refine b_one (s_exprX (EvP.rF (pcal1 (atX tk_1) (hr.mono (by decide)) C_read (ev_var 0 rfl r0) (by unfold pre_read; walk_at "vc"))) W.fh (fun d_1 hd_1 v_1 F_1 H_1 w_1 r_1 => ?_) fun x_1 hx_1 F_1 H_1 w_1 => ?_)
    · --
      have W := W.trans w_1
      have r0 := Rep.mono w_1.ff r0
      have e := tryX_ok e hd_1
      exact b_one (s_ret ev_bl W.fh fun v F1 H1 w1 r1 => q v F1 H1 (W.trans w1) (rep_eq r1 e))
    · --
      have W := W.trans w_1
      have r0 := Rep.mono w_1.ff r0
      have e := tryX_err e hx_1
      have hh_1 : x_1 = .thing ∨ x_1 = .choice ∨ x_1 = .exchange ∨ x_1 = .rule := (by exact read_err2 hx_1)
      rcases hh_1 with rfl | rfl | rfl | rfl
      · --
        refine as_yes (Y_exm_NoThing_PickError) rfl fun a_1 ha_1 => fun oe_1 qn_1 hz_1 hf_1 => ?_
        have e := ift e (by decide)
        refine b_cons (s_asg 2 nd (ev_or (ev_isE 1 B.isi X_NoChoice.g Y_xc_NoThing hz_1 hf_1 Y_kit_NoThing_NoChoice rfl) fun hs2 => (ev_or (ev_isE 1 B.isi X_NoThing.g Y_xc_NoThing hz_1 hf_1 Y_kit_NoThing_NoThing rfl) fun hs3 => (ev_one (ev_isE 1 B.isi X_NoExchange.g Y_xc_NoThing hz_1 hf_1 Y_kit_NoThing_NoExchange rfl)))) W.fh fun v_5 F_5 H_5 w_5 r_5 => ?_)
        have W := W.trans w_5
        have r0 := Rep.mono w_5.ff r0
        obtain ⟨_law_other_5, e_5⟩ : ∃ y, y = (false || (true || false)) := ⟨_, rfl⟩
        have r_5 := rep_eq r_5 e_5
        have e := bnd_eq e e_5
        exact b_one (s_ret (ev_and (ev_isE 1 B.isi X_NoRule.g Y_xc_NoThing hz_1 hf_1 Y_kit_NoThing_NoRule rfl) fun hs6 => (ev_and (ev_not (ev_var 2 rfl r_5)) fun hs7 => (ev_one (ev_not (ev_isE 1 B.isi X_NoWeights.g Y_xc_NoThing hz_1 hf_1 Y_kit_NoThing_NoWeights rfl))))) W.fh fun v F1 H1 w1 r1 => q v F1 H1 (W.trans w1) (rep_eq r1 e))
      · --
        refine as_yes (Y_exm_NoChoice_PickError) rfl fun a_1 ha_1 => fun oe_1 qn_1 hz_1 hf_1 => ?_
        have e := MP.iff e (by decide)
        have e := ift e (by decide)
        refine b_cons (s_asg 2 nd (ev_or (ev_isE 1 B.isi X_NoChoice.g Y_xc_NoChoice hz_1 hf_1 Y_kit_NoChoice_NoChoice rfl) fun hs9 => (ev_or (ev_isE 1 B.isi X_NoThing.g Y_xc_NoChoice hz_1 hf_1 Y_kit_NoChoice_NoThing rfl) fun hs10 => (ev_one (ev_isE 1 B.isi X_NoExchange.g Y_xc_NoChoice hz_1 hf_1 Y_kit_NoChoice_NoExchange rfl)))) W.fh fun v_12 F_12 H_12 w_12 r_12 => ?_)
        have W := W.trans w_12
        have r0 := Rep.mono w_12.ff r0
        obtain ⟨_law_other_12, e_12⟩ : ∃ y, y = (true || (false || false)) := ⟨_, rfl⟩
        have r_12 := rep_eq r_12 e_12
        have e := bnd_eq e e_12
        exact b_one (s_ret (ev_and (ev_isE 1 B.isi X_NoRule.g Y_xc_NoChoice hz_1 hf_1 Y_kit_NoChoice_NoRule rfl) fun hs13 => (ev_and (ev_not (ev_var 2 rfl r_12)) fun hs14 => (ev_one (ev_not (ev_isE 1 B.isi X_NoWeights.g Y_xc_NoChoice hz_1 hf_1 Y_kit_NoChoice_NoWeights rfl))))) W.fh fun v F1 H1 w1 r1 => q v F1 H1 (W.trans w1) (rep_eq r1 e))
      · --
        refine as_yes (Y_exm_NoExchange_PickError) rfl fun a_1 ha_1 => fun oe_1 qn_1 hz_1 hf_1 => ?_
        have e := MP.iff e (by decide)
        have e := MP.iff e (by decide)
        have e := ift e (by decide)
        refine b_cons (s_asg 2 nd (ev_or (ev_isE 1 B.isi X_NoChoice.g Y_xc_NoExchange hz_1 hf_1 Y_kit_NoExchange_NoChoice rfl) fun hs16 => (ev_or (ev_isE 1 B.isi X_NoThing.g Y_xc_NoExchange hz_1 hf_1 Y_kit_NoExchange_NoThing rfl) fun hs17 => (ev_one (ev_isE 1 B.isi X_NoExchange.g Y_xc_NoExchange hz_1 hf_1 Y_kit_NoExchange_NoExchange rfl)))) W.fh fun v_19 F_19 H_19 w_19 r_19 => ?_)
        have W := W.trans w_19
        have r0 := Rep.mono w_19.ff r0
        obtain ⟨_law_other_19, e_19⟩ : ∃ y, y = (false || (false || true)) := ⟨_, rfl⟩
        have r_19 := rep_eq r_19 e_19
        have e := bnd_eq e e_19
        exact b_one (s_ret (ev_and (ev_isE 1 B.isi X_NoRule.g Y_xc_NoExchange hz_1 hf_1 Y_kit_NoExchange_NoRule rfl) fun hs20 => (ev_and (ev_not (ev_var 2 rfl r_19)) fun hs21 => (ev_one (ev_not (ev_isE 1 B.isi X_NoWeights.g Y_xc_NoExchange hz_1 hf_1 Y_kit_NoExchange_NoWeights rfl))))) W.fh fun v F1 H1 w1 r1 => q v F1 H1 (W.trans w1) (rep_eq r1 e))
      · --
        refine as_yes (Y_exm_NoRule_PickError) rfl fun a_1 ha_1 => fun oe_1 qn_1 hz_1 hf_1 => ?_
        have e := MP.iff e (by decide)
        have e := MP.iff e (by decide)
        have e := MP.iff e (by decide)
        refine b_cons (s_asg 2 nd (ev_or (ev_isE 1 B.isi X_NoChoice.g Y_xc_NoRule hz_1 hf_1 Y_kit_NoRule_NoChoice rfl) fun hs23 => (ev_or (ev_isE 1 B.isi X_NoThing.g Y_xc_NoRule hz_1 hf_1 Y_kit_NoRule_NoThing rfl) fun hs24 => (ev_one (ev_isE 1 B.isi X_NoExchange.g Y_xc_NoRule hz_1 hf_1 Y_kit_NoRule_NoExchange rfl)))) W.fh fun v_26 F_26 H_26 w_26 r_26 => ?_)
        have W := W.trans w_26
        have r0 := Rep.mono w_26.ff r0
        obtain ⟨_law_other_26, e_26⟩ : ∃ y, y = (false || (false || false)) := ⟨_, rfl⟩
        have r_26 := rep_eq r_26 e_26
        have e := bnd_eq e e_26
        exact b_one (s_ret (ev_and (ev_isE 1 B.isi X_NoRule.g Y_xc_NoRule hz_1 hf_1 Y_kit_NoRule_NoRule rfl) fun hs27 => (ev_and (ev_not (ev_var 2 rfl r_26)) fun hs28 => (ev_one (ev_not (ev_isE 1 B.isi X_NoWeights.g Y_xc_NoRule hz_1 hf_1 Y_kit_NoRule_NoWeights rfl))))) W.fh fun v F1 H1 w1 r1 => q v F1 H1 (W.trans w1) (rep_eq r1 e))
abbrev s__law_whole : Stmt := topS 26
theorem sc__law_whole : FnScope ["_law_found"] ["_law_found"] (defScope s__law_whole) := ⟨rfl, rfl, rfl, by decide +kernel, rfl, by decide +kernel, by decide +kernel⟩
theorem ok__law_whole {f : Addr} {fd : FuncData} (Fd : Fun K "_law_whole" "_law_whole" s__law_whole f fd) (B : Bt mg) : FnOk P w K mg base CX0 1 f fd ["_law_found"] (sp1 K (fun _ => True) m__law_whole (oF K)) := by
  refine Fd.ok sc__law_whole (fun vs H Q E h => ?_) (fun cdv A outer s H vs Q E hr h => ⟨_, bw_pss, ?_⟩)
  · obtain ⟨_, _, _, rfl, _⟩ := h
    rfl
  · obtain ⟨F, _law_found, v0, rfl, fh, r0, pre, q⟩ := h
    have nd := (sc__law_whole).nd
    have W := Wk.refl fh
    have e : m__law_whole _law_found = _ := rfl
    conv at e => rhs; unfold m__law_whole
    unfold L2.start
    exact b_one (s_ret (ev_and (ev_isi (t := "int") (T := "int") (res := true) B.isi B.int (by decide +kernel) ty_int (by decide +kernel) (ev_var 0 rfl r0)) fun hs1 => (ev_one (ev_not (ev_isi (t := "int") (T := "bool") (res := false) B.isi B.bool (by decide +kernel) ty_int (by decide +kernel) (ev_var 0 rfl r0))))) W.fh fun v F1 H1 w1 r1 => q v F1 H1 (W.trans w1) (rep_eq r1 e))
abbrev s__law_row_is : Stmt := topS 28
theorem sc__law_row_is : FnScope ["_law_found", "_law_due_here", "_law_k"] ["_law_found", "_law_due_here"] (defScope s__law_row_is) := ⟨rfl, rfl, rfl, by decide +kernel, rfl, by decide +kernel, by decide +kernel⟩
theorem ok__law_row_is {f : Addr} {fd : FuncData} (Fd : Fun K "_law_row_is" "_law_row_is" s__law_row_is f fd) (B : Bt mg) (C__law_whole : Cal P w K mg base CX0 1 "_law_whole" ["_law_found"] (sp1 K (fun _ => True) m__law_whole (oF K))) : FnOk P w K mg base CX0 2 f fd ["_law_found", "_law_due_here"] (sp2 K (fun _ _ => True) m__law_row_is (oF K)) := by
  refine Fd.ok sc__law_row_is (fun vs H Q E h => ?_) (fun cdv A outer s H vs Q E hr h => ⟨_, bw_pss, ?_⟩)
  · obtain ⟨_, _, _, _, _, rfl, _⟩ := h
    rfl
  · obtain ⟨F, _law_found, _law_due_here, v0, v1, rfl, fh, r0, r1, pre, q⟩ := h
    have nd := (sc__law_row_is).nd
    have W := Wk.refl fh
    have e : m__law_row_is _law_found _law_due_here = _ := rfl
    conv at e => rhs; unfold m__law_row_is
    unfold L2.start
    refine b_cons (s_if (et_w (ew_or (et_not (et_val (ev_isi (t := "list") (T := "list") (res := true) B.isi B.list (by decide +kernel) ty_list (by decide +kernel) (ev_var 0 rfl r0)))) fun hs1 => (ew_or1 (et_cmp op_ne rr_neI (ev_len B.len (ev_var 0 rfl r0)) (ev_len B.len (ev_var 1 rfl r1)))))) W.fh (fun hb_3 F_3 H_3 w_3 => ?_) (fun hb_3 F_3 H_3 w_3 => ?_))
    · --
      have W := W.trans w_3
      have r0 := Rep.mono w_3.ff r0
      have r1 := Rep.mono w_3.ff r1
      have e := ift e hb_3
      have hp_3 := hb_3
      try simp only [inB_t, inB_f, decide_eq_true_eq, decide_eq_false_iff_not, Bool.and_eq_true, Bool.or_eq_true, Bool.and_eq_false_iff, Bool.or_eq_false_iff, Bool.not_eq_true', Bool.not_eq_false', Bool.not_eq_eq_eq_not, Bool.not_true, Bool.not_false] at hp_3
      exact b_one (s_ret ev_bl W.fh fun v F1 H1 w1 r1 => q v F1 H1 (W.trans w1) (rep_eq r1 e))
    · --
      have W := W.trans w_3
      have r0 := Rep.mono w_3.ff r0
      have r1 := Rep.mono w_3.ff r1
      have e := MP.iff e hb_3
      have hp_3 := hb_3
      try simp only [inB_t, inB_f, decide_eq_true_eq, decide_eq_false_iff_not, Bool.and_eq_true, Bool.or_eq_true, Bool.and_eq_false_iff, Bool.or_eq_false_iff, Bool.not_eq_true', Bool.not_eq_false', Bool.not_eq_eq_eq_not, Bool.not_true, Bool.not_false] at hp_3
      refine b_nil ?_
      refine b_cons (s_for (S := Unit) (xs := (rng 0 (_law_due_here.length : Int))) (fun i s_4 σ F' H' => ∃ (z_4_2 : Option V), σ = [some v0, some v1, z_4_2] ∧ Wk F H F' H' ∧ Same F_3 F') PassesOwn.never rfl (ei_range1 B.range (ev_len B.len (ev_var 1 rfl r1)) (by have := rep_len r1; rw [sizeLine_eq] at this; omega)) W.fh (pg_name (i := 2) nd rfl (by first | exact .inl rfl | exact .inr rfl)) ?h0_4 ?hs_4 e ?turn_4 ?done_4)
      case h0_4 => exact fun F1 H1 w1 => ⟨_, rfl, W.trans w1, w1.ff⟩
      case hs_4 =>
        intro i s_4 σ F' H' hB
        obtain ⟨z_4_2, rfl, W, SM4⟩ := hB
        have r0 := Rep.mono SM4 r0
        have r1 := Rep.mono SM4 r1
        exact W.fh
      case turn_4 =>
        intro i _law_k_4 s_4 σ F_4 H_4 v_4 kk hx_4 hB rx_4 e
        have hm_4 := List.mem_of_getElem? hx_4
        have hi_4 := (List.getElem?_eq_some_iff.mp hx_4).1
        have hr_4 := rng_mem.mp hm_4
        have hg_4 := rng_get hx_4
        obtain ⟨z_4_2, rfl, W, SM4⟩ := hB
        have r0 := Rep.mono SM4 r0
        have r1 := Rep.mono SM4 r1
        have ST4 := Same.refl F_4
        refine b_one (s_if (et_w (ew_or (et_not (et_val (ev_call1 pass0 (hr.mono (by decide)) C__law_whole (ev_ixL (ev_var 0 rfl r0) (ev_var 2 rfl rx_4) (by walk_at "vc")) trivial))) fun hs5 => (ew_or1 (et_cmp op_ne rr_neI (ev_ixL (ev_var 0 rfl r0) (ev_var 2 rfl rx_4) (by have q0 := hs5; walk_at "vc")) (ev_ixL (ev_var 1 rfl r1) (ev_var 2 rfl rx_4) (by have q0 := hs5; walk_at "vc")))))) W.fh (fun hb_7 F_7 H_7 w_7 => ?_) (fun hb_7 F_7 H_7 w_7 => ?_))
        · --
          have W := W.trans w_7
          have SM4 := SM4.trans w_7.ff
          have ST4 := ST4.trans w_7.ff
          have r0 := Rep.mono w_7.ff r0
          have r1 := Rep.mono w_7.ff r1
          have rx_4 := Rep.mono w_7.ff rx_4
          have e := ift e hb_7
          have hp_7 := hb_7
          try simp only [inB_t, inB_f, decide_eq_true_eq, decide_eq_false_iff_not, Bool.and_eq_true, Bool.or_eq_true, Bool.and_eq_false_iff, Bool.or_eq_false_iff, Bool.not_eq_true', Bool.not_eq_false', Bool.not_eq_eq_eq_not, Bool.not_true, Bool.not_false] at hp_7
          exact b_one (s_ret ev_bl W.fh fun v F1 H1 w1 r1 => q v F1 H1 (W.trans w1) (rep_eq r1 e))
        · --
          have W := W.trans w_7
          have SM4 := SM4.trans w_7.ff
          have ST4 := ST4.trans w_7.ff
          have r0 := Rep.mono w_7.ff r0
          have r1 := Rep.mono w_7.ff r1
          have rx_4 := Rep.mono w_7.ff rx_4
          have e := MP.iff e hb_7
          have hp_7 := hb_7
          try simp only [inB_t, inB_f, decide_eq_true_eq, decide_eq_false_iff_not, Bool.and_eq_true, Bool.or_eq_true, Bool.and_eq_false_iff, Bool.or_eq_false_iff, Bool.not_eq_true', Bool.not_eq_false', Bool.not_eq_eq_eq_not, Bool.not_true, Bool.not_false] at hp_7
          refine b_nil ?_
          exact ⟨(), _, ST4, ⟨_, rfl, W, SM4⟩, e⟩
      case done_4 =>
        intro s_4 σ F_4 H_4 hB e
        obtain ⟨z_4_2, rfl, W, SM4⟩ := hB
        have r0 := Rep.mono SM4 r0
        have r1 := Rep.mono SM4 r1
        exact b_one (s_ret ev_bl W.fh fun v F1 H1 w1 r1 => q v F1 H1 (W.trans w1) (rep_eq r1 e))
abbrev s__law_rows_are : Stmt := topS 29
theorem sc__law_rows_are : FnScope ["_law_found", "_law_due_here", "_law_k"] ["_law_found", "_law_due_here"] (defScope s__law_rows_are) := ⟨rfl, rfl, rfl, by decide +kernel, rfl, by decide +kernel, by decide +kernel⟩
theorem ok__law_rows_are {f : Addr} {fd : FuncData} (Fd : Fun K "_law_rows_are" "_law_rows_are" s__law_rows_are f fd) (B : Bt mg) (C__law_row_is : Cal P w K mg base CX0 2 "_law_row_is" ["_law_found", "_law_due_here"] (sp2 K (fun _ _ => True) m__law_row_is (oF K))) : FnOk P w K mg base CX0 3 f fd ["_law_found", "_law_due_here"] (sp2 K (fun _ _ => True) m__law_rows_are (oF K)) := by
  refine Fd.ok sc__law_rows_are (fun vs H Q E h => ?_) (fun cdv A outer s H vs Q E hr h => ⟨_, bw_pss, ?_⟩)
  · obtain ⟨_, _, _, _, _, rfl, _⟩ := h
    rfl
  · obtain ⟨F, _law_found, _law_due_here, v0, v1, rfl, fh, r0, r1, pre, q⟩ := h
    have nd := (sc__law_rows_are).nd
    have W := Wk.refl fh
    have e : m__law_rows_are _law_found _law_due_here = _ := rfl
    conv at e => rhs; unfold m__law_rows_are
    unfold L2.start
    refine b_cons (s_if (et_w (ew_or (et_not (et_val (ev_isi (t := "list") (T := "list") (res := true) B.isi B.list (by decide +kernel) ty_list (by decide +kernel) (ev_var 0 rfl r0)))) fun hs1 => (ew_or1 (et_cmp op_ne rr_neI (ev_len B.len (ev_var 0 rfl r0)) (ev_len B.len (ev_var 1 rfl r1)))))) W.fh (fun hb_3 F_3 H_3 w_3 => ?_) (fun hb_3 F_3 H_3 w_3 => ?_))
    · --
      have W := W.trans w_3
      have r0 := Rep.mono w_3.ff r0
      have r1 := Rep.mono w_3.ff r1
      have e := ift e hb_3
      have hp_3 := hb_3
      try simp only [inB_t, inB_f, decide_eq_true_eq, decide_eq_false_iff_not, Bool.and_eq_true, Bool.or_eq_true, Bool.and_eq_false_iff, Bool.or_eq_false_iff, Bool.not_eq_true', Bool.not_eq_false', Bool.not_eq_eq_eq_not, Bool.not_true, Bool.not_false] at hp_3
      exact b_one (s_ret ev_bl W.fh fun v F1 H1 w1 r1 => q v F1 H1 (W.trans w1) (rep_eq r1 e))
    · --
      have W := W.trans w_3
      have r0 := Rep.mono w_3.ff r0
      have r1 := Rep.mono w_3.ff r1
      have e := MP.iff e hb_3
      have hp_3 := hb_3
      try simp only [inB_t, inB_f, decide_eq_true_eq, decide_eq_false_iff_not, Bool.and_eq_true, Bool.or_eq_true, Bool.and_eq_false_iff, Bool.or_eq_false_iff, Bool.not_eq_true', Bool.not_eq_false', Bool.not_eq_eq_eq_not, Bool.not_true, Bool.not_false] at hp_3
      refine b_nil ?_
      refine b_cons (s_for (S := Unit) (xs := (rng 0 (_law_due_here.length : Int))) (fun i s_4 σ F' H' => ∃ (z_4_2 : Option V), σ = [some v0, some v1, z_4_2] ∧ Wk F H F' H' ∧ Same F_3 F') PassesOwn.never rfl (ei_range1 B.range (ev_len B.len (ev_var 1 rfl r1)) (by have := rep_len r1; rw [sizeLine_eq] at this; clear e; omega)) W.fh (pg_name (i := 2) nd rfl (by first | exact .inl rfl | exact .inr rfl)) ?h0_4 ?hs_4 e ?turn_4 ?done_4)
      case h0_4 => exact fun F1 H1 w1 => ⟨_, rfl, W.trans w1, w1.ff⟩
      case hs_4 =>
        intro i s_4 σ F' H' hB
        obtain ⟨z_4_2, rfl, W, SM4⟩ := hB
        have r0 := Rep.mono SM4 r0
        have r1 := Rep.mono SM4 r1
        exact W.fh
      case turn_4 =>
        intro i _law_k_4 s_4 σ F_4 H_4 v_4 kk hx_4 hB rx_4 e
        have hm_4 := List.mem_of_getElem? hx_4
        have hi_4 := (List.getElem?_eq_some_iff.mp hx_4).1
        have hr_4 := rng_mem.mp hm_4
        have hg_4 := rng_get hx_4
        obtain ⟨z_4_2, rfl, W, SM4⟩ := hB
        have r0 := Rep.mono SM4 r0
        have r1 := Rep.mono SM4 r1
        have ST4 := Same.refl F_4
        refine b_one (s_if (et_not (et_val (ev_call2 pass0 (hr.mono (by decide)) C__law_row_is (ev_ixL (ev_var 0 rfl r0) (ev_var 2 rfl rx_4) (by walk_at "vc")) (ev_ixL (ev_var 1 rfl r1) (ev_var 2 rfl rx_4) (by walk_at "vc")) trivial))) W.fh (fun hb_5 F_5 H_5 w_5 => ?_) (fun hb_5 F_5 H_5 w_5 => ?_))
        · --
          have W := W.trans w_5
          have SM4 := SM4.trans w_5.ff
          have ST4 := ST4.trans w_5.ff
          have r0 := Rep.mono w_5.ff r0
          have r1 := Rep.mono w_5.ff r1
          have rx_4 := Rep.mono w_5.ff rx_4
          have e := ift e hb_5
          have hp_5 := hb_5
          try simp only [inB_t, inB_f, decide_eq_true_eq, decide_eq_false_iff_not, Bool.and_eq_true, Bool.or_eq_true, Bool.and_eq_false_iff, Bool.or_eq_false_iff, Bool.not_eq_true', Bool.not_eq_false', Bool.not_eq_eq_eq_not, Bool.not_true, Bool.not_false] at hp_5
          exact b_one (s_ret ev_bl W.fh fun v F1 H1 w1 r1 => q v F1 H1 (W.trans w1) (rep_eq r1 e))
        · --
          have W := W.trans w_5
          have SM4 := SM4.trans w_5.ff
          have ST4 := ST4.trans w_5.ff
          have r0 := Rep.mono w_5.ff r0
          have r1 := Rep.mono w_5.ff r1
          have rx_4 := Rep.mono w_5.ff rx_4
          have e := MP.iff e hb_5
          have hp_5 := hb_5
          try simp only [inB_t, inB_f, decide_eq_true_eq, decide_eq_false_iff_not, Bool.and_eq_true, Bool.or_eq_true, Bool.and_eq_false_iff, Bool.or_eq_false_iff, Bool.not_eq_true', Bool.not_eq_false', Bool.not_eq_eq_eq_not, Bool.not_true, Bool.not_false] at hp_5
          refine b_nil ?_
          exact ⟨(), _, ST4, ⟨_, rfl, W, SM4⟩, e⟩
      case done_4 =>
        intro s_4 σ F_4 H_4 hB e
        obtain ⟨z_4_2, rfl, W, SM4⟩ := hB
        have r0 := Rep.mono SM4 r0
        have r1 := Rep.mono SM4 r1
        exact b_one (s_ret ev_bl W.fh fun v F1 H1 w1 r1 => q v F1 H1 (W.trans w1) (rep_eq r1 e))
abbrev s_law : Stmt := topS 50
theorem sc_law : FnScope ["_law_script", "_law_made", "_law_count", "_law_table_here", "_law_choice", "_law_rule", "_law_full", "_law_text", "_law_found", "_law_more", "_law_turned_rows", "_law_told_here", "_law_due_here", "_law_held_here", "_law_other"] ["_law_script"] (defScope s_law) := ⟨rfl, rfl, rfl, by decide +kernel, rfl, by decide +kernel, by decide +kernel⟩
theorem ok_law {f : Addr} {fd : FuncData} {RC : Addr} {ec : Exn → Addr} (Fd : Fun K "law" "law" s_law f fd) (B : Bt mg) (R : RuleB K mg RC) (C__law_held : Cal P w K mg base CX0 5 "_law_held" ["_law_script"] (sp1 K (fun _ => True) m__law_held (oF K))) (M_Rule : MkB P w K mg base 4 RC ["self", "count", "table"] (spO K ec RC pre_RuleX m_RuleX)) (C__law_words : Cal P w K mg base CX0 1 "_law_words" ["_law_choice"] (sp1 K pre__law_words m__law_words (oF K))) (C_shown : Cal P w K mg base CX0 2 "shown" ["rule"] (sp1 K pre_shown m_shown (oF K))) (C__law_cell_at : Cal P w K mg base CX0 1 "_law_cell_at" ["_law_script", "_law_k"] (sp2 K pre__law_cell_at m__law_cell_at (oF K))) (C__law_changed : Cal P w K mg base CX0 2 "_law_changed" ["_law_text", "_law_cell", "_law_low"] (sp3 K pre__law_changed m__law_changed (oF K))) (C__law_odd_line : Cal P w K mg base CX0 1 "_law_odd_line" ["_law_cell"] (sp1 K (fun _ => True) m__law_odd_line (oF K))) (C__law_read : Cal P w K mg base CX0 3 "_law_read" ["_law_text"] (sp1 K pre__law_read m__law_read (oF K))) (C__law_due : Cal P w K mg base CX0 3 "_law_due" ["_law_told_here"] (sp1 K pre__law_due m__law_due (oF K))) (C__law_told : Cal P w K mg base CX0 8 "_law_told" ["_law_text"] (sp1 K pre__law_told m__law_told (oF K))) (C__law_refused_alone : Cal P w K mg base CX0 8 "_law_refused_alone" ["_law_text"] (sp1 K pre__law_refused_alone m__law_refused_alone (oF K))) (C_read : Cal P w K mg base (L2.CX P w) 6 "read" ["text"] (sp1 K pre_read m_read (oX ec (oR K)))) (C__law_whole : Cal P w K mg base CX0 1 "_law_whole" ["_law_found"] (sp1 K (fun _ => True) m__law_whole (oF K))) (C__law_rows_are : Cal P w K mg base CX0 3 "_law_rows_are" ["_law_found", "_law_due_here"] (sp2 K (fun _ _ => True) m__law_rows_are (oF K))) : FnOk P w K mg base CX0 9 f fd ["_law_script"] (sp1 K (fun _ => True) m_law (oF K)) := by
  refine Fd.ok sc_law (fun vs H Q E h => ?_) (fun cdv A outer s H vs Q E hr h => ⟨_, bw_pss, ?_⟩)
  · obtain ⟨_, _, _, rfl, _⟩ := h
    rfl
  · obtain ⟨F, _law_script, v0, rfl, fh, r0, pre, q⟩ := h
    have nd := (sc_law).nd
    have W := Wk.refl fh
    have e : m_law _law_script = _ := rfl
    conv at e => rhs; unfold m_law
    unfold L2.start
    refine b_cons (s_asg 1 nd (ev_call1 pass0 (hr.mono (by decide)) C__law_held (ev_var 0 rfl r0) trivial) W.fh fun v_1 F_1 H_1 w_1 r_1 => ?_)
    have W := W.trans w_1
    have r0 := Rep.mono w_1.ff r0
    obtain ⟨_law_made_1, e_1⟩ : ∃ y, y = (m__law_held _law_script) := ⟨_, rfl⟩
    have r_1 := rep_eq r_1 e_1
    have e := bnd_eq e e_1
    have t1 := held_spec _law_script
    have l1 : _law_made_1.2.length ≤ 1000 := by rw [e_1]; exact held_small _law_script
    rw [← e_1] at t1
    refine b_cons (s_asg 2 nd (ev_fst (ev_var 1 rfl r_1)) W.fh fun v_2 F_2 H_2 w_2 r_2 => ?_)
    have W := W.trans w_2
    have r0 := Rep.mono w_2.ff r0
    have r_1 := Rep.mono w_2.ff r_1
    obtain ⟨_law_count_2, e_2⟩ : ∃ y, y = _law_made_1.1 := ⟨_, rfl⟩
    have r_2 := rep_eq r_2 e_2
    have e := bnd_eq e e_2
    refine b_cons (s_asgCv 3 nd (evn_lc 4 nd (ei_list (ev_snd (ev_var 1 rfl r_1))) (fun _law_choice_3 m_3 u_3 F_3 H_3 w_3 r_3 _ _ _ _ _ => (EvN.ev (evn_sorted B.sorted (ev_var 4 rfl r_3))))) W.fh fun v_4 F_4 H_4 w_4 r_4 => ?_)
    have W := W.trans w_4
    have r0 := Rep.mono w_4.ff r0
    have r_1 := Rep.mono w_4.ff r_1
    have r_2 := Rep.mono w_4.ff r_2
    obtain ⟨_law_table_here_4, e_4⟩ : ∃ y, y = (_law_made_1.2.map fun (_law_choice_3 : (List Int)) => (srt _law_choice_3)) := ⟨_, rfl⟩
    have r_4 := rep_eq r_4 e_4
    have e := bnd_eq e e_4
    have t4 : Tab _law_count_2 _law_table_here_4 := by rw [e_4, e_2]; exact srt_tab t1
    have l4 : _law_table_here_4.length ≤ 1000 := by rw [e_4, List.length_map]; exact l1
    have cc : 0 ≤ _law_count_2 ∧ _law_count_2 ≤ 99 := ⟨t4.c0, t4.c1⟩
    refine b_cons (s_asg 5 nd (EvP.ev (EvP.ok (EvP.rF (pmakeO R M_Rule passX (hr.mono (by decide)) (ev_var 2 rfl r_2) (ev_var 3 rfl r_4) (by exact ⟨t4.c0, by have h := t4.c1; clear e; omega, fun c hc => Nat.le_trans (tab_len t4 hc) (by decide)⟩))) (by exact ⟨_, tabX t4⟩))) W.fh fun v_5 F_5 H_5 w_5 r_5 => ?_)
    have W := W.trans w_5
    have r0 := Rep.mono w_5.ff r0
    have r_1 := Rep.mono w_5.ff r_1
    have r_2 := Rep.mono w_5.ff r_2
    have r_4 := Rep.mono w_5.ff r_4
    obtain ⟨_law_rule_5, e_5⟩ : ∃ y, y = (okv (m_RuleX _law_count_2 _law_table_here_4)) := ⟨_, rfl⟩
    have r_5 := rep_eq r_5 e_5
    have e := bnd_eq e e_5
    have f5 : _law_rule_5 = ruleOf _law_count_2 _law_table_here_4 := by rw [e_5, tabX t4]; rfl
    refine b_cons (s_asgN 6 nd (evn_nil (α := (List Int))) W.fh fun p_6 xs_6 F_6 H_6 w_6 r_6 f_6 h_6 g_6 l_6 => ?_)
    have h_6 := W.hfree h_6
    have W := W.trans w_6
    have r0 := Rep.mono w_6.ff r0
    have r_1 := Rep.mono w_6.ff r_1
    have r_2 := Rep.mono w_6.ff r_2
    have r_4 := Rep.mono w_6.ff r_4
    have r_5 := Rep.mono w_6.ff r_5
    obtain ⟨_law_full_6, e_6⟩ : ∃ y, y = ([] : (List (List Int))) := ⟨_, rfl⟩
    have r_6 := reps_eq r_6 e_6
    have e := bnd_eq e e_6
    refine b_cons (s_for (S := (List (List Int))) (xs := (srtL _law_table_here_4)) (fun i s_7 σ F' H' => ∃ (z_7_4 : Option V) (xs_7_6 : List V), σ = [some v0, some v_1, some v_2, some v_4, z_7_4, some v_5, some (.ref p_6), none, none, none, none, none, none, none, none] ∧ Wk F H F' H' ∧ Same F_6 F' ∧ reps K F' xs_7_6 s_7 ∧ F' p_6 = Option.none ∧ H' p_6 = some (.lst xs_7_6) ∧ xs_7_6.length ≤ sizeLine ∧ s_7 = ((srtL _law_table_here_4).take i).foldl dedF []) PassesOwn.never rfl (ei_list (EvN.ev (evn_sortedL B.sorted hr (ev_var 3 rfl r_4)))) W.fh (pg_name (i := 4) nd rfl (by first | exact .inl rfl | exact .inr rfl)) ?h0_7 ?hs_7 e ?turn_7 ?done_7)
    case h0_7 => exact fun F1 H1 w1 => ⟨_, xs_6, rfl, W.trans w1, w1.ff, (reps_mono w1.ff r_6), (w1.off f_6 g_6), (w1.hh _ _ g_6), l_6, (by rw [e_6]; rfl)⟩
    case hs_7 =>
      intro i s_7 σ F' H' hB
      obtain ⟨z_7_4, xs_7_6, rfl, W, SM7, r_7_6, f_7_6, g_7_6, l_7_6, inv⟩ := hB
      have r0 := Rep.mono SM7 r0
      have r_1 := Rep.mono SM7 r_1
      have r_2 := Rep.mono SM7 r_2
      have r_4 := Rep.mono SM7 r_4
      have r_5 := Rep.mono SM7 r_5
      exact W.fh
    case turn_7 =>
      intro i _law_choice_7 s_7 σ F_7 H_7 v_7 kk hx_7 hB rx_7 e
      have hm_7 := List.mem_of_getElem? hx_7
      have hi_7 := (List.getElem?_eq_some_iff.mp hx_7).1
      obtain ⟨z_7_4, xs_7_6, rfl, W, SM7, r_7_6, f_7_6, g_7_6, l_7_6, inv⟩ := hB
      have r0 := Rep.mono SM7 r0
      have r_1 := Rep.mono SM7 r_1
      have r_2 := Rep.mono SM7 r_2
      have r_4 := Rep.mono SM7 r_4
      have r_5 := Rep.mono SM7 r_5
      have ST7 := Same.refl F_7
      refine b_one (s_if (et_tmp f_7_6 g_7_6 (et_cmp (op_notInD (hu65 hr)) rr_notIn (ev_var 4 rfl (Rep.mono (same_new (o := .lst xs_7_6) f_7_6) rx_7)) (ev_var 6 rfl (rep_openG f_7_6 l_7_6 r_7_6)))) W.fh (fun hb_8 F_8 H_8 w_8 => ?_) (fun hb_8 F_8 H_8 w_8 => ?_))
      · --
        have W := W.trans w_8
        have SM7 := SM7.trans w_8.ff
        have ST7 := ST7.trans w_8.ff
        have r0 := Rep.mono w_8.ff r0
        have r_1 := Rep.mono w_8.ff r_1
        have r_2 := Rep.mono w_8.ff r_2
        have r_4 := Rep.mono w_8.ff r_4
        have r_5 := Rep.mono w_8.ff r_5
        have r_7_6 := reps_mono w_8.ff r_7_6
        have f_7_6 := w_8.off f_7_6 g_7_6
        have g_7_6 := w_8.hh _ _ g_7_6
        have rx_7 := Rep.mono w_8.ff rx_7
        have e := ift e hb_8
        have hp_8 := hb_8
        try simp only [inB_t, inB_f, decide_eq_true_eq, decide_eq_false_iff_not, Bool.and_eq_true, Bool.or_eq_true, Bool.and_eq_false_iff, Bool.or_eq_false_iff, Bool.not_eq_true', Bool.not_eq_false', Bool.not_eq_eq_eq_not, Bool.not_true, Bool.not_false] at hp_8
        refine b_one (s_append (er_var 6 rfl) (ev_var 4 rfl rx_7) W.fh g_7_6 (by rw [r_7_6.len]; exact (by have h := ded_le inv; have h2 := hi_7; rw [(srtL_perm _).length_eq] at h2; exact sz_lt (by clear e; omega))) fun v_9 F_9 H_9 w_9 r_9 => ?_)
        have hl_9 : (xs_7_6 ++ [v_9]).length ≤ sizeLine := by rw [List.length_append, List.length_singleton, r_7_6.len]; exact Nat.succ_le_of_lt (by have h := ded_le inv; have h2 := hi_7; rw [(srtL_perm _).length_eq] at h2; exact sz_lt (by clear e; omega))
        have rn_9 := (reps_mono w_9.ff r_7_6).app (.one r_9)
        have W := (W.trans w_9).mut (o := .lst (xs_7_6 ++ [v_9])) h_6 (w_9.off f_7_6 g_7_6) (w_9.hh _ _ g_7_6)
        have SM7 := SM7.trans w_9.ff
        have ST7 := ST7.trans w_9.ff
        have r0 := Rep.mono w_9.ff r0
        have r_1 := Rep.mono w_9.ff r_1
        have r_2 := Rep.mono w_9.ff r_2
        have r_4 := Rep.mono w_9.ff r_4
        have r_5 := Rep.mono w_9.ff r_5
        have rx_7 := Rep.mono w_9.ff rx_7
        have f_9 := w_9.off f_7_6 g_7_6
        have g_9 := upd_same (H := H_9) (a := p_6) (o := .lst (xs_7_6 ++ [v_9]))
        obtain ⟨_law_full_9, e_9⟩ : ∃ y, y = (s_7 ++ [_law_choice_7]) := ⟨_, rfl⟩
        have rn_9 := reps_eq rn_9 e_9
        have e := bnd_eq e e_9
        exact ⟨_law_full_9, _, ST7, ⟨_, _, rfl, W, SM7, rn_9, f_9, g_9, hl_9, (by first | exact ded_put inv hx_7 hp_8 e_9 | exact ded_skip inv hx_7 hp_8)⟩, e⟩
      · --
        have W := W.trans w_8
        have SM7 := SM7.trans w_8.ff
        have ST7 := ST7.trans w_8.ff
        have r0 := Rep.mono w_8.ff r0
        have r_1 := Rep.mono w_8.ff r_1
        have r_2 := Rep.mono w_8.ff r_2
        have r_4 := Rep.mono w_8.ff r_4
        have r_5 := Rep.mono w_8.ff r_5
        have r_7_6 := reps_mono w_8.ff r_7_6
        have f_7_6 := w_8.off f_7_6 g_7_6
        have g_7_6 := w_8.hh _ _ g_7_6
        have rx_7 := Rep.mono w_8.ff rx_7
        have e := MP.iff e hb_8
        have hp_8 := hb_8
        try simp only [inB_t, inB_f, decide_eq_true_eq, decide_eq_false_iff_not, Bool.and_eq_true, Bool.or_eq_true, Bool.and_eq_false_iff, Bool.or_eq_false_iff, Bool.not_eq_true', Bool.not_eq_false', Bool.not_eq_eq_eq_not, Bool.not_true, Bool.not_false] at hp_8
        refine b_nil ?_
        exact ⟨s_7, _, ST7, ⟨_, _, rfl, W, SM7, r_7_6, f_7_6, g_7_6, l_7_6, (by first | exact ded_put inv hx_7 hp_8 e_9 | exact ded_skip inv hx_7 hp_8)⟩, e⟩
    case done_7 =>
      intro s_7 σ F_7 H_7 hB e
      obtain ⟨z_7_4, xs_7_6, rfl, W, SM7, r_7_6, f_7_6, g_7_6, l_7_6, inv⟩ := hB
      have r0 := Rep.mono SM7 r0
      have r_1 := Rep.mono SM7 r_1
      have r_2 := Rep.mono SM7 r_2
      have r_4 := Rep.mono SM7 r_4
      have r_5 := Rep.mono SM7 r_5
      have W := W.tell h_6 f_7_6 g_7_6
      have r0 := Rep.mono (same_new (o := .lst xs_7_6) f_7_6) r0
      have r_1 := Rep.mono (same_new (o := .lst xs_7_6) f_7_6) r_1
      have r_2 := Rep.mono (same_new (o := .lst xs_7_6) f_7_6) r_2
      have r_4 := Rep.mono (same_new (o := .lst xs_7_6) f_7_6) r_4
      have r_5 := Rep.mono (same_new (o := .lst xs_7_6) f_7_6) r_5
      have r_10 := rep_openG f_7_6 l_7_6 r_7_6
      refine b_cons (s_asg 7 nd (ev_cats (ev_cats (ev_strI B.str (ev_var 2 rfl r_2) (by exact big_ok cc)) ev_str (by exact sz_of (Nat.le_trans (head_len cc) (by decide)))) (ev_join ev_str (EvN.ev (EvC.evn rfl nd (evn_lc 4 nd (ei_list (ev_var 6 rfl r_10)) (fun _law_choice_11 m_11 u_11 F_11 H_11 w_11 r_11 _ _ _ _ _ => (ev_call1 pass0 (hr.mono (by decide)) C__law_words (ev_var 4 rfl r_11) (by have h := (seen t4 l4 inv).2.2.1.2 _ m_11; exact ⟨Nat.le_trans h.1 (by decide), h.2⟩)))))) (by exact (seen t4 l4 inv).2.2.1.sz)) (by have h1 := head_len cc; have h2 : (Txt.join (", " : Str) (s_7.map fun r => m__law_words r)).length ≤ 300300 := (seen t4 l4 inv).2.2.1.join; rw [len_app]; exact sz_of (by clear e; omega))) W.fh fun v_12 F_12 H_12 w_12 r_12 => ?_)
      have W := W.trans w_12
      have r0 := Rep.mono w_12.ff r0
      have r_1 := Rep.mono w_12.ff r_1
      have r_2 := Rep.mono w_12.ff r_2
      have r_4 := Rep.mono w_12.ff r_4
      have r_5 := Rep.mono w_12.ff r_5
      have r_10 := Rep.mono w_12.ff r_10
      obtain ⟨_law_text_12, e_12⟩ : ∃ y, y = (((strI _law_count_2) ++ (": " : Str)) ++ (Txt.join (", " : Str) (s_7.map fun (_law_choice_11 : (List Int)) => (m__law_words _law_choice_11)))) := ⟨_, rfl⟩
      have r_12 := rep_eq r_12 e_12
      have e := bnd_eq e e_12
      have g7 := seen t4 l4 inv
      have x12 : 2 ≤ _law_text_12.length ∧ _law_text_12.length ≤ 300304 := by rw [e_12]; exact text_len cc g7.2.2.1
      have n7 : 0 < (s_7.length : Int) := by have h := List.length_pos_iff.mpr g7.2.2.2; clear e; omega
      refine b_cons (s_asg 8 nd (ev_call1 pass0 (hr.mono (by decide)) C_shown (ev_var 5 rfl r_5) (by rw [f5]; exact tab_shown t4 l4)) W.fh fun v_13 F_13 H_13 w_13 r_13 => ?_)
      have W := W.trans w_13
      have r0 := Rep.mono w_13.ff r0
      have r_1 := Rep.mono w_13.ff r_1
      have r_2 := Rep.mono w_13.ff r_2
      have r_4 := Rep.mono w_13.ff r_4
      have r_5 := Rep.mono w_13.ff r_5
      have r_10 := Rep.mono w_13.ff r_10
      have r_12 := Rep.mono w_13.ff r_12
      obtain ⟨_law_found_13, e_13⟩ : ∃ y, y = (m_shown _law_rule_5) := ⟨_, rfl⟩
      have r_13 := rep_eq r_13 e_13
      have e := bnd_eq e e_13
      have f13 : _law_found_13 = m_shown (ruleOf _law_count_2 _law_table_here_4) := by rw [e_13, f5]
      have x13 : _law_found_13.length ≤ 300304 := by rw [f13]; exact (text_len cc (tab_rows t4.full (Nat.le_trans (full_len _) (by clear e; omega)))).2
      refine b_cons (s_if (et_w (ew_or (et_not (et_val (ev_isi (t := "str") (T := "str") (res := true) B.isi B.str (by decide +kernel) ty_str (by decide +kernel) (ev_var 8 rfl r_13)))) fun hs14 => (ew_or1 (et_cmp op_ne rr_neS (ev_var 8 rfl r_13) (ev_var 7 rfl r_12))))) W.fh (fun hb_16 F_16 H_16 w_16 => ?_) (fun hb_16 F_16 H_16 w_16 => ?_))
      · --
        have W := W.trans w_16
        have r0 := Rep.mono w_16.ff r0
        have r_1 := Rep.mono w_16.ff r_1
        have r_2 := Rep.mono w_16.ff r_2
        have r_4 := Rep.mono w_16.ff r_4
        have r_5 := Rep.mono w_16.ff r_5
        have r_10 := Rep.mono w_16.ff r_10
        have r_12 := Rep.mono w_16.ff r_12
        have r_13 := Rep.mono w_16.ff r_13
        have e := ift e hb_16
        have hp_16 := hb_16
        try simp only [inB_t, inB_f, decide_eq_true_eq, decide_eq_false_iff_not, Bool.and_eq_true, Bool.or_eq_true, Bool.and_eq_false_iff, Bool.or_eq_false_iff, Bool.not_eq_true', Bool.not_eq_false', Bool.not_eq_eq_eq_not, Bool.not_true, Bool.not_false] at hp_16
        exact b_one (s_ret ev_bl W.fh fun v F1 H1 w1 r1 => q v F1 H1 (W.trans w1) (rep_eq r1 e))
      · --
        have W := W.trans w_16
        have r0 := Rep.mono w_16.ff r0
        have r_1 := Rep.mono w_16.ff r_1
        have r_2 := Rep.mono w_16.ff r_2
        have r_4 := Rep.mono w_16.ff r_4
        have r_5 := Rep.mono w_16.ff r_5
        have r_10 := Rep.mono w_16.ff r_10
        have r_12 := Rep.mono w_16.ff r_12
        have r_13 := Rep.mono w_16.ff r_13
        have e := MP.iff e hb_16
        have hp_16 := hb_16
        try simp only [inB_t, inB_f, decide_eq_true_eq, decide_eq_false_iff_not, Bool.and_eq_true, Bool.or_eq_true, Bool.and_eq_false_iff, Bool.or_eq_false_iff, Bool.not_eq_true', Bool.not_eq_false', Bool.not_eq_eq_eq_not, Bool.not_true, Bool.not_false] at hp_16
        refine b_nil ?_
        refine b_cons (s_asg 9 nd (ev_call2 pass0 (hr.mono (by decide)) C__law_cell_at (ev_var 0 rfl r0) ev_int (by unfold pre__law_cell_at; walk_at "vc")) W.fh fun v_17 F_17 H_17 w_17 r_17 => ?_)
        have W := W.trans w_17
        have r0 := Rep.mono w_17.ff r0
        have r_1 := Rep.mono w_17.ff r_1
        have r_2 := Rep.mono w_17.ff r_2
        have r_4 := Rep.mono w_17.ff r_4
        have r_5 := Rep.mono w_17.ff r_5
        have r_10 := Rep.mono w_17.ff r_10
        have r_12 := Rep.mono w_17.ff r_12
        have r_13 := Rep.mono w_17.ff r_13
        obtain ⟨_law_more_17, e_17⟩ : ∃ y, y = (m__law_cell_at _law_script (3 : Int)) := ⟨_, rfl⟩
        have r_17 := rep_eq r_17 e_17
        have e := bnd_eq e e_17
        refine b_cons (s_join (S := Str) (fun s_18 σ F' H' => ∃ (y_18_7 : V) (z_18_10 : Option V), σ = [some v0, some v_1, some v_2, some v_4, z_7_4, some v_5, some (.ref p_6), some y_18_7, some v_13, some v_17, z_18_10, none, none, none, none] ∧ Wk F H F' H' ∧ Same F_17 F' ∧ rep K F' y_18_7 s_18 ∧ 2 ≤ s_18.length ∧ s_18.length ≤ 300304) (et_cmp op_eq rr_eqI (ev_mod (ev_var 9 rfl r_17) ev_int (by decide)) ev_int) W.fh e (fun hb_18 F_18 H_18 w_18 kk e => ?_) (fun hb_18 F_18 H_18 w_18 kk e => ?_) (fun s_18 σ F_18 H_18 hB e => ?_))
        ·
          have SM18 := Same.refl F_17
          have W := W.trans w_18
          have SM18 := SM18.trans w_18.ff
          have r0 := Rep.mono w_18.ff r0
          have r_1 := Rep.mono w_18.ff r_1
          have r_2 := Rep.mono w_18.ff r_2
          have r_4 := Rep.mono w_18.ff r_4
          have r_5 := Rep.mono w_18.ff r_5
          have r_10 := Rep.mono w_18.ff r_10
          have r_12 := Rep.mono w_18.ff r_12
          have r_13 := Rep.mono w_18.ff r_13
          have r_17 := Rep.mono w_18.ff r_17
          have e := ift e hb_18
          have hp_18 := hb_18
          try simp only [inB_t, inB_f, decide_eq_true_eq, decide_eq_false_iff_not, Bool.and_eq_true, Bool.or_eq_true, Bool.and_eq_false_iff, Bool.or_eq_false_iff, Bool.not_eq_true', Bool.not_eq_false', Bool.not_eq_eq_eq_not, Bool.not_true, Bool.not_false] at hp_18
          refine b_cons (s_asg 10 nd (EvN.ev (evn_cat (EvN.ev (EvC.evn rfl nd (evn_lc 4 nd (ei_list (EvN.ev (evn_rev (ev_var 6 rfl r_10)))) (fun _law_choice_19 m_19 u_19 F_19 H_19 w_19 r_19 _ _ _ _ _ => (EvN.ev (evn_rev (ev_var 4 rfl r_19))))))) (EvN.ev (evn_lst (el_cons (ev_ixL (ev_var 6 rfl r_10) (ev_mod (ev_div (ev_var 9 rfl r_17) ev_int ⟨by decide, by decide⟩) (ev_len B.len (ev_var 6 rfl r_10)) (by exact n7)) (by exact mod_ix n7)) el_nil) (by decide : (1 : Nat) ≤ sizeLine))) (by have h := g7.2.1; rw [List.length_map, List.length_reverse, List.length_singleton]; exact sz_of (by clear e; omega)))) W.fh fun v_20 F_20 H_20 w_20 r_20 => ?_)
          have W := W.trans w_20
          have SM18 := SM18.trans w_20.ff
          have r0 := Rep.mono w_20.ff r0
          have r_1 := Rep.mono w_20.ff r_1
          have r_2 := Rep.mono w_20.ff r_2
          have r_4 := Rep.mono w_20.ff r_4
          have r_5 := Rep.mono w_20.ff r_5
          have r_10 := Rep.mono w_20.ff r_10
          have r_12 := Rep.mono w_20.ff r_12
          have r_13 := Rep.mono w_20.ff r_13
          have r_17 := Rep.mono w_20.ff r_17
          obtain ⟨_law_turned_rows_20, e_20⟩ : ∃ y, y = (((s_7).reverse.map fun (_law_choice_19 : (List Int)) => (_law_choice_19).reverse) ++ [(gi s_7 ((_law_more_17 / (4 : Int)) % (s_7.length : Int)))]) := ⟨_, rfl⟩
          have r_20 := rep_eq r_20 e_20
          have e := bnd_eq e e_20
          have g20 : RowsOk _law_turned_rows_20 := by rw [e_20]; exact g7.2.2.1.turn g7.2.1 (gi_mem (mod_ix n7))
          refine b_one (s_asg 7 nd (ev_cats (ev_cats (ev_strI B.str (ev_var 2 rfl r_2) (by exact big_ok cc)) ev_str (by exact sz_of (Nat.le_trans (head_len cc) (by decide)))) (ev_join ev_str (EvN.ev (EvC.evn rfl nd (evn_lc 4 nd (ei_list (ev_var 10 rfl r_20)) (fun _law_choice_21 m_21 u_21 F_21 H_21 w_21 r_21 _ _ _ _ _ => (ev_call1 pass0 (hr.mono (by decide)) C__law_words (ev_var 4 rfl r_21) (by have h := g20.2 _ m_21; exact ⟨Nat.le_trans h.1 (by decide), h.2⟩)))))) (by exact g20.sz)) (by have h1 := head_len cc; have h2 : (Txt.join (", " : Str) (_law_turned_rows_20.map fun r => m__law_words r)).length ≤ 300300 := g20.join; rw [len_app]; exact sz_of (by clear e; omega))) W.fh fun v_22 F_22 H_22 w_22 r_22 => ?_)
          have W := W.trans w_22
          have SM18 := SM18.trans w_22.ff
          have r0 := Rep.mono w_22.ff r0
          have r_1 := Rep.mono w_22.ff r_1
          have r_2 := Rep.mono w_22.ff r_2
          have r_4 := Rep.mono w_22.ff r_4
          have r_5 := Rep.mono w_22.ff r_5
          have r_10 := Rep.mono w_22.ff r_10
          have r_13 := Rep.mono w_22.ff r_13
          have r_17 := Rep.mono w_22.ff r_17
          have r_20 := Rep.mono w_22.ff r_20
          obtain ⟨_law_text_22, e_22⟩ : ∃ y, y = (((strI _law_count_2) ++ (": " : Str)) ++ (Txt.join (", " : Str) (_law_turned_rows_20.map fun (_law_choice_21 : (List Int)) => (m__law_words _law_choice_21)))) := ⟨_, rfl⟩
          have r_22 := rep_eq r_22 e_22
          have e := bnd_eq e e_22
          exact ⟨_law_text_22, _, ⟨_, _, rfl, W, SM18, r_22, (by rw [e_22]; exact text_len cc g20)⟩, e⟩
        ·
          have SM18 := Same.refl F_17
          have W := W.trans w_18
          have SM18 := SM18.trans w_18.ff
          have r0 := Rep.mono w_18.ff r0
          have r_1 := Rep.mono w_18.ff r_1
          have r_2 := Rep.mono w_18.ff r_2
          have r_4 := Rep.mono w_18.ff r_4
          have r_5 := Rep.mono w_18.ff r_5
          have r_10 := Rep.mono w_18.ff r_10
          have r_12 := Rep.mono w_18.ff r_12
          have r_13 := Rep.mono w_18.ff r_13
          have r_17 := Rep.mono w_18.ff r_17
          have e := MP.iff e hb_18
          have hp_18 := hb_18
          try simp only [inB_t, inB_f, decide_eq_true_eq, decide_eq_false_iff_not, Bool.and_eq_true, Bool.or_eq_true, Bool.and_eq_false_iff, Bool.or_eq_false_iff, Bool.not_eq_true', Bool.not_eq_false', Bool.not_eq_eq_eq_not, Bool.not_true, Bool.not_false] at hp_18
          exact b_nil ⟨_law_text_12, _, ⟨_, _, rfl, W, SM18, r_12, x12⟩, e⟩
        obtain ⟨y_18_7, z_18_10, rfl, W, SM18, r_18_7, inv⟩ := hB
        have r0 := Rep.mono SM18 r0
        have r_1 := Rep.mono SM18 r_1
        have r_2 := Rep.mono SM18 r_2
        have r_4 := Rep.mono SM18 r_4
        have r_5 := Rep.mono SM18 r_5
        have r_10 := Rep.mono SM18 r_10
        have r_13 := Rep.mono SM18 r_13
        have r_17 := Rep.mono SM18 r_17
        refine b_cons (s_join (S := Str) (fun s_23 σ F' H' => ∃ (y_23_7 : V), σ = [some v0, some v_1, some v_2, some v_4, z_7_4, some v_5, some (.ref p_6), some y_23_7, some v_13, some v_17, z_18_10, none, none, none, none] ∧ Wk F H F' H' ∧ Same F_18 F' ∧ rep K F' y_23_7 s_23 ∧ s_23.length ≤ 600609) (et_cmp op_eq rr_eqI (ev_mod (ev_var 9 rfl r_17) ev_int (by decide)) ev_int) W.fh e (fun hb_23 F_23 H_23 w_23 kk e => ?_) (fun hb_23 F_23 H_23 w_23 kk e => ?_) (fun s_23 σ F_23 H_23 hB e => ?_))
        ·
          have SM23 := Same.refl F_18
          have W := W.trans w_23
          have SM23 := SM23.trans w_23.ff
          have r0 := Rep.mono w_23.ff r0
          have r_1 := Rep.mono w_23.ff r_1
          have r_2 := Rep.mono w_23.ff r_2
          have r_4 := Rep.mono w_23.ff r_4
          have r_5 := Rep.mono w_23.ff r_5
          have r_10 := Rep.mono w_23.ff r_10
          have r_18_7 := Rep.mono w_23.ff r_18_7
          have r_13 := Rep.mono w_23.ff r_13
          have r_17 := Rep.mono w_23.ff r_17
          have e := ift e hb_23
          have hp_23 := hb_23
          try simp only [inB_t, inB_f, decide_eq_true_eq, decide_eq_false_iff_not, Bool.and_eq_true, Bool.or_eq_true, Bool.and_eq_false_iff, Bool.or_eq_false_iff, Bool.not_eq_true', Bool.not_eq_false', Bool.not_eq_eq_eq_not, Bool.not_true, Bool.not_false] at hp_23
          refine b_one (s_asg 7 nd (ev_call3 pass0 (hr.mono (by decide)) C__law_changed (ev_var 7 rfl r_18_7) (ev_div (ev_var 9 rfl r_17) ev_int ⟨by decide, by decide⟩) (ev_mul ev_int (ev_intB B.int (ev_cmp op_gt rr_gtI (ev_len B.len (ev_var 6 rfl r_10)) ev_int)) (.inl ⟨by decide, by decide⟩)) (by exact ⟨by have h := inv.2; clear e; omega, by split <;> decide, by have h := inv.1; split <;> (clear e; omega)⟩)) W.fh fun v_24 F_24 H_24 w_24 r_24 => ?_)
          have W := W.trans w_24
          have SM23 := SM23.trans w_24.ff
          have r0 := Rep.mono w_24.ff r0
          have r_1 := Rep.mono w_24.ff r_1
          have r_2 := Rep.mono w_24.ff r_2
          have r_4 := Rep.mono w_24.ff r_4
          have r_5 := Rep.mono w_24.ff r_5
          have r_10 := Rep.mono w_24.ff r_10
          have r_13 := Rep.mono w_24.ff r_13
          have r_17 := Rep.mono w_24.ff r_17
          obtain ⟨_law_text_24, e_24⟩ : ∃ y, y = (m__law_changed s_18 (_law_more_17 / (4 : Int)) ((2 : Int) * (if (decide ((4 : Int) < (s_7.length : Int))) = true then (1 : Int) else 0))) := ⟨_, rfl⟩
          have r_24 := rep_eq r_24 e_24
          have e := bnd_eq e e_24
          exact ⟨_law_text_24, _, ⟨_, rfl, W, SM23, r_24, (by rw [e_24]; exact Nat.le_trans changed_len (by have h := inv.2; omega))⟩, e⟩
        ·
          have SM23 := Same.refl F_18
          have W := W.trans w_23
          have SM23 := SM23.trans w_23.ff
          have r0 := Rep.mono w_23.ff r0
          have r_1 := Rep.mono w_23.ff r_1
          have r_2 := Rep.mono w_23.ff r_2
          have r_4 := Rep.mono w_23.ff r_4
          have r_5 := Rep.mono w_23.ff r_5
          have r_10 := Rep.mono w_23.ff r_10
          have r_18_7 := Rep.mono w_23.ff r_18_7
          have r_13 := Rep.mono w_23.ff r_13
          have r_17 := Rep.mono w_23.ff r_17
          have e := MP.iff e hb_23
          have hp_23 := hb_23
          try simp only [inB_t, inB_f, decide_eq_true_eq, decide_eq_false_iff_not, Bool.and_eq_true, Bool.or_eq_true, Bool.and_eq_false_iff, Bool.or_eq_false_iff, Bool.not_eq_true', Bool.not_eq_false', Bool.not_eq_eq_eq_not, Bool.not_true, Bool.not_false] at hp_23
          exact b_nil ⟨s_18, _, ⟨_, rfl, W, SM23, r_18_7, (by have h := inv.2; omega)⟩, e⟩
        obtain ⟨y_23_7, rfl, W, SM23, r_23_7, inv⟩ := hB
        have r0 := Rep.mono SM23 r0
        have r_1 := Rep.mono SM23 r_1
        have r_2 := Rep.mono SM23 r_2
        have r_4 := Rep.mono SM23 r_4
        have r_5 := Rep.mono SM23 r_5
        have r_10 := Rep.mono SM23 r_10
        have r_13 := Rep.mono SM23 r_13
        have r_17 := Rep.mono SM23 r_17
        refine b_cons (s_join (S := Str) (fun s_25 σ F' H' => ∃ (y_25_7 : V), σ = [some v0, some v_1, some v_2, some v_4, z_7_4, some v_5, some (.ref p_6), some y_25_7, some v_13, some v_17, z_18_10, none, none, none, none] ∧ Wk F H F' H' ∧ Same F_23 F' ∧ rep K F' y_25_7 s_25 ∧ s_25.length ≤ 600609) (et_cmp op_eq rr_eqI (ev_mod (ev_var 9 rfl r_17) ev_int (by decide)) ev_int) W.fh e (fun hb_25 F_25 H_25 w_25 kk e => ?_) (fun hb_25 F_25 H_25 w_25 kk e => ?_) (fun s_25 σ F_25 H_25 hB e => ?_))
        ·
          have SM25 := Same.refl F_23
          have W := W.trans w_25
          have SM25 := SM25.trans w_25.ff
          have r0 := Rep.mono w_25.ff r0
          have r_1 := Rep.mono w_25.ff r_1
          have r_2 := Rep.mono w_25.ff r_2
          have r_4 := Rep.mono w_25.ff r_4
          have r_5 := Rep.mono w_25.ff r_5
          have r_10 := Rep.mono w_25.ff r_10
          have r_23_7 := Rep.mono w_25.ff r_23_7
          have r_13 := Rep.mono w_25.ff r_13
          have r_17 := Rep.mono w_25.ff r_17
          have e := ift e hb_25
          have hp_25 := hb_25
          try simp only [inB_t, inB_f, decide_eq_true_eq, decide_eq_false_iff_not, Bool.and_eq_true, Bool.or_eq_true, Bool.and_eq_false_iff, Bool.or_eq_false_iff, Bool.not_eq_true', Bool.not_eq_false', Bool.not_eq_eq_eq_not, Bool.not_true, Bool.not_false] at hp_25
          refine b_one (s_asg 7 nd (ev_call1 pass0 (hr.mono (by decide)) C__law_odd_line (ev_div (ev_var 9 rfl r_17) ev_int ⟨by decide, by decide⟩) trivial) W.fh fun v_26 F_26 H_26 w_26 r_26 => ?_)
          have W := W.trans w_26
          have SM25 := SM25.trans w_26.ff
          have r0 := Rep.mono w_26.ff r0
          have r_1 := Rep.mono w_26.ff r_1
          have r_2 := Rep.mono w_26.ff r_2
          have r_4 := Rep.mono w_26.ff r_4
          have r_5 := Rep.mono w_26.ff r_5
          have r_10 := Rep.mono w_26.ff r_10
          have r_13 := Rep.mono w_26.ff r_13
          have r_17 := Rep.mono w_26.ff r_17
          obtain ⟨_law_text_26, e_26⟩ : ∃ y, y = (m__law_odd_line (_law_more_17 / (4 : Int))) := ⟨_, rfl⟩
          have r_26 := rep_eq r_26 e_26
          have e := bnd_eq e e_26
          exact ⟨_law_text_26, _, ⟨_, rfl, W, SM25, r_26, (by rw [e_26]; exact Nat.le_trans (odd_len _) (by decide))⟩, e⟩
        ·
          have SM25 := Same.refl F_23
          have W := W.trans w_25
          have SM25 := SM25.trans w_25.ff
          have r0 := Rep.mono w_25.ff r0
          have r_1 := Rep.mono w_25.ff r_1
          have r_2 := Rep.mono w_25.ff r_2
          have r_4 := Rep.mono w_25.ff r_4
          have r_5 := Rep.mono w_25.ff r_5
          have r_10 := Rep.mono w_25.ff r_10
          have r_23_7 := Rep.mono w_25.ff r_23_7
          have r_13 := Rep.mono w_25.ff r_13
          have r_17 := Rep.mono w_25.ff r_17
          have e := MP.iff e hb_25
          have hp_25 := hb_25
          try simp only [inB_t, inB_f, decide_eq_true_eq, decide_eq_false_iff_not, Bool.and_eq_true, Bool.or_eq_true, Bool.and_eq_false_iff, Bool.or_eq_false_iff, Bool.not_eq_true', Bool.not_eq_false', Bool.not_eq_eq_eq_not, Bool.not_true, Bool.not_false] at hp_25
          exact b_nil ⟨s_23, _, ⟨_, rfl, W, SM25, r_23_7, inv⟩, e⟩
        obtain ⟨y_25_7, rfl, W, SM25, r_25_7, inv⟩ := hB
        have r0 := Rep.mono SM25 r0
        have r_1 := Rep.mono SM25 r_1
        have r_2 := Rep.mono SM25 r_2
        have r_4 := Rep.mono SM25 r_4
        have r_5 := Rep.mono SM25 r_5
        have r_10 := Rep.mono SM25 r_10
        have r_13 := Rep.mono SM25 r_13
        have r_17 := Rep.mono SM25 r_17
        refine b_cons (s_asg 11 nd (ev_call1 pass0 (hr.mono (by decide)) C__law_read (ev_var 7 rfl r_25_7) (by exact Nat.le_trans inv (by decide))) W.fh fun v_27 F_27 H_27 w_27 r_27 => ?_)
        have W := W.trans w_27
        have r0 := Rep.mono w_27.ff r0
        have r_1 := Rep.mono w_27.ff r_1
        have r_2 := Rep.mono w_27.ff r_2
        have r_4 := Rep.mono w_27.ff r_4
        have r_5 := Rep.mono w_27.ff r_5
        have r_10 := Rep.mono w_27.ff r_10
        have r_25_7 := Rep.mono w_27.ff r_25_7
        have r_13 := Rep.mono w_27.ff r_13
        have r_17 := Rep.mono w_27.ff r_17
        obtain ⟨_law_told_here_27, e_27⟩ : ∃ y, y = (m__law_read s_25) := ⟨_, rfl⟩
        have r_27 := rep_eq r_27 e_27
        have e := bnd_eq e e_27
        have j25 := inv
        refine b_cons (s_asg 12 nd (ev_call1 pass0 (hr.mono (by decide)) C__law_due (ev_var 11 rfl r_27) (by intro t ht; rw [e_27] at ht; have h := read_len ht; have h2 := j25; exact ⟨h.1, by omega, fun c hc => by have h3 := h.2.2.2 c hc; omega⟩)) W.fh fun v_28 F_28 H_28 w_28 r_28 => ?_)
        have W := W.trans w_28
        have r0 := Rep.mono w_28.ff r0
        have r_1 := Rep.mono w_28.ff r_1
        have r_2 := Rep.mono w_28.ff r_2
        have r_4 := Rep.mono w_28.ff r_4
        have r_5 := Rep.mono w_28.ff r_5
        have r_10 := Rep.mono w_28.ff r_10
        have r_25_7 := Rep.mono w_28.ff r_25_7
        have r_13 := Rep.mono w_28.ff r_13
        have r_17 := Rep.mono w_28.ff r_17
        have r_27 := Rep.mono w_28.ff r_27
        obtain ⟨_law_due_here_28, e_28⟩ : ∃ y, y = (m__law_due _law_told_here_27) := ⟨_, rfl⟩
        have r_28 := rep_eq r_28 e_28
        have e := bnd_eq e e_28
        refine b_cons (s_if (et_cmp op_ne rr_neI (ev_call1 pass0 (hr.mono (by decide)) C__law_told (ev_var 7 rfl r_25_7) (by exact Nat.le_trans j25 (by decide))) (ev_var 12 rfl r_28)) W.fh (fun hb_29 F_29 H_29 w_29 => ?_) (fun hb_29 F_29 H_29 w_29 => ?_))
        · --
          have W := W.trans w_29
          have r0 := Rep.mono w_29.ff r0
          have r_1 := Rep.mono w_29.ff r_1
          have r_2 := Rep.mono w_29.ff r_2
          have r_4 := Rep.mono w_29.ff r_4
          have r_5 := Rep.mono w_29.ff r_5
          have r_10 := Rep.mono w_29.ff r_10
          have r_25_7 := Rep.mono w_29.ff r_25_7
          have r_13 := Rep.mono w_29.ff r_13
          have r_17 := Rep.mono w_29.ff r_17
          have r_27 := Rep.mono w_29.ff r_27
          have r_28 := Rep.mono w_29.ff r_28
          have e := ift e hb_29
          have hp_29 := hb_29
          try simp only [inB_t, inB_f, decide_eq_true_eq, decide_eq_false_iff_not, Bool.and_eq_true, Bool.or_eq_true, Bool.and_eq_false_iff, Bool.or_eq_false_iff, Bool.not_eq_true', Bool.not_eq_false', Bool.not_eq_eq_eq_not, Bool.not_true, Bool.not_false] at hp_29
          exact b_one (s_ret ev_bl W.fh fun v F1 H1 w1 r1 => q v F1 H1 (W.trans w1) (rep_eq r1 e))
        · --
          have W := W.trans w_29
          have r0 := Rep.mono w_29.ff r0
          have r_1 := Rep.mono w_29.ff r_1
          have r_2 := Rep.mono w_29.ff r_2
          have r_4 := Rep.mono w_29.ff r_4
          have r_5 := Rep.mono w_29.ff r_5
          have r_10 := Rep.mono w_29.ff r_10
          have r_25_7 := Rep.mono w_29.ff r_25_7
          have r_13 := Rep.mono w_29.ff r_13
          have r_17 := Rep.mono w_29.ff r_17
          have r_27 := Rep.mono w_29.ff r_27
          have r_28 := Rep.mono w_29.ff r_28
          have e := MP.iff e hb_29
          have hp_29 := hb_29
          try simp only [inB_t, inB_f, decide_eq_true_eq, decide_eq_false_iff_not, Bool.and_eq_true, Bool.or_eq_true, Bool.and_eq_false_iff, Bool.or_eq_false_iff, Bool.not_eq_true', Bool.not_eq_false', Bool.not_eq_eq_eq_not, Bool.not_true, Bool.not_false] at hp_29
          refine b_nil ?_
          refine b_cons (s_if (et_cmp op_gt rr_gtI (ev_var 12 rfl r_28) ev_int) W.fh (fun hb_30 F_30 H_30 w_30 => ?_) (fun hb_30 F_30 H_30 w_30 => ?_))
          · --
            have W := W.trans w_30
            have r0 := Rep.mono w_30.ff r0
            have r_1 := Rep.mono w_30.ff r_1
            have r_2 := Rep.mono w_30.ff r_2
            have r_4 := Rep.mono w_30.ff r_4
            have r_5 := Rep.mono w_30.ff r_5
            have r_10 := Rep.mono w_30.ff r_10
            have r_25_7 := Rep.mono w_30.ff r_25_7
            have r_13 := Rep.mono w_30.ff r_13
            have r_17 := Rep.mono w_30.ff r_17
            have r_27 := Rep.mono w_30.ff r_27
            have r_28 := Rep.mono w_30.ff r_28
            have e := ift e hb_30
            have hp_30 := hb_30
            try simp only [inB_t, inB_f, decide_eq_true_eq, decide_eq_false_iff_not, Bool.and_eq_true, Bool.or_eq_true, Bool.and_eq_false_iff, Bool.or_eq_false_iff, Bool.not_eq_true', Bool.not_eq_false', Bool.not_eq_eq_eq_not, Bool.not_true, Bool.not_false] at hp_30
            exact b_one (s_ret (ev_and (ev_or (ev_cmp op_gt rr_gtI (ev_var 12 rfl r_28) ev_int) fun hs31 => (ev_one (ev_call1 pass0 (hr.mono (by decide)) C__law_refused_alone (ev_var 7 rfl r_25_7) (by exact Nat.le_trans j25 (by decide))))) fun hs33 => (ev_one (ev_cmp op_eq rr_eqS (ev_call1 pass0 (hr.mono (by decide)) C_shown (EvP.ev (EvP.ok (EvP.rF (pcal1 atX0 (hr.mono (by decide)) C_read (ev_var 8 rfl r_13) (by exact Nat.le_trans x13 (by decide)))) (by rw [f13]; exact ⟨_, back t4 l4⟩))) (by rw [f13, back t4 l4]; exact tab_shown t4 l4)) (ev_var 8 rfl r_13)))) W.fh fun v F1 H1 w1 r1 => q v F1 H1 (W.trans w1) (rep_eq r1 e))
          · --
            have W := W.trans w_30
            have r0 := Rep.mono w_30.ff r0
            have r_1 := Rep.mono w_30.ff r_1
            have r_2 := Rep.mono w_30.ff r_2
            have r_4 := Rep.mono w_30.ff r_4
            have r_5 := Rep.mono w_30.ff r_5
            have r_10 := Rep.mono w_30.ff r_10
            have r_25_7 := Rep.mono w_30.ff r_25_7
            have r_13 := Rep.mono w_30.ff r_13
            have r_17 := Rep.mono w_30.ff r_17
            have r_27 := Rep.mono w_30.ff r_27
            have r_28 := Rep.mono w_30.ff r_28
            have e := MP.iff e hb_30
            have hp_30 := hb_30
            try simp only [inB_t, inB_f, decide_eq_true_eq, decide_eq_false_iff_not, Bool.and_eq_true, Bool.or_eq_true, Bool.and_eq_false_iff, Bool.or_eq_false_iff, Bool.not_eq_true', Bool.not_eq_false', Bool.not_eq_eq_eq_not, Bool.not_true, Bool.not_false] at hp_30
            obtain ⟨_law_told_here_35, hx_35⟩ : ∃ t, _law_told_here_27 = some t := due_some (by rw [← e_28]; exact hp_30)
            have e := bnd_eq e (optv_eq hx_35)
            have r_35 := rep_eq r_27 hx_35.symm
            have r_35 : rep K _ _ _law_told_here_35 := r_35
            refine b_nil ?_
            refine b_cons (s_asg 13 nd (EvP.ev (EvP.ok (EvP.rF (pcal1 atX0 (hr.mono (by decide)) C_read (ev_var 7 rfl r_25_7) (by exact Nat.le_trans j25 (by decide)))) (by obtain ⟨t, _, _, h⟩ := due_zero (x := s_25) (by rw [← e_27, ← e_28]; exact hp_30); exact ⟨_, h⟩))) W.fh fun v_36 F_36 H_36 w_36 r_36 => ?_)
            have W := W.trans w_36
            have r0 := Rep.mono w_36.ff r0
            have r_1 := Rep.mono w_36.ff r_1
            have r_2 := Rep.mono w_36.ff r_2
            have r_4 := Rep.mono w_36.ff r_4
            have r_5 := Rep.mono w_36.ff r_5
            have r_10 := Rep.mono w_36.ff r_10
            have r_25_7 := Rep.mono w_36.ff r_25_7
            have r_13 := Rep.mono w_36.ff r_13
            have r_17 := Rep.mono w_36.ff r_17
            have r_35 := Rep.mono w_36.ff r_35
            have r_28 := Rep.mono w_36.ff r_28
            obtain ⟨_law_held_here_36, e_36⟩ : ∃ y, y = (okv (m_read s_25)) := ⟨_, rfl⟩
            have r_36 := rep_eq r_36 e_36
            have e := bnd_eq e e_36
            refine b_cons (s_asg 14 nd (EvP.ev (EvP.ok (EvP.rF (pcal1 atX0 (hr.mono (by decide)) C_read ev_str (by unfold pre_read; decide +kernel))) (by exact ⟨_, three_read⟩))) W.fh fun v_37 F_37 H_37 w_37 r_37 => ?_)
            have W := W.trans w_37
            have r0 := Rep.mono w_37.ff r0
            have r_1 := Rep.mono w_37.ff r_1
            have r_2 := Rep.mono w_37.ff r_2
            have r_4 := Rep.mono w_37.ff r_4
            have r_5 := Rep.mono w_37.ff r_5
            have r_10 := Rep.mono w_37.ff r_10
            have r_25_7 := Rep.mono w_37.ff r_25_7
            have r_13 := Rep.mono w_37.ff r_13
            have r_17 := Rep.mono w_37.ff r_17
            have r_35 := Rep.mono w_37.ff r_35
            have r_28 := Rep.mono w_37.ff r_28
            have r_36 := Rep.mono w_37.ff r_36
            obtain ⟨_law_other_37, e_37⟩ : ∃ y, y = (okv (m_read ("3: 0 1, 0 2, 1 2" : Str))) := ⟨_, rfl⟩
            have r_37 := rep_eq r_37 e_37
            have e := bnd_eq e e_37
            refine b_cons (s_asgN 6 nd (evn_nil (α := (List Int))) W.fh fun p_38 xs_38 F_38 H_38 w_38 r_38 f_38 h_38 g_38 l_38 => ?_)
            have h_38 := W.hfree h_38
            have W := W.trans w_38
            have r0 := Rep.mono w_38.ff r0
            have r_1 := Rep.mono w_38.ff r_1
            have r_2 := Rep.mono w_38.ff r_2
            have r_4 := Rep.mono w_38.ff r_4
            have r_5 := Rep.mono w_38.ff r_5
            have r_25_7 := Rep.mono w_38.ff r_25_7
            have r_13 := Rep.mono w_38.ff r_13
            have r_17 := Rep.mono w_38.ff r_17
            have r_35 := Rep.mono w_38.ff r_35
            have r_28 := Rep.mono w_38.ff r_28
            have r_36 := Rep.mono w_38.ff r_36
            have r_37 := Rep.mono w_38.ff r_37
            obtain ⟨_law_full_38, e_38⟩ : ∃ y, y = ([] : (List (List Int))) := ⟨_, rfl⟩
            have r_38 := reps_eq r_38 e_38
            have e := bnd_eq e e_38
            refine b_cons (s_for (S := (List (List Int))) (xs := (srtL (_law_told_here_35.2.map fun (_law_choice_39 : (List Int)) => (srt _law_choice_39)))) (fun i s_40 σ F' H' => ∃ (z_40_4 : Option V) (xs_40_6 : List V), σ = [some v0, some v_1, some v_2, some v_4, z_40_4, some v_5, some (.ref p_38), some y_25_7, some v_13, some v_17, z_18_10, some v_27, some v_28, some v_36, some v_37] ∧ Wk F H F' H' ∧ Same F_38 F' ∧ reps K F' xs_40_6 s_40 ∧ F' p_38 = Option.none ∧ H' p_38 = some (.lst xs_40_6) ∧ xs_40_6.length ≤ sizeLine ∧ s_40 = ((srtL (_law_told_here_35.2.map fun x => srt x)).take i).foldl dedF []) PassesOwn.never rfl (ei_list (EvN.ev (evn_sortedL B.sorted hr (EvN.ev (EvC.evn rfl nd (evn_lc 4 nd (ei_list (ev_snd (ev_var 11 rfl r_35))) (fun _law_choice_39 m_39 u_39 F_39 H_39 w_39 r_39 _ _ _ _ _ => (EvN.ev (evn_sorted B.sorted (ev_var 4 rfl r_39)))))))))) W.fh (pg_name (i := 4) nd rfl (by first | exact .inl rfl | exact .inr rfl)) ?h0_40 ?hs_40 e ?turn_40 ?done_40)
            case h0_40 => exact fun F1 H1 w1 => ⟨_, xs_38, rfl, W.trans w1, w1.ff, (reps_mono w1.ff r_38), (w1.off f_38 g_38), (w1.hh _ _ g_38), l_38, (by rw [e_38]; rfl)⟩
            case hs_40 =>
              intro i s_40 σ F' H' hB
              obtain ⟨z_40_4, xs_40_6, rfl, W, SM40, r_40_6, f_40_6, g_40_6, l_40_6, inv⟩ := hB
              have r0 := Rep.mono SM40 r0
              have r_1 := Rep.mono SM40 r_1
              have r_2 := Rep.mono SM40 r_2
              have r_4 := Rep.mono SM40 r_4
              have r_5 := Rep.mono SM40 r_5
              have r_25_7 := Rep.mono SM40 r_25_7
              have r_13 := Rep.mono SM40 r_13
              have r_17 := Rep.mono SM40 r_17
              have r_35 := Rep.mono SM40 r_35
              have r_28 := Rep.mono SM40 r_28
              have r_36 := Rep.mono SM40 r_36
              have r_37 := Rep.mono SM40 r_37
              exact W.fh
            case turn_40 =>
              intro i _law_choice_40 s_40 σ F_40 H_40 v_40 kk hx_40 hB rx_40 e
              have hm_40 := List.mem_of_getElem? hx_40
              have hi_40 := (List.getElem?_eq_some_iff.mp hx_40).1
              obtain ⟨z_40_4, xs_40_6, rfl, W, SM40, r_40_6, f_40_6, g_40_6, l_40_6, inv⟩ := hB
              have r0 := Rep.mono SM40 r0
              have r_1 := Rep.mono SM40 r_1
              have r_2 := Rep.mono SM40 r_2
              have r_4 := Rep.mono SM40 r_4
              have r_5 := Rep.mono SM40 r_5
              have r_25_7 := Rep.mono SM40 r_25_7
              have r_13 := Rep.mono SM40 r_13
              have r_17 := Rep.mono SM40 r_17
              have r_35 := Rep.mono SM40 r_35
              have r_28 := Rep.mono SM40 r_28
              have r_36 := Rep.mono SM40 r_36
              have r_37 := Rep.mono SM40 r_37
              have ST40 := Same.refl F_40
              refine b_one (s_if (et_tmp f_40_6 g_40_6 (et_cmp (op_notInD (hu65 hr)) rr_notIn (ev_var 4 rfl (Rep.mono (same_new (o := .lst xs_40_6) f_40_6) rx_40)) (ev_var 6 rfl (rep_openG f_40_6 l_40_6 r_40_6)))) W.fh (fun hb_41 F_41 H_41 w_41 => ?_) (fun hb_41 F_41 H_41 w_41 => ?_))
              · --
                have W := W.trans w_41
                have SM40 := SM40.trans w_41.ff
                have ST40 := ST40.trans w_41.ff
                have r0 := Rep.mono w_41.ff r0
                have r_1 := Rep.mono w_41.ff r_1
                have r_2 := Rep.mono w_41.ff r_2
                have r_4 := Rep.mono w_41.ff r_4
                have r_5 := Rep.mono w_41.ff r_5
                have r_25_7 := Rep.mono w_41.ff r_25_7
                have r_13 := Rep.mono w_41.ff r_13
                have r_17 := Rep.mono w_41.ff r_17
                have r_35 := Rep.mono w_41.ff r_35
                have r_28 := Rep.mono w_41.ff r_28
                have r_36 := Rep.mono w_41.ff r_36
                have r_37 := Rep.mono w_41.ff r_37
                have r_40_6 := reps_mono w_41.ff r_40_6
                have f_40_6 := w_41.off f_40_6 g_40_6
                have g_40_6 := w_41.hh _ _ g_40_6
                have rx_40 := Rep.mono w_41.ff rx_40
                have e := ift e hb_41
                have hp_41 := hb_41
                try simp only [inB_t, inB_f, decide_eq_true_eq, decide_eq_false_iff_not, Bool.and_eq_true, Bool.or_eq_true, Bool.and_eq_false_iff, Bool.or_eq_false_iff, Bool.not_eq_true', Bool.not_eq_false', Bool.not_eq_eq_eq_not, Bool.not_true, Bool.not_false] at hp_41
                refine b_one (s_append (er_var 6 rfl) (ev_var 4 rfl rx_40) W.fh g_40_6 (by rw [r_40_6.len]; exact (by have h := ded_le inv; have h2 := hi_40; rw [(srtL_perm _).length_eq, List.length_map] at h2; have h3 := (read_len (by rw [← e_27]; exact hx_35)).2.2.1; exact sz_lt (by clear e; omega))) fun v_42 F_42 H_42 w_42 r_42 => ?_)
                have hl_42 : (xs_40_6 ++ [v_42]).length ≤ sizeLine := by rw [List.length_append, List.length_singleton, r_40_6.len]; exact Nat.succ_le_of_lt (by have h := ded_le inv; have h2 := hi_40; rw [(srtL_perm _).length_eq, List.length_map] at h2; have h3 := (read_len (by rw [← e_27]; exact hx_35)).2.2.1; exact sz_lt (by clear e; omega))
                have rn_42 := (reps_mono w_42.ff r_40_6).app (.one r_42)
                have W := (W.trans w_42).mut (o := .lst (xs_40_6 ++ [v_42])) h_38 (w_42.off f_40_6 g_40_6) (w_42.hh _ _ g_40_6)
                have SM40 := SM40.trans w_42.ff
                have ST40 := ST40.trans w_42.ff
                have r0 := Rep.mono w_42.ff r0
                have r_1 := Rep.mono w_42.ff r_1
                have r_2 := Rep.mono w_42.ff r_2
                have r_4 := Rep.mono w_42.ff r_4
                have r_5 := Rep.mono w_42.ff r_5
                have r_25_7 := Rep.mono w_42.ff r_25_7
                have r_13 := Rep.mono w_42.ff r_13
                have r_17 := Rep.mono w_42.ff r_17
                have r_35 := Rep.mono w_42.ff r_35
                have r_28 := Rep.mono w_42.ff r_28
                have r_36 := Rep.mono w_42.ff r_36
                have r_37 := Rep.mono w_42.ff r_37
                have rx_40 := Rep.mono w_42.ff rx_40
                have f_42 := w_42.off f_40_6 g_40_6
                have g_42 := upd_same (H := H_42) (a := p_38) (o := .lst (xs_40_6 ++ [v_42]))
                obtain ⟨_law_full_42, e_42⟩ : ∃ y, y = (s_40 ++ [_law_choice_40]) := ⟨_, rfl⟩
                have rn_42 := reps_eq rn_42 e_42
                have e := bnd_eq e e_42
                exact ⟨_law_full_42, _, ST40, ⟨_, _, rfl, W, SM40, rn_42, f_42, g_42, hl_42, (by first | exact ded_put inv hx_40 hp_41 e_42 | exact ded_skip inv hx_40 hp_41)⟩, e⟩
              · --
                have W := W.trans w_41
                have SM40 := SM40.trans w_41.ff
                have ST40 := ST40.trans w_41.ff
                have r0 := Rep.mono w_41.ff r0
                have r_1 := Rep.mono w_41.ff r_1
                have r_2 := Rep.mono w_41.ff r_2
                have r_4 := Rep.mono w_41.ff r_4
                have r_5 := Rep.mono w_41.ff r_5
                have r_25_7 := Rep.mono w_41.ff r_25_7
                have r_13 := Rep.mono w_41.ff r_13
                have r_17 := Rep.mono w_41.ff r_17
                have r_35 := Rep.mono w_41.ff r_35
                have r_28 := Rep.mono w_41.ff r_28
                have r_36 := Rep.mono w_41.ff r_36
                have r_37 := Rep.mono w_41.ff r_37
                have r_40_6 := reps_mono w_41.ff r_40_6
                have f_40_6 := w_41.off f_40_6 g_40_6
                have g_40_6 := w_41.hh _ _ g_40_6
                have rx_40 := Rep.mono w_41.ff rx_40
                have e := MP.iff e hb_41
                have hp_41 := hb_41
                try simp only [inB_t, inB_f, decide_eq_true_eq, decide_eq_false_iff_not, Bool.and_eq_true, Bool.or_eq_true, Bool.and_eq_false_iff, Bool.or_eq_false_iff, Bool.not_eq_true', Bool.not_eq_false', Bool.not_eq_eq_eq_not, Bool.not_true, Bool.not_false] at hp_41
                refine b_nil ?_
                exact ⟨s_40, _, ST40, ⟨_, _, rfl, W, SM40, r_40_6, f_40_6, g_40_6, l_40_6, (by first | exact ded_put inv hx_40 hp_41 e_42 | exact ded_skip inv hx_40 hp_41)⟩, e⟩
            case done_40 =>
              intro s_40 σ F_40 H_40 hB e
              obtain ⟨z_40_4, xs_40_6, rfl, W, SM40, r_40_6, f_40_6, g_40_6, l_40_6, inv⟩ := hB
              have r0 := Rep.mono SM40 r0
              have r_1 := Rep.mono SM40 r_1
              have r_2 := Rep.mono SM40 r_2
              have r_4 := Rep.mono SM40 r_4
              have r_5 := Rep.mono SM40 r_5
              have r_25_7 := Rep.mono SM40 r_25_7
              have r_13 := Rep.mono SM40 r_13
              have r_17 := Rep.mono SM40 r_17
              have r_35 := Rep.mono SM40 r_35
              have r_28 := Rep.mono SM40 r_28
              have r_36 := Rep.mono SM40 r_36
              have r_37 := Rep.mono SM40 r_37
              have W := W.tell h_38 f_40_6 g_40_6
              have r0 := Rep.mono (same_new (o := .lst xs_40_6) f_40_6) r0
              have r_1 := Rep.mono (same_new (o := .lst xs_40_6) f_40_6) r_1
              have r_2 := Rep.mono (same_new (o := .lst xs_40_6) f_40_6) r_2
              have r_4 := Rep.mono (same_new (o := .lst xs_40_6) f_40_6) r_4
              have r_5 := Rep.mono (same_new (o := .lst xs_40_6) f_40_6) r_5
              have r_25_7 := Rep.mono (same_new (o := .lst xs_40_6) f_40_6) r_25_7
              have r_13 := Rep.mono (same_new (o := .lst xs_40_6) f_40_6) r_13
              have r_17 := Rep.mono (same_new (o := .lst xs_40_6) f_40_6) r_17
              have r_35 := Rep.mono (same_new (o := .lst xs_40_6) f_40_6) r_35
              have r_28 := Rep.mono (same_new (o := .lst xs_40_6) f_40_6) r_28
              have r_36 := Rep.mono (same_new (o := .lst xs_40_6) f_40_6) r_36
              have r_37 := Rep.mono (same_new (o := .lst xs_40_6) f_40_6) r_37
              have r_43 := rep_openG f_40_6 l_40_6 r_40_6
              refine b_cons (s_if (et_w (ew_or (et_cmp op_ne rr_neS (ev_call1 pass0 (hr.mono (by decide)) C_shown (ev_var 5 rfl r_5) (by rw [f5]; exact tab_shown t4 l4)) (ev_var 8 rfl r_13)) fun hs44 => (ew_or (et_cmp (op_neD (hu64 hr)) rr_neD (ev_full R (ev_var 14 rfl r_37)) (EvN.ev (evn_lst (el_cons (EvN.ev (evn_lst (el_cons ev_int (el_cons ev_int el_nil)) (by decide : (2 : Nat) ≤ sizeLine))) (el_cons (EvN.ev (evn_lst (el_cons ev_int (el_cons ev_int el_nil)) (by decide : (2 : Nat) ≤ sizeLine))) (el_cons (EvN.ev (evn_lst (el_cons ev_int (el_cons ev_int el_nil)) (by decide : (2 : Nat) ≤ sizeLine))) el_nil))) (by decide : (3 : Nat) ≤ sizeLine)))) fun hs45 => (ew_or1 (et_cmp op_ne rr_neI (ev_count R (ev_var 14 rfl r_37)) ev_int))))) W.fh (fun hb_47 F_47 H_47 w_47 => ?_) (fun hb_47 F_47 H_47 w_47 => ?_))
              · --
                have W := W.trans w_47
                have r0 := Rep.mono w_47.ff r0
                have r_1 := Rep.mono w_47.ff r_1
                have r_2 := Rep.mono w_47.ff r_2
                have r_4 := Rep.mono w_47.ff r_4
                have r_5 := Rep.mono w_47.ff r_5
                have r_25_7 := Rep.mono w_47.ff r_25_7
                have r_13 := Rep.mono w_47.ff r_13
                have r_17 := Rep.mono w_47.ff r_17
                have r_35 := Rep.mono w_47.ff r_35
                have r_28 := Rep.mono w_47.ff r_28
                have r_36 := Rep.mono w_47.ff r_36
                have r_37 := Rep.mono w_47.ff r_37
                have r_43 := Rep.mono w_47.ff r_43
                have e := ift e hb_47
                have hp_47 := hb_47
                try simp only [inB_t, inB_f, decide_eq_true_eq, decide_eq_false_iff_not, Bool.and_eq_true, Bool.or_eq_true, Bool.and_eq_false_iff, Bool.or_eq_false_iff, Bool.not_eq_true', Bool.not_eq_false', Bool.not_eq_eq_eq_not, Bool.not_true, Bool.not_false] at hp_47
                exact b_one (s_ret ev_bl W.fh fun v F1 H1 w1 r1 => q v F1 H1 (W.trans w1) (rep_eq r1 e))
              · --
                have W := W.trans w_47
                have r0 := Rep.mono w_47.ff r0
                have r_1 := Rep.mono w_47.ff r_1
                have r_2 := Rep.mono w_47.ff r_2
                have r_4 := Rep.mono w_47.ff r_4
                have r_5 := Rep.mono w_47.ff r_5
                have r_25_7 := Rep.mono w_47.ff r_25_7
                have r_13 := Rep.mono w_47.ff r_13
                have r_17 := Rep.mono w_47.ff r_17
                have r_35 := Rep.mono w_47.ff r_35
                have r_28 := Rep.mono w_47.ff r_28
                have r_36 := Rep.mono w_47.ff r_36
                have r_37 := Rep.mono w_47.ff r_37
                have r_43 := Rep.mono w_47.ff r_43
                have e := MP.iff e hb_47
                have hp_47 := hb_47
                try simp only [inB_t, inB_f, decide_eq_true_eq, decide_eq_false_iff_not, Bool.and_eq_true, Bool.or_eq_true, Bool.and_eq_false_iff, Bool.or_eq_false_iff, Bool.not_eq_true', Bool.not_eq_false', Bool.not_eq_eq_eq_not, Bool.not_true, Bool.not_false] at hp_47
                refine b_nil ?_
                exact b_one (s_ret (ev_and (ev_call1 pass0 (hr.mono (by decide)) C__law_whole (ev_count R (ev_var 13 rfl r_36)) trivial) fun hs48 => (ev_and (ev_cmp op_eq rr_eqI (ev_count R (ev_var 13 rfl r_36)) (ev_fst (ev_var 11 rfl r_35))) fun hs49 => (ev_one (ev_call2 pass0 (hr.mono (by decide)) C__law_rows_are (ev_full R (ev_var 13 rfl r_36)) (ev_var 6 rfl r_43) trivial)))) W.fh fun v F1 H1 w1 r1 => q v F1 H1 (W.trans w1) (rep_eq r1 e))
end
end MP
namespace MP
open PySem PySem.Spec PyProof.Rows L2 Rep
/-! ### what the top has written, as the law asks it -/
def spLawM (K : PySem.W.Frag) : Sp := sp1 K (fun _ => True) m_law (oF K)
theorem law_end {K : PySem.W.Frag} {H : Hp} {a : Addr} {ns : List Int} {E : XK} (hl : ns.length ≤ 63) (hS : SqL K H a (ns.map V.int)) : spLawM K [.ref a] H (fun v _ => v = .bl true) E :=
  ⟨H, Scr.mk ns, .ref a, rfl, Same.refl H, ⟨a, rfl, hS, hl⟩, trivial, fun v F' H' w r => (show v = .bl (m_law (Scr.mk ns)) from r).trans (congrArg V.bl (law_true _))⟩
theorem all_mk {l : PySem.W.OpenLaw} {w : World} {K : PySem.W.Frag} {h : Heap} {mg : Str → Option Value} {fa : Addr} {RC : Addr} {a_NoThing : Addr} {a_NoChoice : Addr} {a_NoExchange : Addr} {a_NoRule : Addr} {a_NoWeights : Addr} {a_PickError : Addr} {t_FIGURES : Tok} (X : K.In h) (G : h.Ns mainGlobals mg) (hfa : mg "law" = some (.ref fa))
    (hRK : RuleK K RC)
    (e_NoThing : ExK K "NoThing" a_NoThing)
    (e_NoChoice : ExK K "NoChoice" a_NoChoice)
    (e_NoExchange : ExK K "NoExchange" a_NoExchange)
    (e_NoRule : ExK K "NoRule" a_NoRule)
    (e_NoWeights : ExK K "NoWeights" a_NoWeights)
    (m_NoChoice_NoChoice : PySem.W.exmOne K (.ref a_NoChoice) (.ref a_NoChoice) = some true)
    (m_NoChoice_NoThing : PySem.W.exmOne K (.ref a_NoChoice) (.ref a_NoThing) = some false)
    (m_NoChoice_NoExchange : PySem.W.exmOne K (.ref a_NoChoice) (.ref a_NoExchange) = some false)
    (m_NoChoice_NoWeights : PySem.W.exmOne K (.ref a_NoChoice) (.ref a_NoWeights) = some false)
    (m_NoChoice_NoRule : PySem.W.exmOne K (.ref a_NoChoice) (.ref a_NoRule) = some false)
    (m_NoThing_NoChoice : PySem.W.exmOne K (.ref a_NoThing) (.ref a_NoChoice) = some false)
    (m_NoThing_NoThing : PySem.W.exmOne K (.ref a_NoThing) (.ref a_NoThing) = some true)
    (m_NoThing_NoExchange : PySem.W.exmOne K (.ref a_NoThing) (.ref a_NoExchange) = some false)
    (m_NoThing_NoWeights : PySem.W.exmOne K (.ref a_NoThing) (.ref a_NoWeights) = some false)
    (m_NoThing_NoRule : PySem.W.exmOne K (.ref a_NoThing) (.ref a_NoRule) = some false)
    (m_NoExchange_NoChoice : PySem.W.exmOne K (.ref a_NoExchange) (.ref a_NoChoice) = some false)
    (m_NoExchange_NoThing : PySem.W.exmOne K (.ref a_NoExchange) (.ref a_NoThing) = some false)
    (m_NoExchange_NoExchange : PySem.W.exmOne K (.ref a_NoExchange) (.ref a_NoExchange) = some true)
    (m_NoExchange_NoWeights : PySem.W.exmOne K (.ref a_NoExchange) (.ref a_NoWeights) = some false)
    (m_NoExchange_NoRule : PySem.W.exmOne K (.ref a_NoExchange) (.ref a_NoRule) = some false)
    (m_NoWeights_NoChoice : PySem.W.exmOne K (.ref a_NoWeights) (.ref a_NoChoice) = some false)
    (m_NoWeights_NoThing : PySem.W.exmOne K (.ref a_NoWeights) (.ref a_NoThing) = some false)
    (m_NoWeights_NoExchange : PySem.W.exmOne K (.ref a_NoWeights) (.ref a_NoExchange) = some false)
    (m_NoWeights_NoWeights : PySem.W.exmOne K (.ref a_NoWeights) (.ref a_NoWeights) = some true)
    (m_NoWeights_NoRule : PySem.W.exmOne K (.ref a_NoWeights) (.ref a_NoRule) = some false)
    (m_NoRule_NoChoice : PySem.W.exmOne K (.ref a_NoRule) (.ref a_NoChoice) = some false)
    (m_NoRule_NoThing : PySem.W.exmOne K (.ref a_NoRule) (.ref a_NoThing) = some false)
    (m_NoRule_NoExchange : PySem.W.exmOne K (.ref a_NoRule) (.ref a_NoExchange) = some false)
    (m_NoRule_NoWeights : PySem.W.exmOne K (.ref a_NoRule) (.ref a_NoWeights) = some false)
    (m_NoRule_NoRule : PySem.W.exmOne K (.ref a_NoRule) (.ref a_NoRule) = some true)
    (n_PickError : PySem.W.nsIn K mainGlobals "PickError" = some (some (.ref a_PickError)))
    (y_gcs_FIGURES : PySem.W.nsIn K mainGlobals "FIGURES" = some (some (.str "0123456789" t_FIGURES)))
    (y_exm_NoThing_PickError : PySem.W.exmOne K (.ref a_NoThing) (.ref a_PickError) = some true)
    (y_xc_NoThing : ExcC K a_NoThing)
    (y_kit_NoThing_NoChoice : PySem.W.kitOne K (.ref a_NoThing) (.ref a_NoChoice) = some false)
    (y_kit_NoThing_NoThing : PySem.W.kitOne K (.ref a_NoThing) (.ref a_NoThing) = some true)
    (y_kit_NoThing_NoExchange : PySem.W.kitOne K (.ref a_NoThing) (.ref a_NoExchange) = some false)
    (y_kit_NoThing_NoRule : PySem.W.kitOne K (.ref a_NoThing) (.ref a_NoRule) = some false)
    (y_kit_NoThing_NoWeights : PySem.W.kitOne K (.ref a_NoThing) (.ref a_NoWeights) = some false)
    (y_exm_NoChoice_PickError : PySem.W.exmOne K (.ref a_NoChoice) (.ref a_PickError) = some true)
    (y_xc_NoChoice : ExcC K a_NoChoice)
    (y_kit_NoChoice_NoChoice : PySem.W.kitOne K (.ref a_NoChoice) (.ref a_NoChoice) = some true)
    (y_kit_NoChoice_NoThing : PySem.W.kitOne K (.ref a_NoChoice) (.ref a_NoThing) = some false)
    (y_kit_NoChoice_NoExchange : PySem.W.kitOne K (.ref a_NoChoice) (.ref a_NoExchange) = some false)
    (y_kit_NoChoice_NoRule : PySem.W.kitOne K (.ref a_NoChoice) (.ref a_NoRule) = some false)
    (y_kit_NoChoice_NoWeights : PySem.W.kitOne K (.ref a_NoChoice) (.ref a_NoWeights) = some false)
    (y_exm_NoExchange_PickError : PySem.W.exmOne K (.ref a_NoExchange) (.ref a_PickError) = some true)
    (y_xc_NoExchange : ExcC K a_NoExchange)
    (y_kit_NoExchange_NoChoice : PySem.W.kitOne K (.ref a_NoExchange) (.ref a_NoChoice) = some false)
    (y_kit_NoExchange_NoThing : PySem.W.kitOne K (.ref a_NoExchange) (.ref a_NoThing) = some false)
    (y_kit_NoExchange_NoExchange : PySem.W.kitOne K (.ref a_NoExchange) (.ref a_NoExchange) = some true)
    (y_kit_NoExchange_NoRule : PySem.W.kitOne K (.ref a_NoExchange) (.ref a_NoRule) = some false)
    (y_kit_NoExchange_NoWeights : PySem.W.kitOne K (.ref a_NoExchange) (.ref a_NoWeights) = some false)
    (y_exm_NoRule_PickError : PySem.W.exmOne K (.ref a_NoRule) (.ref a_PickError) = some true)
    (y_xc_NoRule : ExcC K a_NoRule)
    (y_kit_NoRule_NoChoice : PySem.W.kitOne K (.ref a_NoRule) (.ref a_NoChoice) = some false)
    (y_kit_NoRule_NoThing : PySem.W.kitOne K (.ref a_NoRule) (.ref a_NoThing) = some false)
    (y_kit_NoRule_NoExchange : PySem.W.kitOne K (.ref a_NoRule) (.ref a_NoExchange) = some false)
    (y_kit_NoRule_NoRule : PySem.W.kitOne K (.ref a_NoRule) (.ref a_NoRule) = some true)
    (y_kit_NoRule_NoWeights : PySem.W.kitOne K (.ref a_NoRule) (.ref a_NoWeights) = some false)
    (d__law_cell_at : Df K "_law_cell_at" s__law_cell_at)
    (d__law_pairs_by : Df K "_law_pairs_by" s__law_pairs_by)
    (d__law_subsets : Df K "_law_subsets" s__law_subsets)
    (d__law_parts : Df K "_law_parts" s__law_parts)
    (d__law_apart : Df K "_law_apart" s__law_apart)
    (d__law_few : Df K "_law_few" s__law_few)
    (d__law_table : Df K "_law_table" s__law_table)
    (d__law_can : Df K "_law_can" s__law_can)
    (d__law_fault : Df K "_law_fault" s__law_fault)
    (d__law_bit : Df K "_law_bit" s__law_bit)
    (d__law_held : Df K "_law_held" s__law_held)
    (d_sure_things : Df K "sure_things" s_sure_things)
    (d_known_by : Df K "known_by" s_known_by)
    (d_exchanged : Df K "exchanged" s_exchanged)
    (d_outs_of : Df K "outs_of" s_outs_of)
    (d_fault : Df K "fault" s_fault)
    (d_Rule : DfI K RC s_Rule)
    (d__law_words : Df K "_law_words" s__law_words)
    (d_choice_shown : Df K "choice_shown" s_choice_shown)
    (d_shown : Df K "shown" s_shown)
    (d__law_sign_by : Df K "_law_sign_by" s__law_sign_by)
    (d__law_changed : Df K "_law_changed" s__law_changed)
    (d__law_odd_line : Df K "_law_odd_line" s__law_odd_line)
    (d__law_number : Df K "_law_number" s__law_number)
    (d__law_part : Df K "_law_part" s__law_part)
    (d__law_read : Df K "_law_read" s__law_read)
    (d__law_sound : Df K "_law_sound" s__law_sound)
    (d__law_due : Df K "_law_due" s__law_due)
    (d_number_of : Df K "number_of" s_number_of)
    (d_choice_of : Df K "choice_of" s_choice_of)
    (d_read : Df K "read" s_read)
    (d__law_told : Df K "_law_told" s__law_told)
    (d__law_refused_alone : Df K "_law_refused_alone" s__law_refused_alone)
    (d__law_whole : Df K "_law_whole" s__law_whole)
    (d__law_row_is : Df K "_law_row_is" s__law_row_is)
    (d__law_rows_are : Df K "_law_rows_are" s__law_rows_are)
    (d_law : Df K "law" s_law)
    (z_len : PySem.W.nsIn K mainGlobals "len" = some none)
    (z_range : PySem.W.nsIn K mainGlobals "range" = some none)
    (z_sorted : PySem.W.nsIn K mainGlobals "sorted" = some none)
    (z_list : PySem.W.nsIn K mainGlobals "list" = some none)
    (z_tuple : PySem.W.nsIn K mainGlobals "tuple" = some none)
    (z_max : PySem.W.nsIn K mainGlobals "max" = some none)
    (z_min : PySem.W.nsIn K mainGlobals "min" = some none)
    (z_sum : PySem.W.nsIn K mainGlobals "sum" = some none)
    (z_any : PySem.W.nsIn K mainGlobals "any" = some none)
    (z_all : PySem.W.nsIn K mainGlobals "all" = some none)
    (z_int : PySem.W.nsIn K mainGlobals "int" = some none)
    (z_bool : PySem.W.nsIn K mainGlobals "bool" = some none)
    (z_str : PySem.W.nsIn K mainGlobals "str" = some none)
    (z_isi : PySem.W.nsIn K mainGlobals "isinstance" = some none)
    : ∃ fd : FuncData, (∀ (s : Shared) (v : Value), BindsTo s fd ⟨[v], []⟩ [("_law_script", v)]) ∧ ∀ base : Heap, K.In base → base.Ns mainGlobals mg → FnOk l.prog w K mg base CX0 9 fa fd ["_law_script"] (spLawM K) := by
  have B : Bt mg := ⟨PySem.W.mg_none_of X G z_len, PySem.W.mg_none_of X G z_range, PySem.W.mg_none_of X G z_sorted, PySem.W.mg_none_of X G z_list, PySem.W.mg_none_of X G z_tuple, PySem.W.mg_none_of X G z_max, PySem.W.mg_none_of X G z_min, PySem.W.mg_none_of X G z_sum, PySem.W.mg_none_of X G z_any, PySem.W.mg_none_of X G z_all, PySem.W.mg_none_of X G z_int, PySem.W.mg_none_of X G z_bool, PySem.W.mg_none_of X G z_str, PySem.W.mg_none_of X G z_isi⟩
  have R := hRK.r X G
  obtain ⟨ec, hec⟩ : ∃ ec : Exn → Addr, ec = fun x => match x with | .thing => a_NoThing | .choice => a_NoChoice | .exchange => a_NoExchange | .weights => a_NoWeights | .rule => a_NoRule := ⟨_, rfl⟩
  have q_NoThing : ec .thing = a_NoThing := by rw [hec]
  have q_NoChoice : ec .choice = a_NoChoice := by rw [hec]
  have q_NoExchange : ec .exchange = a_NoExchange := by rw [hec]
  have q_NoRule : ec .rule = a_NoRule := by rw [hec]
  have q_NoWeights : ec .weights = a_NoWeights := by rw [hec]
  have X_NoThing : Ex1 K mg "NoThing" (ec .thing) := by
    rw [q_NoThing]
    exact e_NoThing.ex X G
  have X_NoChoice : Ex1 K mg "NoChoice" (ec .choice) := by
    rw [q_NoChoice]
    exact e_NoChoice.ex X G
  have X_NoExchange : Ex1 K mg "NoExchange" (ec .exchange) := by
    rw [q_NoExchange]
    exact e_NoExchange.ex X G
  have X_NoRule : Ex1 K mg "NoRule" (ec .rule) := by
    rw [q_NoRule]
    exact e_NoRule.ex X G
  have X_NoWeights : Ex1 K mg "NoWeights" (ec .weights) := by
    rw [q_NoWeights]
    exact e_NoWeights.ex X G
  have XM : ∀ x ∈ S_exn, ∀ y ∈ S_exn, PySem.W.exmOne K (.ref (ec x)) (.ref (ec y)) = some (decide (x = y)) := by
    intro x hx y hy
    cases x <;> cases y <;> first | (exact absurd hx (by decide)) | (exact absurd hy (by decide)) | (simp only [q_NoChoice, q_NoThing, q_NoExchange, q_NoWeights, q_NoRule]; first | exact m_NoChoice_NoChoice | exact m_NoChoice_NoThing | exact m_NoChoice_NoExchange | exact m_NoChoice_NoWeights | exact m_NoChoice_NoRule | exact m_NoThing_NoChoice | exact m_NoThing_NoThing | exact m_NoThing_NoExchange | exact m_NoThing_NoWeights | exact m_NoThing_NoRule | exact m_NoExchange_NoChoice | exact m_NoExchange_NoThing | exact m_NoExchange_NoExchange | exact m_NoExchange_NoWeights | exact m_NoExchange_NoRule | exact m_NoWeights_NoChoice | exact m_NoWeights_NoThing | exact m_NoWeights_NoExchange | exact m_NoWeights_NoWeights | exact m_NoWeights_NoRule | exact m_NoRule_NoChoice | exact m_NoRule_NoThing | exact m_NoRule_NoExchange | exact m_NoRule_NoWeights | exact m_NoRule_NoRule)
  have Y_gcs_FIGURES : ∃ u, mg "FIGURES" = some u ∧ RelV (V.str "0123456789") u := ⟨_, PySem.W.mg_of X G y_gcs_FIGURES, ⟨_, rfl⟩⟩
  have Y_mg_PickError : mg "PickError" = some (.ref a_PickError) := PySem.W.mg_of X G n_PickError
  have Y_exm_NoThing_PickError : PySem.W.exmOne K (.ref (ec .thing)) (.ref a_PickError) = some true := by
    rw [q_NoThing]
    exact y_exm_NoThing_PickError
  have Y_xc_NoThing : ExcC K (ec .thing) := by
    rw [q_NoThing]
    exact y_xc_NoThing
  have Y_kit_NoThing_NoChoice : PySem.W.kitOne K (.ref (ec .thing)) (.ref (ec .choice)) = some false := by
    rw [q_NoChoice, q_NoThing]
    exact y_kit_NoThing_NoChoice
  have Y_kit_NoThing_NoThing : PySem.W.kitOne K (.ref (ec .thing)) (.ref (ec .thing)) = some true := by
    rw [q_NoThing]
    exact y_kit_NoThing_NoThing
  have Y_kit_NoThing_NoExchange : PySem.W.kitOne K (.ref (ec .thing)) (.ref (ec .exchange)) = some false := by
    rw [q_NoExchange, q_NoThing]
    exact y_kit_NoThing_NoExchange
  have Y_kit_NoThing_NoRule : PySem.W.kitOne K (.ref (ec .thing)) (.ref (ec .rule)) = some false := by
    rw [q_NoRule, q_NoThing]
    exact y_kit_NoThing_NoRule
  have Y_kit_NoThing_NoWeights : PySem.W.kitOne K (.ref (ec .thing)) (.ref (ec .weights)) = some false := by
    rw [q_NoThing, q_NoWeights]
    exact y_kit_NoThing_NoWeights
  have Y_exm_NoChoice_PickError : PySem.W.exmOne K (.ref (ec .choice)) (.ref a_PickError) = some true := by
    rw [q_NoChoice]
    exact y_exm_NoChoice_PickError
  have Y_xc_NoChoice : ExcC K (ec .choice) := by
    rw [q_NoChoice]
    exact y_xc_NoChoice
  have Y_kit_NoChoice_NoChoice : PySem.W.kitOne K (.ref (ec .choice)) (.ref (ec .choice)) = some true := by
    rw [q_NoChoice]
    exact y_kit_NoChoice_NoChoice
  have Y_kit_NoChoice_NoThing : PySem.W.kitOne K (.ref (ec .choice)) (.ref (ec .thing)) = some false := by
    rw [q_NoChoice, q_NoThing]
    exact y_kit_NoChoice_NoThing
  have Y_kit_NoChoice_NoExchange : PySem.W.kitOne K (.ref (ec .choice)) (.ref (ec .exchange)) = some false := by
    rw [q_NoChoice, q_NoExchange]
    exact y_kit_NoChoice_NoExchange
  have Y_kit_NoChoice_NoRule : PySem.W.kitOne K (.ref (ec .choice)) (.ref (ec .rule)) = some false := by
    rw [q_NoChoice, q_NoRule]
    exact y_kit_NoChoice_NoRule
  have Y_kit_NoChoice_NoWeights : PySem.W.kitOne K (.ref (ec .choice)) (.ref (ec .weights)) = some false := by
    rw [q_NoChoice, q_NoWeights]
    exact y_kit_NoChoice_NoWeights
  have Y_exm_NoExchange_PickError : PySem.W.exmOne K (.ref (ec .exchange)) (.ref a_PickError) = some true := by
    rw [q_NoExchange]
    exact y_exm_NoExchange_PickError
  have Y_xc_NoExchange : ExcC K (ec .exchange) := by
    rw [q_NoExchange]
    exact y_xc_NoExchange
  have Y_kit_NoExchange_NoChoice : PySem.W.kitOne K (.ref (ec .exchange)) (.ref (ec .choice)) = some false := by
    rw [q_NoChoice, q_NoExchange]
    exact y_kit_NoExchange_NoChoice
  have Y_kit_NoExchange_NoThing : PySem.W.kitOne K (.ref (ec .exchange)) (.ref (ec .thing)) = some false := by
    rw [q_NoExchange, q_NoThing]
    exact y_kit_NoExchange_NoThing
  have Y_kit_NoExchange_NoExchange : PySem.W.kitOne K (.ref (ec .exchange)) (.ref (ec .exchange)) = some true := by
    rw [q_NoExchange]
    exact y_kit_NoExchange_NoExchange
  have Y_kit_NoExchange_NoRule : PySem.W.kitOne K (.ref (ec .exchange)) (.ref (ec .rule)) = some false := by
    rw [q_NoExchange, q_NoRule]
    exact y_kit_NoExchange_NoRule
  have Y_kit_NoExchange_NoWeights : PySem.W.kitOne K (.ref (ec .exchange)) (.ref (ec .weights)) = some false := by
    rw [q_NoExchange, q_NoWeights]
    exact y_kit_NoExchange_NoWeights
  have Y_exm_NoRule_PickError : PySem.W.exmOne K (.ref (ec .rule)) (.ref a_PickError) = some true := by
    rw [q_NoRule]
    exact y_exm_NoRule_PickError
  have Y_xc_NoRule : ExcC K (ec .rule) := by
    rw [q_NoRule]
    exact y_xc_NoRule
  have Y_kit_NoRule_NoChoice : PySem.W.kitOne K (.ref (ec .rule)) (.ref (ec .choice)) = some false := by
    rw [q_NoChoice, q_NoRule]
    exact y_kit_NoRule_NoChoice
  have Y_kit_NoRule_NoThing : PySem.W.kitOne K (.ref (ec .rule)) (.ref (ec .thing)) = some false := by
    rw [q_NoRule, q_NoThing]
    exact y_kit_NoRule_NoThing
  have Y_kit_NoRule_NoExchange : PySem.W.kitOne K (.ref (ec .rule)) (.ref (ec .exchange)) = some false := by
    rw [q_NoExchange, q_NoRule]
    exact y_kit_NoRule_NoExchange
  have Y_kit_NoRule_NoRule : PySem.W.kitOne K (.ref (ec .rule)) (.ref (ec .rule)) = some true := by
    rw [q_NoRule]
    exact y_kit_NoRule_NoRule
  have Y_kit_NoRule_NoWeights : PySem.W.kitOne K (.ref (ec .rule)) (.ref (ec .weights)) = some false := by
    rw [q_NoRule, q_NoWeights]
    exact y_kit_NoRule_NoWeights
  obtain ⟨f__law_cell_at, fd__law_cell_at, a_d_law_cell_at, F__law_cell_at⟩ := d__law_cell_at
  obtain ⟨f__law_pairs_by, fd__law_pairs_by, a_d_law_pairs_by, F__law_pairs_by⟩ := d__law_pairs_by
  obtain ⟨f__law_subsets, fd__law_subsets, a_d_law_subsets, F__law_subsets⟩ := d__law_subsets
  obtain ⟨f__law_parts, fd__law_parts, a_d_law_parts, F__law_parts⟩ := d__law_parts
  obtain ⟨f__law_apart, fd__law_apart, a_d_law_apart, F__law_apart⟩ := d__law_apart
  obtain ⟨f__law_few, fd__law_few, a_d_law_few, F__law_few⟩ := d__law_few
  obtain ⟨f__law_table, fd__law_table, a_d_law_table, F__law_table⟩ := d__law_table
  obtain ⟨f__law_can, fd__law_can, a_d_law_can, F__law_can⟩ := d__law_can
  obtain ⟨f__law_fault, fd__law_fault, a_d_law_fault, F__law_fault⟩ := d__law_fault
  obtain ⟨f__law_bit, fd__law_bit, a_d_law_bit, F__law_bit⟩ := d__law_bit
  obtain ⟨f__law_held, fd__law_held, a_d_law_held, F__law_held⟩ := d__law_held
  obtain ⟨f_sure_things, fd_sure_things, a_dsure_things, F_sure_things⟩ := d_sure_things
  obtain ⟨f_known_by, fd_known_by, a_dknown_by, F_known_by⟩ := d_known_by
  obtain ⟨f_exchanged, fd_exchanged, a_dexchanged, F_exchanged⟩ := d_exchanged
  obtain ⟨f_outs_of, fd_outs_of, a_douts_of, F_outs_of⟩ := d_outs_of
  obtain ⟨f_fault, fd_fault, a_dfault, F_fault⟩ := d_fault
  obtain ⟨f_Rule, fd_Rule, a_dRule, F_Rule⟩ := d_Rule
  obtain ⟨f__law_words, fd__law_words, a_d_law_words, F__law_words⟩ := d__law_words
  obtain ⟨f_choice_shown, fd_choice_shown, a_dchoice_shown, F_choice_shown⟩ := d_choice_shown
  obtain ⟨f_shown, fd_shown, a_dshown, F_shown⟩ := d_shown
  obtain ⟨f__law_sign_by, fd__law_sign_by, a_d_law_sign_by, F__law_sign_by⟩ := d__law_sign_by
  obtain ⟨f__law_changed, fd__law_changed, a_d_law_changed, F__law_changed⟩ := d__law_changed
  obtain ⟨f__law_odd_line, fd__law_odd_line, a_d_law_odd_line, F__law_odd_line⟩ := d__law_odd_line
  obtain ⟨f__law_number, fd__law_number, a_d_law_number, F__law_number⟩ := d__law_number
  obtain ⟨f__law_part, fd__law_part, a_d_law_part, F__law_part⟩ := d__law_part
  obtain ⟨f__law_read, fd__law_read, a_d_law_read, F__law_read⟩ := d__law_read
  obtain ⟨f__law_sound, fd__law_sound, a_d_law_sound, F__law_sound⟩ := d__law_sound
  obtain ⟨f__law_due, fd__law_due, a_d_law_due, F__law_due⟩ := d__law_due
  obtain ⟨f_number_of, fd_number_of, a_dnumber_of, F_number_of⟩ := d_number_of
  obtain ⟨f_choice_of, fd_choice_of, a_dchoice_of, F_choice_of⟩ := d_choice_of
  obtain ⟨f_read, fd_read, a_dread, F_read⟩ := d_read
  obtain ⟨f__law_told, fd__law_told, a_d_law_told, F__law_told⟩ := d__law_told
  obtain ⟨f__law_refused_alone, fd__law_refused_alone, a_d_law_refused_alone, F__law_refused_alone⟩ := d__law_refused_alone
  obtain ⟨f__law_whole, fd__law_whole, a_d_law_whole, F__law_whole⟩ := d__law_whole
  obtain ⟨f__law_row_is, fd__law_row_is, a_d_law_row_is, F__law_row_is⟩ := d__law_row_is
  obtain ⟨f__law_rows_are, fd__law_rows_are, a_d_law_rows_are, F__law_rows_are⟩ := d__law_rows_are
  obtain ⟨f_law, fd_law, a_dlaw, F_law⟩ := d_law
  cases hfa.symm.trans (PySem.W.mg_of X G a_dlaw)
  refine ⟨fd_law, ?_, fun base _ _ => ?_⟩
  · obtain ⟨oc, od, kV, doc, pm, an, cdv, ct, osl, rfl, lk, hcd⟩ := F_law.ex
    exact fun s v => .of_eq rfl
  · have C__law_cell_at : Cal l.prog w K mg base CX0 1 "_law_cell_at" ["_law_script", "_law_k"] (sp2 K pre__law_cell_at m__law_cell_at (oF K)) := ⟨_, _, PySem.W.mg_of X G a_d_law_cell_at, F__law_cell_at.kp, F__law_cell_at.binds (ps := ["_law_script", "_law_k"]) (fun _ _ _ _ _ _ us hl => match us, hl with | [_, _], _ => rfl), ok__law_cell_at F__law_cell_at B⟩
    have C__law_pairs_by : Cal l.prog w K mg base CX0 1 "_law_pairs_by" ["_law_many"] (sp1 K pre__law_pairs_by m__law_pairs_by (oF K)) := ⟨_, _, PySem.W.mg_of X G a_d_law_pairs_by, F__law_pairs_by.kp, F__law_pairs_by.binds (ps := ["_law_many"]) (fun _ _ _ _ _ _ us hl => match us, hl with | [_], _ => rfl), ok__law_pairs_by F__law_pairs_by B⟩
    have C__law_subsets : Cal l.prog w K mg base CX0 1 "_law_subsets" ["_law_count"] (sp1 K pre__law_subsets m__law_subsets (oF K)) := ⟨_, _, PySem.W.mg_of X G a_d_law_subsets, F__law_subsets.kp, F__law_subsets.binds (ps := ["_law_count"]) (fun _ _ _ _ _ _ us hl => match us, hl with | [_], _ => rfl), ok__law_subsets F__law_subsets B⟩
    have C__law_parts : Cal l.prog w K mg base CX0 2 "_law_parts" ["_law_script", "_law_kind", "_law_count", "_law_more"] (sp4 K pre__law_parts m__law_parts (oF K)) := ⟨_, _, PySem.W.mg_of X G a_d_law_parts, F__law_parts.kp, F__law_parts.binds (ps := ["_law_script", "_law_kind", "_law_count", "_law_more"]) (fun _ _ _ _ _ _ us hl => match us, hl with | [_, _, _, _], _ => rfl), ok__law_parts F__law_parts B C__law_subsets C__law_cell_at⟩
    have C__law_apart : Cal l.prog w K mg base CX0 1 "_law_apart" ["_law_vectors", "_law_row"] (sp2 K pre__law_apart m__law_apart (oF K)) := ⟨_, _, PySem.W.mg_of X G a_d_law_apart, F__law_apart.kp, F__law_apart.binds (ps := ["_law_vectors", "_law_row"]) (fun _ _ _ _ _ _ us hl => match us, hl with | [_, _], _ => rfl), ok__law_apart F__law_apart B⟩
    have C__law_few : Cal l.prog w K mg base CX0 3 "_law_few" ["_law_script"] (sp1 K (fun _ => True) m__law_few (oF K)) := ⟨_, _, PySem.W.mg_of X G a_d_law_few, F__law_few.kp, F__law_few.binds (ps := ["_law_script"]) (fun _ _ _ _ _ _ us hl => match us, hl with | [_], _ => rfl), ok__law_few F__law_few B C__law_cell_at C__law_pairs_by C__law_parts C__law_apart⟩
    have C__law_table : Cal l.prog w K mg base CX0 4 "_law_table" ["_law_script"] (sp1 K (fun _ => True) m__law_table (oF K)) := ⟨_, _, PySem.W.mg_of X G a_d_law_table, F__law_table.kp, F__law_table.binds (ps := ["_law_script"]) (fun _ _ _ _ _ _ us hl => match us, hl with | [_], _ => rfl), ok__law_table F__law_table B C__law_cell_at C__law_few⟩
    have C__law_can : Cal l.prog w K mg base CX0 1 "_law_can" ["_law_table_here", "_law_one", "_law_other", "_law_thing"] (sp4 K pre__law_canM m__law_can (oF K)) := ⟨_, _, PySem.W.mg_of X G a_d_law_can, F__law_can.kp, F__law_can.binds (ps := ["_law_table_here", "_law_one", "_law_other", "_law_thing"]) (fun _ _ _ _ _ _ us hl => match us, hl with | [_, _, _, _], _ => rfl), ok__law_can F__law_can B⟩
    have C__law_fault : Cal l.prog w K mg base CX0 2 "_law_fault" ["_law_count", "_law_table_here"] (sp2 K pre__law_faultM m__law_fault (oF K)) := ⟨_, _, PySem.W.mg_of X G a_d_law_fault, F__law_fault.kp, F__law_fault.binds (ps := ["_law_count", "_law_table_here"]) (fun _ _ _ _ _ _ us hl => match us, hl with | [_, _], _ => rfl), ok__law_fault F__law_fault B C__law_can⟩
    have C__law_bit : Cal l.prog w K mg base CX0 1 "_law_bit" ["_law_cell", "_law_k"] (sp2 K pre__law_bit m__law_bit (oF K)) := ⟨_, _, PySem.W.mg_of X G a_d_law_bit, F__law_bit.kp, F__law_bit.binds (ps := ["_law_cell", "_law_k"]) (fun _ _ _ _ _ _ us hl => match us, hl with | [_, _], _ => rfl), ok__law_bit F__law_bit B⟩
    have C__law_held : Cal l.prog w K mg base CX0 5 "_law_held" ["_law_script"] (sp1 K (fun _ => True) m__law_held (oF K)) := ⟨_, _, PySem.W.mg_of X G a_d_law_held, F__law_held.kp, F__law_held.binds (ps := ["_law_script"]) (fun _ _ _ _ _ _ us hl => match us, hl with | [_], _ => rfl), ok__law_held F__law_held B C__law_table C__law_fault C__law_bit C__law_cell_at⟩
    have C_sure_things : Cal l.prog w K mg base (L2.CX l.prog w) 1 "sure_things" ["count", "things"] (sp2 K (fun _ _ => True) m_sure_things (oX ec (oF K))) := ⟨_, _, PySem.W.mg_of X G a_dsure_things, F_sure_things.kp, F_sure_things.binds (ps := ["count", "things"]) (fun _ _ _ _ _ _ us hl => match us, hl with | [_, _], _ => rfl), ok_sure_things F_sure_things B X_NoThing⟩
    have C_known_by : Cal l.prog w K mg base CX0 1 "known_by" ["table"] (sp1 K (fun _ => True) m_known_by (oF K)) := ⟨_, _, PySem.W.mg_of X G a_dknown_by, F_known_by.kp, F_known_by.binds (ps := ["table"]) (fun _ _ _ _ _ _ us hl => match us, hl with | [_], _ => rfl), ok_known_by F_known_by B⟩
    have C_exchanged : Cal l.prog w K mg base CX0 1 "exchanged" ["choice", "out", "thing"] (sp3 K pre_exchangedM m_exchanged (oN K)) := ⟨_, _, PySem.W.mg_of X G a_dexchanged, F_exchanged.kp, F_exchanged.binds (ps := ["choice", "out", "thing"]) (fun _ _ _ _ _ _ us hl => match us, hl with | [_, _, _], _ => rfl), ok_exchanged F_exchanged B⟩
    have C_outs_of : Cal l.prog w K mg base CX0 2 "outs_of" ["known", "choice", "thing"] (sp3 K pre_outs_ofM m_outs_of (oN K)) := ⟨_, _, PySem.W.mg_of X G a_douts_of, F_outs_of.kp, F_outs_of.binds (ps := ["known", "choice", "thing"]) (fun _ _ _ _ _ _ us hl => match us, hl with | [_, _, _], _ => rfl), ok_outs_of F_outs_of B C_exchanged⟩
    have C_fault : Cal l.prog w K mg base CX0 3 "fault" ["count", "table"] (sp2 K pre_faultM m_fault (oF K)) := ⟨_, _, PySem.W.mg_of X G a_dfault, F_fault.kp, F_fault.binds (ps := ["count", "table"]) (fun _ _ _ _ _ _ us hl => match us, hl with | [_, _], _ => rfl), ok_fault F_fault B C_known_by C_outs_of⟩
    have M_Rule : MkB l.prog w K mg base 4 RC ["self", "count", "table"] (spO K ec RC pre_RuleX m_RuleX) := ⟨⟨_, _, a_dRule, F_Rule.binds (ps := ["self", "count", "table"]) (fun _ _ _ _ _ _ us hl => match us, hl with | [_, _, _], _ => rfl), ok_Rule F_Rule B R X_NoChoice X_NoExchange C_sure_things C_known_by C_fault⟩⟩
    have C__law_words : Cal l.prog w K mg base CX0 1 "_law_words" ["_law_choice"] (sp1 K pre__law_words m__law_words (oF K)) := ⟨_, _, PySem.W.mg_of X G a_d_law_words, F__law_words.kp, F__law_words.binds (ps := ["_law_choice"]) (fun _ _ _ _ _ _ us hl => match us, hl with | [_], _ => rfl), ok__law_words F__law_words B⟩
    have C_choice_shown : Cal l.prog w K mg base CX0 1 "choice_shown" ["choice"] (sp1 K pre_choice_shown m_choice_shown (oF K)) := ⟨_, _, PySem.W.mg_of X G a_dchoice_shown, F_choice_shown.kp, F_choice_shown.binds (ps := ["choice"]) (fun _ _ _ _ _ _ us hl => match us, hl with | [_], _ => rfl), ok_choice_shown F_choice_shown B⟩
    have C_shown : Cal l.prog w K mg base CX0 2 "shown" ["rule"] (sp1 K pre_shown m_shown (oF K)) := ⟨_, _, PySem.W.mg_of X G a_dshown, F_shown.kp, F_shown.binds (ps := ["rule"]) (fun _ _ _ _ _ _ us hl => match us, hl with | [_], _ => rfl), ok_shown F_shown B R C_choice_shown⟩
    have C__law_sign_by : Cal l.prog w K mg base CX0 1 "_law_sign_by" ["_law_cell"] (sp1 K (fun _ => True) m__law_sign_by (oF K)) := ⟨_, _, PySem.W.mg_of X G a_d_law_sign_by, F__law_sign_by.kp, F__law_sign_by.binds (ps := ["_law_cell"]) (fun _ _ _ _ _ _ us hl => match us, hl with | [_], _ => rfl), ok__law_sign_by F__law_sign_by B⟩
    have C__law_changed : Cal l.prog w K mg base CX0 2 "_law_changed" ["_law_text", "_law_cell", "_law_low"] (sp3 K pre__law_changed m__law_changed (oF K)) := ⟨_, _, PySem.W.mg_of X G a_d_law_changed, F__law_changed.kp, F__law_changed.binds (ps := ["_law_text", "_law_cell", "_law_low"]) (fun _ _ _ _ _ _ us hl => match us, hl with | [_, _, _], _ => rfl), ok__law_changed F__law_changed B C__law_sign_by⟩
    have C__law_odd_line : Cal l.prog w K mg base CX0 1 "_law_odd_line" ["_law_cell"] (sp1 K (fun _ => True) m__law_odd_line (oF K)) := ⟨_, _, PySem.W.mg_of X G a_d_law_odd_line, F__law_odd_line.kp, F__law_odd_line.binds (ps := ["_law_cell"]) (fun _ _ _ _ _ _ us hl => match us, hl with | [_], _ => rfl), ok__law_odd_line F__law_odd_line B⟩
    have C__law_number : Cal l.prog w K mg base CX0 1 "_law_number" ["_law_word"] (sp1 K pre__law_number m__law_number (oF K)) := ⟨_, _, PySem.W.mg_of X G a_d_law_number, F__law_number.kp, F__law_number.binds (ps := ["_law_word"]) (fun _ _ _ _ _ _ us hl => match us, hl with | [_], _ => rfl), ok__law_number F__law_number B⟩
    have C__law_part : Cal l.prog w K mg base CX0 2 "_law_part" ["_law_part_here"] (sp1 K pre__law_part m__law_part (oF K)) := ⟨_, _, PySem.W.mg_of X G a_d_law_part, F__law_part.kp, F__law_part.binds (ps := ["_law_part_here"]) (fun _ _ _ _ _ _ us hl => match us, hl with | [_], _ => rfl), ok__law_part F__law_part B C__law_number⟩
    have C__law_read : Cal l.prog w K mg base CX0 3 "_law_read" ["_law_text"] (sp1 K pre__law_read m__law_read (oF K)) := ⟨_, _, PySem.W.mg_of X G a_d_law_read, F__law_read.kp, F__law_read.binds (ps := ["_law_text"]) (fun _ _ _ _ _ _ us hl => match us, hl with | [_], _ => rfl), ok__law_read F__law_read B C__law_number C__law_part⟩
    have C__law_sound : Cal l.prog w K mg base CX0 1 "_law_sound" ["_law_count", "_law_choice"] (sp2 K (fun _ _ => True) m__law_sound (oF K)) := ⟨_, _, PySem.W.mg_of X G a_d_law_sound, F__law_sound.kp, F__law_sound.binds (ps := ["_law_count", "_law_choice"]) (fun _ _ _ _ _ _ us hl => match us, hl with | [_, _], _ => rfl), ok__law_sound F__law_sound B⟩
    have C__law_due : Cal l.prog w K mg base CX0 3 "_law_due" ["_law_told_here"] (sp1 K pre__law_due m__law_due (oF K)) := ⟨_, _, PySem.W.mg_of X G a_d_law_due, F__law_due.kp, F__law_due.binds (ps := ["_law_told_here"]) (fun _ _ _ _ _ _ us hl => match us, hl with | [_], _ => rfl), ok__law_due F__law_due B C__law_sound C__law_fault⟩
    have C_number_of : Cal l.prog w K mg base (L2.CX l.prog w) 1 "number_of" ["word"] (sp1 K pre_number_of m_number_of (oX ec (oF K))) := ⟨_, _, PySem.W.mg_of X G a_dnumber_of, F_number_of.kp, F_number_of.binds (ps := ["word"]) (fun _ _ _ _ _ _ us hl => match us, hl with | [_], _ => rfl), ok_number_of F_number_of B X_NoRule Y_gcs_FIGURES⟩
    have C_choice_of : Cal l.prog w K mg base (L2.CX l.prog w) 2 "choice_of" ["part"] (sp1 K pre_choice_of m_choice_of (oX ec (oF K))) := ⟨_, _, PySem.W.mg_of X G a_dchoice_of, F_choice_of.kp, F_choice_of.binds (ps := ["part"]) (fun _ _ _ _ _ _ us hl => match us, hl with | [_], _ => rfl), ok_choice_of F_choice_of B C_number_of⟩
    have C_read : Cal l.prog w K mg base (L2.CX l.prog w) 6 "read" ["text"] (sp1 K pre_read m_read (oX ec (oR K))) := ⟨_, _, PySem.W.mg_of X G a_dread, F_read.kp, F_read.binds (ps := ["text"]) (fun _ _ _ _ _ _ us hl => match us, hl with | [_], _ => rfl), ok_read F_read B R X_NoRule M_Rule C_number_of C_choice_of⟩
    have C__law_told : Cal l.prog w K mg base CX0 8 "_law_told" ["_law_text"] (sp1 K pre__law_told m__law_told (oF K)) := ⟨_, _, PySem.W.mg_of X G a_d_law_told, F__law_told.kp, F__law_told.binds (ps := ["_law_text"]) (fun _ _ _ _ _ _ us hl => match us, hl with | [_], _ => rfl), ok__law_told F__law_told B X_NoRule X_NoThing X_NoExchange XM C_read⟩
    have C__law_refused_alone : Cal l.prog w K mg base CX0 8 "_law_refused_alone" ["_law_text"] (sp1 K pre__law_refused_alone m__law_refused_alone (oF K)) := ⟨_, _, PySem.W.mg_of X G a_d_law_refused_alone, F__law_refused_alone.kp, F__law_refused_alone.binds (ps := ["_law_text"]) (fun _ _ _ _ _ _ us hl => match us, hl with | [_], _ => rfl), ok__law_refused_alone F__law_refused_alone B R X_NoThing X_NoChoice X_NoExchange X_NoRule X_NoWeights Y_mg_PickError Y_exm_NoThing_PickError Y_xc_NoThing Y_kit_NoThing_NoChoice Y_kit_NoThing_NoThing Y_kit_NoThing_NoExchange Y_kit_NoThing_NoRule Y_kit_NoThing_NoWeights Y_exm_NoChoice_PickError Y_xc_NoChoice Y_kit_NoChoice_NoChoice Y_kit_NoChoice_NoThing Y_kit_NoChoice_NoExchange Y_kit_NoChoice_NoRule Y_kit_NoChoice_NoWeights Y_exm_NoExchange_PickError Y_xc_NoExchange Y_kit_NoExchange_NoChoice Y_kit_NoExchange_NoThing Y_kit_NoExchange_NoExchange Y_kit_NoExchange_NoRule Y_kit_NoExchange_NoWeights Y_exm_NoRule_PickError Y_xc_NoRule Y_kit_NoRule_NoChoice Y_kit_NoRule_NoThing Y_kit_NoRule_NoExchange Y_kit_NoRule_NoRule Y_kit_NoRule_NoWeights C_read⟩
    have C__law_whole : Cal l.prog w K mg base CX0 1 "_law_whole" ["_law_found"] (sp1 K (fun _ => True) m__law_whole (oF K)) := ⟨_, _, PySem.W.mg_of X G a_d_law_whole, F__law_whole.kp, F__law_whole.binds (ps := ["_law_found"]) (fun _ _ _ _ _ _ us hl => match us, hl with | [_], _ => rfl), ok__law_whole F__law_whole B⟩
    have C__law_row_is : Cal l.prog w K mg base CX0 2 "_law_row_is" ["_law_found", "_law_due_here"] (sp2 K (fun _ _ => True) m__law_row_is (oF K)) := ⟨_, _, PySem.W.mg_of X G a_d_law_row_is, F__law_row_is.kp, F__law_row_is.binds (ps := ["_law_found", "_law_due_here"]) (fun _ _ _ _ _ _ us hl => match us, hl with | [_, _], _ => rfl), ok__law_row_is F__law_row_is B C__law_whole⟩
    have C__law_rows_are : Cal l.prog w K mg base CX0 3 "_law_rows_are" ["_law_found", "_law_due_here"] (sp2 K (fun _ _ => True) m__law_rows_are (oF K)) := ⟨_, _, PySem.W.mg_of X G a_d_law_rows_are, F__law_rows_are.kp, F__law_rows_are.binds (ps := ["_law_found", "_law_due_here"]) (fun _ _ _ _ _ _ us hl => match us, hl with | [_, _], _ => rfl), ok__law_rows_are F__law_rows_are B C__law_row_is⟩
    exact ok_law F_law B R C__law_held M_Rule C__law_words C_shown C__law_cell_at C__law_changed C__law_odd_line C__law_read C__law_due C__law_told C__law_refused_alone C_read C__law_whole C__law_rows_are
end MP
open PySem PySem.W PyProof.Rows
theorem PySem.Challenge.cw_matroidpick_k13_written_and_read_holds : PySem.Challenge.rw_matroidpick_k13_written_and_read.Holds := by
  w_on; o_law; k_head; (case hw => w_witness2)
  k_fill
  refine L2.walk_of (l := PySem.Challenge.rw_matroidpick_k13_written_and_read) (n := 63) (k := 9) (x := "_law_script") (CX := fun _ => L2.CX0) (sp := fun w => MP.spLawM _) rfl (by decide) rfl ⟨rfl, by decide, by decide⟩ (fun w h Y => PySem.W.kIn_of Y) ?F (fun _ H a ns hl _ hS => MP.law_end hl hS) (fun _ _ _ _ _ h => h)
  case F =>
    intro w mg fa h KX G hmg
    refine' MP.all_mk KX G hmg ⟨?qr_g, ?qr_pg, ?qr_hd, ?qr_po, ?qr_sa, ?qr_n1, ?qr_n2, ?qr_n3⟩ ⟨?qe_NoThing_g, ?qe_NoThing_q, ?qe_NoThing_k, ?qe_NoThing_b, ?qe_NoThing_t⟩ ⟨?qe_NoChoice_g, ?qe_NoChoice_q, ?qe_NoChoice_k, ?qe_NoChoice_b, ?qe_NoChoice_t⟩ ⟨?qe_NoExchange_g, ?qe_NoExchange_q, ?qe_NoExchange_k, ?qe_NoExchange_b, ?qe_NoExchange_t⟩ ⟨?qe_NoRule_g, ?qe_NoRule_q, ?qe_NoRule_k, ?qe_NoRule_b, ?qe_NoRule_t⟩ ⟨?qe_NoWeights_g, ?qe_NoWeights_q, ?qe_NoWeights_k, ?qe_NoWeights_b, ?qe_NoWeights_t⟩ ?qm_NoChoice_NoChoice ?qm_NoChoice_NoThing ?qm_NoChoice_NoExchange ?qm_NoChoice_NoWeights ?qm_NoChoice_NoRule ?qm_NoThing_NoChoice ?qm_NoThing_NoThing ?qm_NoThing_NoExchange ?qm_NoThing_NoWeights ?qm_NoThing_NoRule ?qm_NoExchange_NoChoice ?qm_NoExchange_NoThing ?qm_NoExchange_NoExchange ?qm_NoExchange_NoWeights ?qm_NoExchange_NoRule ?qm_NoWeights_NoChoice ?qm_NoWeights_NoThing ?qm_NoWeights_NoExchange ?qm_NoWeights_NoWeights ?qm_NoWeights_NoRule ?qm_NoRule_NoChoice ?qm_NoRule_NoThing ?qm_NoRule_NoExchange ?qm_NoRule_NoWeights ?qm_NoRule_NoRule ?qpk ?qy_gcs_FIGURES ?qy_exm_NoThing_PickError ⟨?qy_xc_NoThing_0, ?qy_xc_NoThing_1, ?qy_xc_NoThing_2, ?qy_xc_NoThing_3, ?qy_xc_NoThing_4, ?qy_xc_NoThing_5, ?qy_xc_NoThing_6, ?qy_xc_NoThing_7⟩ ?qy_kit_NoThing_NoChoice ?qy_kit_NoThing_NoThing ?qy_kit_NoThing_NoExchange ?qy_kit_NoThing_NoRule ?qy_kit_NoThing_NoWeights ?qy_exm_NoChoice_PickError ⟨?qy_xc_NoChoice_0, ?qy_xc_NoChoice_1, ?qy_xc_NoChoice_2, ?qy_xc_NoChoice_3, ?qy_xc_NoChoice_4, ?qy_xc_NoChoice_5, ?qy_xc_NoChoice_6, ?qy_xc_NoChoice_7⟩ ?qy_kit_NoChoice_NoChoice ?qy_kit_NoChoice_NoThing ?qy_kit_NoChoice_NoExchange ?qy_kit_NoChoice_NoRule ?qy_kit_NoChoice_NoWeights ?qy_exm_NoExchange_PickError ⟨?qy_xc_NoExchange_0, ?qy_xc_NoExchange_1, ?qy_xc_NoExchange_2, ?qy_xc_NoExchange_3, ?qy_xc_NoExchange_4, ?qy_xc_NoExchange_5, ?qy_xc_NoExchange_6, ?qy_xc_NoExchange_7⟩ ?qy_kit_NoExchange_NoChoice ?qy_kit_NoExchange_NoThing ?qy_kit_NoExchange_NoExchange ?qy_kit_NoExchange_NoRule ?qy_kit_NoExchange_NoWeights ?qy_exm_NoRule_PickError ⟨?qy_xc_NoRule_0, ?qy_xc_NoRule_1, ?qy_xc_NoRule_2, ?qy_xc_NoRule_3, ?qy_xc_NoRule_4, ?qy_xc_NoRule_5, ?qy_xc_NoRule_6, ?qy_xc_NoRule_7⟩ ?qy_kit_NoRule_NoChoice ?qy_kit_NoRule_NoThing ?qy_kit_NoRule_NoExchange ?qy_kit_NoRule_NoRule ?qy_kit_NoRule_NoWeights (MP.df_mk ?a__law_cell_at ?l__law_cell_at ?c__law_cell_at ?k__law_cell_at) (MP.df_mk ?a__law_pairs_by ?l__law_pairs_by ?c__law_pairs_by ?k__law_pairs_by) (MP.df_mk ?a__law_subsets ?l__law_subsets ?c__law_subsets ?k__law_subsets) (MP.df_mk ?a__law_parts ?l__law_parts ?c__law_parts ?k__law_parts) (MP.df_mk ?a__law_apart ?l__law_apart ?c__law_apart ?k__law_apart) (MP.df_mk ?a__law_few ?l__law_few ?c__law_few ?k__law_few) (MP.df_mk ?a__law_table ?l__law_table ?c__law_table ?k__law_table) (MP.df_mk ?a__law_can ?l__law_can ?c__law_can ?k__law_can) (MP.df_mk ?a__law_fault ?l__law_fault ?c__law_fault ?k__law_fault) (MP.df_mk ?a__law_bit ?l__law_bit ?c__law_bit ?k__law_bit) (MP.df_mk ?a__law_held ?l__law_held ?c__law_held ?k__law_held) (MP.df_mk ?a_sure_things ?l_sure_things ?c_sure_things ?k_sure_things) (MP.df_mk ?a_known_by ?l_known_by ?c_known_by ?k_known_by) (MP.df_mk ?a_exchanged ?l_exchanged ?c_exchanged ?k_exchanged) (MP.df_mk ?a_outs_of ?l_outs_of ?c_outs_of ?k_outs_of) (MP.df_mk ?a_fault ?l_fault ?c_fault ?k_fault) (MP.dfi_mk ?a_Rule ?i_Rule ?l_Rule ?c_Rule ?k_Rule ?mm_Rule ?kc_Rule) (MP.df_mk ?a__law_words ?l__law_words ?c__law_words ?k__law_words) (MP.df_mk ?a_choice_shown ?l_choice_shown ?c_choice_shown ?k_choice_shown) (MP.df_mk ?a_shown ?l_shown ?c_shown ?k_shown) (MP.df_mk ?a__law_sign_by ?l__law_sign_by ?c__law_sign_by ?k__law_sign_by) (MP.df_mk ?a__law_changed ?l__law_changed ?c__law_changed ?k__law_changed) (MP.df_mk ?a__law_odd_line ?l__law_odd_line ?c__law_odd_line ?k__law_odd_line) (MP.df_mk ?a__law_number ?l__law_number ?c__law_number ?k__law_number) (MP.df_mk ?a__law_part ?l__law_part ?c__law_part ?k__law_part) (MP.df_mk ?a__law_read ?l__law_read ?c__law_read ?k__law_read) (MP.df_mk ?a__law_sound ?l__law_sound ?c__law_sound ?k__law_sound) (MP.df_mk ?a__law_due ?l__law_due ?c__law_due ?k__law_due) (MP.df_mk ?a_number_of ?l_number_of ?c_number_of ?k_number_of) (MP.df_mk ?a_choice_of ?l_choice_of ?c_choice_of ?k_choice_of) (MP.df_mk ?a_read ?l_read ?c_read ?k_read) (MP.df_mk ?a__law_told ?l__law_told ?c__law_told ?k__law_told) (MP.df_mk ?a__law_refused_alone ?l__law_refused_alone ?c__law_refused_alone ?k__law_refused_alone) (MP.df_mk ?a__law_whole ?l__law_whole ?c__law_whole ?k__law_whole) (MP.df_mk ?a__law_row_is ?l__law_row_is ?c__law_row_is ?k__law_row_is) (MP.df_mk ?a__law_rows_are ?l__law_rows_are ?c__law_rows_are ?k__law_rows_are) (MP.df_mk ?a_law ?l_law ?c_law ?k_law) ?z_len ?z_range ?z_sorted ?z_list ?z_tuple ?z_max ?z_min ?z_sum ?z_any ?z_all ?z_int ?z_bool ?z_str ?z_isi
    (case qr_g => k_is)
    (case qr_pg => k_is)
    (case qr_hd => k_is)
    (case qr_po => k_is)
    (case qr_sa => k_is)
    (case qr_n1 => k_is)
    (case qr_n2 => k_is)
    (case qr_n3 => k_is)
    (case qe_NoThing_g => k_is)
    (case qe_NoThing_q => k_exc)
    (case qe_NoThing_k => k_is)
    (case qe_NoThing_b => k_is)
    (case qe_NoThing_t => k_is)
    (case qe_NoChoice_g => k_is)
    (case qe_NoChoice_q => k_exc)
    (case qe_NoChoice_k => k_is)
    (case qe_NoChoice_b => k_is)
    (case qe_NoChoice_t => k_is)
    (case qe_NoExchange_g => k_is)
    (case qe_NoExchange_q => k_exc)
    (case qe_NoExchange_k => k_is)
    (case qe_NoExchange_b => k_is)
    (case qe_NoExchange_t => k_is)
    (case qe_NoRule_g => k_is)
    (case qe_NoRule_q => k_exc)
    (case qe_NoRule_k => k_is)
    (case qe_NoRule_b => k_is)
    (case qe_NoRule_t => k_is)
    (case qe_NoWeights_g => k_is)
    (case qe_NoWeights_q => k_exc)
    (case qe_NoWeights_k => k_is)
    (case qe_NoWeights_b => k_is)
    (case qe_NoWeights_t => k_is)
    (case qm_NoChoice_NoChoice => first | k_is | kernel_rfl)
    (case qm_NoChoice_NoThing => first | k_is | kernel_rfl)
    (case qm_NoChoice_NoExchange => first | k_is | kernel_rfl)
    (case qm_NoChoice_NoWeights => first | k_is | kernel_rfl)
    (case qm_NoChoice_NoRule => first | k_is | kernel_rfl)
    (case qm_NoThing_NoChoice => first | k_is | kernel_rfl)
    (case qm_NoThing_NoThing => first | k_is | kernel_rfl)
    (case qm_NoThing_NoExchange => first | k_is | kernel_rfl)
    (case qm_NoThing_NoWeights => first | k_is | kernel_rfl)
    (case qm_NoThing_NoRule => first | k_is | kernel_rfl)
    (case qm_NoExchange_NoChoice => first | k_is | kernel_rfl)
    (case qm_NoExchange_NoThing => first | k_is | kernel_rfl)
    (case qm_NoExchange_NoExchange => first | k_is | kernel_rfl)
    (case qm_NoExchange_NoWeights => first | k_is | kernel_rfl)
    (case qm_NoExchange_NoRule => first | k_is | kernel_rfl)
    (case qm_NoWeights_NoChoice => first | k_is | kernel_rfl)
    (case qm_NoWeights_NoThing => first | k_is | kernel_rfl)
    (case qm_NoWeights_NoExchange => first | k_is | kernel_rfl)
    (case qm_NoWeights_NoWeights => first | k_is | kernel_rfl)
    (case qm_NoWeights_NoRule => first | k_is | kernel_rfl)
    (case qm_NoRule_NoChoice => first | k_is | kernel_rfl)
    (case qm_NoRule_NoThing => first | k_is | kernel_rfl)
    (case qm_NoRule_NoExchange => first | k_is | kernel_rfl)
    (case qm_NoRule_NoWeights => first | k_is | kernel_rfl)
    (case qm_NoRule_NoRule => first | k_is | kernel_rfl)
    (case qpk => k_is)
    (case qy_gcs_FIGURES => first | k_is | kernel_rfl)
    (case qy_exm_NoThing_PickError => first | k_is | kernel_rfl)
    (case qy_xc_NoThing_0 => first | k_is | kernel_rfl)
    (case qy_xc_NoThing_1 => first | k_is | kernel_rfl)
    (case qy_xc_NoThing_2 => first | k_is | kernel_rfl)
    (case qy_xc_NoThing_3 => first | k_is | kernel_rfl)
    (case qy_xc_NoThing_4 => first | k_is | kernel_rfl)
    (case qy_xc_NoThing_5 => first | k_is | kernel_rfl)
    (case qy_xc_NoThing_6 => first | k_is | kernel_rfl)
    (case qy_xc_NoThing_7 => first | k_is | kernel_rfl)
    (case qy_kit_NoThing_NoChoice => first | k_is | kernel_rfl)
    (case qy_kit_NoThing_NoThing => first | k_is | kernel_rfl)
    (case qy_kit_NoThing_NoExchange => first | k_is | kernel_rfl)
    (case qy_kit_NoThing_NoRule => first | k_is | kernel_rfl)
    (case qy_kit_NoThing_NoWeights => first | k_is | kernel_rfl)
    (case qy_exm_NoChoice_PickError => first | k_is | kernel_rfl)
    (case qy_xc_NoChoice_0 => first | k_is | kernel_rfl)
    (case qy_xc_NoChoice_1 => first | k_is | kernel_rfl)
    (case qy_xc_NoChoice_2 => first | k_is | kernel_rfl)
    (case qy_xc_NoChoice_3 => first | k_is | kernel_rfl)
    (case qy_xc_NoChoice_4 => first | k_is | kernel_rfl)
    (case qy_xc_NoChoice_5 => first | k_is | kernel_rfl)
    (case qy_xc_NoChoice_6 => first | k_is | kernel_rfl)
    (case qy_xc_NoChoice_7 => first | k_is | kernel_rfl)
    (case qy_kit_NoChoice_NoChoice => first | k_is | kernel_rfl)
    (case qy_kit_NoChoice_NoThing => first | k_is | kernel_rfl)
    (case qy_kit_NoChoice_NoExchange => first | k_is | kernel_rfl)
    (case qy_kit_NoChoice_NoRule => first | k_is | kernel_rfl)
    (case qy_kit_NoChoice_NoWeights => first | k_is | kernel_rfl)
    (case qy_exm_NoExchange_PickError => first | k_is | kernel_rfl)
    (case qy_xc_NoExchange_0 => first | k_is | kernel_rfl)
    (case qy_xc_NoExchange_1 => first | k_is | kernel_rfl)
    (case qy_xc_NoExchange_2 => first | k_is | kernel_rfl)
    (case qy_xc_NoExchange_3 => first | k_is | kernel_rfl)
    (case qy_xc_NoExchange_4 => first | k_is | kernel_rfl)
    (case qy_xc_NoExchange_5 => first | k_is | kernel_rfl)
    (case qy_xc_NoExchange_6 => first | k_is | kernel_rfl)
    (case qy_xc_NoExchange_7 => first | k_is | kernel_rfl)
    (case qy_kit_NoExchange_NoChoice => first | k_is | kernel_rfl)
    (case qy_kit_NoExchange_NoThing => first | k_is | kernel_rfl)
    (case qy_kit_NoExchange_NoExchange => first | k_is | kernel_rfl)
    (case qy_kit_NoExchange_NoRule => first | k_is | kernel_rfl)
    (case qy_kit_NoExchange_NoWeights => first | k_is | kernel_rfl)
    (case qy_exm_NoRule_PickError => first | k_is | kernel_rfl)
    (case qy_xc_NoRule_0 => first | k_is | kernel_rfl)
    (case qy_xc_NoRule_1 => first | k_is | kernel_rfl)
    (case qy_xc_NoRule_2 => first | k_is | kernel_rfl)
    (case qy_xc_NoRule_3 => first | k_is | kernel_rfl)
    (case qy_xc_NoRule_4 => first | k_is | kernel_rfl)
    (case qy_xc_NoRule_5 => first | k_is | kernel_rfl)
    (case qy_xc_NoRule_6 => first | k_is | kernel_rfl)
    (case qy_xc_NoRule_7 => first | k_is | kernel_rfl)
    (case qy_kit_NoRule_NoChoice => first | k_is | kernel_rfl)
    (case qy_kit_NoRule_NoThing => first | k_is | kernel_rfl)
    (case qy_kit_NoRule_NoExchange => first | k_is | kernel_rfl)
    (case qy_kit_NoRule_NoRule => first | k_is | kernel_rfl)
    (case qy_kit_NoRule_NoWeights => first | k_is | kernel_rfl)
    (case a__law_cell_at => k_is)
    (case l__law_cell_at => k_is)
    (case c__law_cell_at => k_is)
    (case k__law_cell_at => k_is)
    (case a__law_pairs_by => k_is)
    (case l__law_pairs_by => k_is)
    (case c__law_pairs_by => k_is)
    (case k__law_pairs_by => k_is)
    (case a__law_subsets => k_is)
    (case l__law_subsets => k_is)
    (case c__law_subsets => k_is)
    (case k__law_subsets => k_is)
    (case a__law_parts => k_is)
    (case l__law_parts => k_is)
    (case c__law_parts => k_is)
    (case k__law_parts => k_is)
    (case a__law_apart => k_is)
    (case l__law_apart => k_is)
    (case c__law_apart => k_is)
    (case k__law_apart => k_is)
    (case a__law_few => k_is)
    (case l__law_few => k_is)
    (case c__law_few => k_is)
    (case k__law_few => k_is)
    (case a__law_table => k_is)
    (case l__law_table => k_is)
    (case c__law_table => k_is)
    (case k__law_table => k_is)
    (case a__law_can => k_is)
    (case l__law_can => k_is)
    (case c__law_can => k_is)
    (case k__law_can => k_is)
    (case a__law_fault => k_is)
    (case l__law_fault => k_is)
    (case c__law_fault => k_is)
    (case k__law_fault => k_is)
    (case a__law_bit => k_is)
    (case l__law_bit => k_is)
    (case c__law_bit => k_is)
    (case k__law_bit => k_is)
    (case a__law_held => k_is)
    (case l__law_held => k_is)
    (case c__law_held => k_is)
    (case k__law_held => k_is)
    (case a_sure_things => k_is)
    (case l_sure_things => k_is)
    (case c_sure_things => k_is)
    (case k_sure_things => k_is)
    (case a_known_by => k_is)
    (case l_known_by => k_is)
    (case c_known_by => k_is)
    (case k_known_by => k_is)
    (case a_exchanged => k_is)
    (case l_exchanged => k_is)
    (case c_exchanged => k_is)
    (case k_exchanged => k_is)
    (case a_outs_of => k_is)
    (case l_outs_of => k_is)
    (case c_outs_of => k_is)
    (case k_outs_of => k_is)
    (case a_fault => k_is)
    (case l_fault => k_is)
    (case c_fault => k_is)
    (case k_fault => k_is)
    (case a_Rule => k_is)
    (case i_Rule => k_is)
    (case l_Rule => k_is)
    (case c_Rule => k_is)
    (case k_Rule => k_is)
    (case mm_Rule => k_is)
    (case kc_Rule => k_is)
    (case a__law_words => k_is)
    (case l__law_words => k_is)
    (case c__law_words => k_is)
    (case k__law_words => k_is)
    (case a_choice_shown => k_is)
    (case l_choice_shown => k_is)
    (case c_choice_shown => k_is)
    (case k_choice_shown => k_is)
    (case a_shown => k_is)
    (case l_shown => k_is)
    (case c_shown => k_is)
    (case k_shown => k_is)
    (case a__law_sign_by => k_is)
    (case l__law_sign_by => k_is)
    (case c__law_sign_by => k_is)
    (case k__law_sign_by => k_is)
    (case a__law_changed => k_is)
    (case l__law_changed => k_is)
    (case c__law_changed => k_is)
    (case k__law_changed => k_is)
    (case a__law_odd_line => k_is)
    (case l__law_odd_line => k_is)
    (case c__law_odd_line => k_is)
    (case k__law_odd_line => k_is)
    (case a__law_number => k_is)
    (case l__law_number => k_is)
    (case c__law_number => k_is)
    (case k__law_number => k_is)
    (case a__law_part => k_is)
    (case l__law_part => k_is)
    (case c__law_part => k_is)
    (case k__law_part => k_is)
    (case a__law_read => k_is)
    (case l__law_read => k_is)
    (case c__law_read => k_is)
    (case k__law_read => k_is)
    (case a__law_sound => k_is)
    (case l__law_sound => k_is)
    (case c__law_sound => k_is)
    (case k__law_sound => k_is)
    (case a__law_due => k_is)
    (case l__law_due => k_is)
    (case c__law_due => k_is)
    (case k__law_due => k_is)
    (case a_number_of => k_is)
    (case l_number_of => k_is)
    (case c_number_of => k_is)
    (case k_number_of => k_is)
    (case a_choice_of => k_is)
    (case l_choice_of => k_is)
    (case c_choice_of => k_is)
    (case k_choice_of => k_is)
    (case a_read => k_is)
    (case l_read => k_is)
    (case c_read => k_is)
    (case k_read => k_is)
    (case a__law_told => k_is)
    (case l__law_told => k_is)
    (case c__law_told => k_is)
    (case k__law_told => k_is)
    (case a__law_refused_alone => k_is)
    (case l__law_refused_alone => k_is)
    (case c__law_refused_alone => k_is)
    (case k__law_refused_alone => k_is)
    (case a__law_whole => k_is)
    (case l__law_whole => k_is)
    (case c__law_whole => k_is)
    (case k__law_whole => k_is)
    (case a__law_row_is => k_is)
    (case l__law_row_is => k_is)
    (case c__law_row_is => k_is)
    (case k__law_row_is => k_is)
    (case a__law_rows_are => k_is)
    (case l__law_rows_are => k_is)
    (case c__law_rows_are => k_is)
    (case k__law_rows_are => k_is)
    (case a_law => k_is)
    (case l_law => k_is)
    (case c_law => k_is)
    (case k_law => k_is)
    (case z_len => k_is)
    (case z_range => k_is)
    (case z_sorted => k_is)
    (case z_list => k_is)
    (case z_tuple => k_is)
    (case z_max => k_is)
    (case z_min => k_is)
    (case z_sum => k_is)
    (case z_any => k_is)
    (case z_all => k_is)
    (case z_int => k_is)
    (case z_bool => k_is)
    (case z_str => k_is)
    (case z_isi => k_is)
