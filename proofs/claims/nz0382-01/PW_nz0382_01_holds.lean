import PyProof.Rows.All
import PyProof.Conv_int
import KE.IntText
import KE.IntBitsLaws
import Wide.All
import Open.Line
import OpenK.KCell
import PySem.Challenge.RW_nz0382_01
set_option Elab.async false
set_option linter.unusedVariables false
set_option linter.unusedSimpArgs false
section
open PySem PySem.W PySem.Calls PyProof.Rows
namespace Mine
inductive V where
  | none
  | bool (b : Bool)
  | int (i : Int)
  | str (s : Str)
  | tup (l : List V)
  | obj (a : Addr)
inductive AO where
  | list (l : List V)
  | dict (kvs : List (Str × V))
noncomputable abbrev AS := Addr → Option AO
noncomputable abbrev Loc := List (Str × V)
noncomputable def upd (σ : AS) (a : Addr) (o : AO) : AS := fun b => if b = a then some o else σ b
mutual
inductive Rep (h : Heap) : Value → V → Prop
  | none : Rep h .none .none
  | bool (b) : Rep h (.bool b) (.bool b)
  | int (i t) : Rep h (.int i t) (.int i)
  | str (x t) : Rep h (.str x t) (.str x)
  | tup {a vs l} : h.IsTuple a vs → Reps h vs.toList l → Rep h (.ref a) (.tup l)
  | obj (a) : Rep h (.ref a) (.obj a)
inductive Reps (h : Heap) : List Value → List V → Prop
  | nil : Reps h [] []
  | cons {v vs x xs} : Rep h v x → Reps h vs xs → Reps h (v :: vs) (x :: xs)
end
noncomputable def TupKeep (h h' : Heap) : Prop := ∀ a vs, h.IsTuple a vs → h'.IsTuple a vs
theorem Rep.keep {h h' : Heap} (k : TupKeep h h') {v : Value} {x : V} (r : Rep h v x) : Rep h' v x :=
  Rep.rec (motive_1 := fun v x _ => Rep h' v x) (motive_2 := fun vs xs _ => Reps h' vs xs) .none (fun b => .bool b) (fun i t => .int i t) (fun x t => .str x t) (fun ht _ ih => .tup (k _ _ ht) ih) (fun a => .obj a) .nil (fun _ _ ih ihs => .cons ih ihs) r
theorem Reps.keep {h h' : Heap} (k : TupKeep h h') {vs : List Value} {xs : List V} (r : Reps h vs xs) : Reps h' vs xs := by
  induction vs generalizing xs with
  | nil => cases r; exact .nil
  | cons v vs ih => cases r with | cons r rs => exact .cons (r.keep k) (ih rs)
section
variable (prog : Program) (w : World)
/-- the pairs of a dict as values -/
inductive KReps (h : Heap) : List (Str × Value) → List (Str × V) → Prop
  | nil : KReps h [] []
  | cons {k v vs x xs} : Rep h v x → KReps h vs xs → KReps h ((k, v) :: vs) ((k, x) :: xs)
noncomputable def OAt (h : Heap) (a : Addr) : AO → Prop
  | .list l => ∃ vs n, IsL h a vs n ∧ Reps h vs.toList l
  | .dict kvs => ∃ ps, h.DictOf (strKind prog w) a ps ∧ KReps h ps kvs
noncomputable def Ob (σ : AS) (h : Heap) : Prop := ∀ a o, σ a = some o → OAt prog w h a o
structure Step (X : Addr → Prop) (σ : AS) (s : Shared) (σ' : AS) (s' : Shared) : Prop where
  same : ∃ h tk, s' = { s with heap := h, toks := tk }
  keep : ∀ b o, s.heap.get? b = some o → ¬ X b → σ b = none → s'.heap.get? b = some o
  dom : ∀ b, σ' b ≠ none → σ b ≠ none ∨ (s.heap.get? b = none ∧ ¬ X b)
noncomputable abbrev NoX : Addr → Prop := fun _ => False
end
theorem Step.refl {X σ s} : Step X σ s σ s := ⟨⟨s.heap, s.toks, rfl⟩, fun _ _ e _ _ => e, fun _ e => .inl e⟩
theorem Step.trans {X σ s σ₁ s₁ σ₂ s₂} (a : Step X σ s σ₁ s₁) (b : Step X σ₁ s₁ σ₂ s₂) : Step X σ s σ₂ s₂ := by
  refine ⟨?_, ?_, ?_⟩
  · obtain ⟨h, t, rfl⟩ := a.same
    obtain ⟨h', t', rfl⟩ := b.same
    exact ⟨h', t', rfl⟩
  · intro c o hc hx hs
    refine b.keep c o (a.keep c o hc hx hs) hx ?_
    cases e : σ₁ c with
    | none => rfl
    | some q =>
      rcases a.dom c (by rw [e]; simp) with q | q
      · exact absurd hs q
      · rw [hc] at q; exact absurd q.1 (by simp)
  · intro c hc
    rcases b.dom c hc with q | q
    · exact a.dom c q
    · by_cases e : σ c = none
      · cases g : s.heap.get? c with
        | none => exact .inr ⟨rfl, q.2⟩
        | some o => rw [a.keep c o g q.2 e] at q; exact absurd q.1 (by simp)
      · exact .inl e
theorem Step.weaken {X Y : Addr → Prop} {σ s σ' s'} (a : Step X σ s σ' s') (h : ∀ b, X b → Y b) (hy : ∀ b, Y b → s.heap.get? b ≠ none) : Step Y σ s σ' s' :=
  ⟨a.same, fun b o e hx hs => a.keep b o e (fun x => hx (h b x)) hs, fun b e => (a.dom b e).imp id fun q => ⟨q.1, fun y => hy b y q.1⟩⟩
section
variable {prog : Program} {w : World}
theorem OAt.notTuple {h : Heap} {a : Addr} {o : AO} {vs} (x : OAt prog w h a o) (t : h.IsTuple a vs) : False := by
  obtain ⟨ob, h1, h2, n, h3⟩ := t
  cases o with
  | list l =>
    obtain ⟨_, _, g1, _⟩ := x
    cases h1.symm.trans g1; simp at h2
  | dict kvs =>
    obtain ⟨_, ⟨ob', es, ep, g1, g2, _⟩, _⟩ := x
    rw [h1] at g1; cases g1; have := g2.1; rw [h2] at this; simp at this
theorem Step.tup {σ : AS} {s σ' s'} (a : Step NoX σ s σ' s') (ho : Ob prog w σ s.heap) : TupKeep s.heap s'.heap := by
  intro b vs t
  have t' := t
  obtain ⟨ob, h1, h2⟩ := t
  refine ⟨ob, a.keep b ob h1 (fun x => x) ?_, h2⟩
  cases e : σ b with
  | none => rfl
  | some o => exact absurd t' fun t => (ho b o e).notTuple t
end
end Mine
end
section
open PySem PySem.W PySem.Calls PyProof.Rows
namespace Mine
structure FnRec where
  params : Arguments
  body : List Stmt
  scope : Scope
inductive GV where
  | fn (r : FnRec)
  | val (v : V)
  | blt (v : Value)
noncomputable abbrev Tbl := List (Str × GV)
noncomputable def FnAt (h : Heap) (a : Addr) (f : Str) (r : FnRec) : Prop :=
  ∃ o pm code doc, h.get? a = some o ∧ o.data = .func (docDef f r.params r.body r.scope pm code doc) ∧ h.CodeRec code f
theorem FnAt.keeps {h h' : Heap} {a f r} (x : FnAt h a f r) (k : ∀ b o, h.get? b = some o → h'.get? b = some o) : FnAt h' a f r :=
  let ⟨o, pm, code, doc, h1, h2, h3⟩ := x; ⟨o, pm, code, doc, k _ _ h1, h2, h3.keeps k⟩
noncomputable def GIs (h : Heap) (mg mb : Str → Option Value) (x : Str) : GV → Prop
  | .fn r => ∃ a, mg x = some (.ref a) ∧ FnAt h a x r
  | .val v => ∃ val, mg x = some val ∧ Rep h val v
  | .blt val => mg x = none ∧ mb x = some val
theorem tupKeep_of {h h' : Heap} (k : ∀ b o, h.get? b = some o → h'.get? b = some o) : TupKeep h h' := fun _ _ t => let ⟨o, h1, r⟩ := t; ⟨o, k _ _ h1, r⟩
structure Gl (T : Tbl) (h : Heap) : Prop where
  ns : ∃ mg mb, h.Ns mainGlobals mg ∧ h.Ns builtinsNs mb ∧ ∀ x g, T.lookup x = some g → GIs h mg mb x g
  nolimit : h.NoLimit
  nodigits : ∃ mc, h.Ns cStatics mc ∧ mc "sys.int_max_str_digits" = none
theorem Gl.keeps {T : Tbl} {h h' : Heap} (x : Gl T h) (k : ∀ b o, h.get? b = some o → h'.get? b = some o) : Gl T h' := by
  obtain ⟨⟨mg, mb, h1, h2, h3⟩, h4, mc, h5, h6⟩ := x
  refine ⟨⟨mg, mb, h1.keeps k, h2.keeps k, fun x g e => ?_⟩, h4.keeps k, mc, h5.keeps k, h6⟩
  have := h3 x g e
  cases g with
  | fn r => exact let ⟨a, p, q⟩ := this; ⟨a, p, q.keeps k⟩
  | val v => exact let ⟨a, p, q⟩ := this; ⟨a, p, q.keep (tupKeep_of k)⟩
  | blt v => exact this
structure Cx where
  A : Around
  env : Env
  h₀ : Heap
  L : Addr
structure Ok (T : Tbl) (c : Cx) (d : Nat) : Prop where
  stack : ∃ A₀ base fenv outer, Below A₀ base outer c.h₀ ∧ c.A.frames = some (fenv :: outer) ∧ fenv.frame = some c.L ∧ fenv.scope.kind = .function
  gl : Gl T c.h₀
  kind : c.env.scope.kind = .function
  glob : c.env.globals = mainGlobals
  blts : c.env.builtins = builtinsNs
  handled : c.A.handled = none
  room : c.A.depth + d < recursionLimit
  units : c.A.units + 4 * d + 100 < cLine
section
variable (prog : Program) (w : World)
structure FS (c : Cx) (σ : AS) (s : Shared) : Prop where
  fr : ∃ m, Fr c.h₀ c.L s.heap m
  ob : Ob prog w σ s.heap
  sep : ∀ a, σ a ≠ none → a ≠ c.L ∧ c.h₀.get? a = none
noncomputable def NameIs (env : Env) (h : Heap) (x : Str) (val : Value) : Prop :=
  (env.kindOf x = some .local ∧ ∃ m, h.Ns env.locals m ∧ m x = some val) ∨
  ((env.kindOf x = some .cell ∨ env.kindOf x = some .free) ∧ ∃ a, env.cells.lookup x = some a ∧ h.IsCell a (some val))
structure St (c : Cx) (ρ : Loc) (σ : AS) (s : Shared) : Prop extends FS prog w c σ s where
  names : ∀ x v, ρ.lookup x = some v → ∃ val, NameIs c.env s.heap x val ∧ Rep s.heap val v
  nsx : ∃ m, s.heap.Ns c.env.locals m
  cellx : ∀ x a, c.env.cells.lookup x = some a → ∃ v, s.heap.IsCell a v
  sepN : σ c.env.locals = none
  sepC : ∀ x a, c.env.cells.lookup x = some a → σ a = none
end
variable {prog : Program} {w : World} {T : Tbl} {c : Cx} {d : Nat} {ρ : Loc} {σ σ' : AS} {s s' : Shared}
theorem Fr.of_keep {h₀ : Heap} {L : Addr} {h h' : Heap} {m} (F : Fr h₀ L h m) (k : ∀ b o, h.get? b = some o → (b = L ∨ h₀.get? b ≠ none) → h'.get? b = some o) : Fr h₀ L h' m := by
  obtain ⟨oL, es, ep, hL, r⟩ := F.ns
  exact ⟨⟨oL, es, ep, k _ _ hL (.inl rfl), r⟩, fun b o e => k b o (F.keep b o e) (.inr (by rw [e]; simp)), F.above⟩
theorem FS.step (S : FS prog w c σ s) (st : Step NoX σ s σ' s') (ho : Ob prog w σ' s'.heap) : FS prog w c σ' s' := by
  obtain ⟨m, F⟩ := S.fr
  refine ⟨⟨m, Fr.of_keep F fun b o e h => st.keep b o e (fun x => x) ?_⟩, ho, fun a ha => ?_⟩
  · cases q : σ b with
    | none => rfl
    | some x =>
      have := S.sep b (by rw [q]; simp)
      rcases h with h | h
      · exact absurd h this.1
      · exact absurd this.2 h
  · rcases st.dom a ha with q | q
    · exact S.sep a q
    · refine ⟨fun e => ?_, ?_⟩
      · obtain ⟨oL, es, ep, hL, _⟩ := F.ns
        rw [e, hL] at q; simp at q
      · cases q2 : c.h₀.get? a with
        | none => rfl
        | some o => rw [F.keep _ _ q2] at q; simp at q
theorem St.step (S : St prog w c ρ σ s) (st : Step NoX σ s σ' s') (ho : Ob prog w σ' s'.heap) : St prog w c ρ σ' s' := by
  have keep : ∀ b o, σ b = none → s.heap.get? b = some o → s'.heap.get? b = some o := fun b o q e => st.keep b o e (fun x => x) q
  refine ⟨S.toFS.step st ho, fun x v e => ?_, ?_, fun x a e => ?_, ?_, fun x a e => ?_⟩
  · obtain ⟨val, n, r⟩ := S.names x v e
    refine ⟨val, ?_, r.keep (st.tup S.ob)⟩
    rcases n with ⟨k, m, ⟨o, es, ep, g, r⟩, hm⟩ | ⟨k, a, ha, o, g, hd⟩
    · exact .inl ⟨k, m, ⟨o, es, ep, keep _ _ S.sepN g, r⟩, hm⟩
    · exact .inr ⟨k, a, ha, o, keep _ _ (S.sepC _ _ ha) g, hd⟩
  · obtain ⟨m, o, es, ep, g, r⟩ := S.nsx
    exact ⟨m, o, es, ep, keep _ _ S.sepN g, r⟩
  · obtain ⟨v, o, g, r⟩ := S.cellx x a e
    exact ⟨v, o, keep _ _ (S.sepC _ _ e) g, r⟩
  · cases q : σ' c.env.locals with
    | none => rfl
    | some o =>
      rcases st.dom _ (by rw [q]; simp) with e | e
      · exact absurd S.sepN e
      · obtain ⟨m, o, _, _, g, _⟩ := S.nsx
        rw [g] at e; simp at e
  · cases q : σ' a with
    | none => rfl
    | some o =>
      rcases st.dom _ (by rw [q]; simp) with e' | e'
      · exact absurd (S.sepC _ _ e) e'
      · obtain ⟨v, o, g, _⟩ := S.cellx x a e
        rw [g] at e'; simp at e'
end Mine
end
section
open PySem PySem.W PySem.Calls PyProof.Rows
namespace Mine
section
variable (prog : Program) (w : World)
noncomputable def KV (s : Shared) (σ : AS) (Φ : V → AS → Prop) (Q : Value → Shared → Prop) : Prop :=
  ∀ val s' v σ', Step NoX σ s σ' s' → Ob prog w σ' s'.heap → Rep s'.heap val v → Φ v σ' → Q val s'
noncomputable def WV (A : Around) (σ : AS) (t : Sem Value) (Φ : V → AS → Prop) (s : Shared) : Prop := ∀ Q E, KV prog w s σ Φ Q → wpAny (model prog w) A t Q E s
noncomputable def KB (s : Shared) (σ : AS) (Φ : Bool → AS → Prop) (Q : Bool → Shared → Prop) : Prop :=
  ∀ b s' σ', Step NoX σ s σ' s' → Ob prog w σ' s'.heap → Φ b σ' → Q b s'
noncomputable def WB (A : Around) (σ : AS) (t : Sem Bool) (Φ : Bool → AS → Prop) (s : Shared) : Prop := ∀ Q E, KB prog w s σ Φ Q → wpAny (model prog w) A t Q E s
noncomputable def KL (s : Shared) (σ : AS) (Φ : List V → AS → Prop) (Q : List Value → Shared → Prop) : Prop :=
  ∀ vals s' vs σ', Step NoX σ s σ' s' → Ob prog w σ' s'.heap → Reps s'.heap vals vs → Φ vs σ' → Q vals s'
noncomputable def WL (A : Around) (σ : AS) (t : Sem (List Value)) (Φ : List V → AS → Prop) (s : Shared) : Prop := ∀ Q E, KL prog w s σ Φ Q → wpAny (model prog w) A t Q E s
/-- an expression, its test, a list of expressions, from every state that fits -/
noncomputable def EvP (c : Cx) (e : Expr) (ρ : Loc) (σ : AS) (Φ : V → AS → Prop) : Prop := ∀ s, St prog w c ρ σ s → WV prog w c.A σ (eval e c.env) Φ s
noncomputable def EvT (c : Cx) (e : Expr) (ρ : Loc) (σ : AS) (Φ : Bool → AS → Prop) : Prop := ∀ s, St prog w c ρ σ s → WB prog w c.A σ (isTrue e c.env (eval e c.env)) Φ s
noncomputable def EvA (c : Cx) (op : BoolOp) (es : List Expr) (ρ : Loc) (σ : AS) (Φ : Bool → AS → Prop) : Prop := ∀ s, St prog w c ρ σ s → WB prog w c.A σ (allTrue op es c.env) Φ s
noncomputable def EvL (c : Cx) (es : List Expr) (ρ : Loc) (σ : AS) (Φ : List V → AS → Prop) : Prop := ∀ s, St prog w c ρ σ s → ∀ pos, WL prog w c.A σ (spliced (backTo pos (starEach es c.env))) Φ s
/-- operations on values that are at hand -/
noncomputable def Op1 (c : Cx) (t : Value → Sem Value) (v : V) (σ : AS) (Φ : V → AS → Prop) : Prop :=
  ∀ s, FS prog w c σ s → ∀ x, Rep s.heap x v → WV prog w c.A σ (t x) Φ s
noncomputable def Op2 (c : Cx) (t : Value → Value → Sem Value) (v u : V) (σ : AS) (Φ : V → AS → Prop) : Prop :=
  ∀ s, FS prog w c σ s → ∀ x y, Rep s.heap x v → Rep s.heap y u → WV prog w c.A σ (t x y) Φ s
noncomputable def OpL (c : Cx) (t : List Value → Sem Value) (vs : List V) (σ : AS) (Φ : V → AS → Prop) : Prop :=
  ∀ s, FS prog w c σ s → ∀ xs, Reps s.heap xs vs → WV prog w c.A σ (t xs) Φ s
noncomputable def OpB (c : Cx) (v : V) (σ : AS) (Φ : Bool → AS → Prop) : Prop :=
  ∀ s, FS prog w c σ s → ∀ x, Rep s.heap x v → WB prog w c.A σ (truthy x) Φ s
end
/-! what comes next, by name: a walk then holds each of them once -/
noncomputable abbrev KLc (v : V) (Λ : List V → AS → Prop) : List V → AS → Prop := fun vs σ => Λ (v :: vs) σ
section
variable (prog : Program) (w : World) (c : Cx)
noncomputable abbrev K2 (t : Value → Value → Sem Value) (v : V) (Φ : V → AS → Prop) : V → AS → Prop := fun u σ => Op2 prog w c t v u σ Φ
noncomputable abbrev K1 (r : Expr) (ρ : Loc) (t : Value → Value → Sem Value) (Φ : V → AS → Prop) : V → AS → Prop := fun v σ => EvP prog w c r ρ σ (K2 prog w c t v Φ)
noncomputable abbrev KUn (t : Value → Sem Value) (Φ : V → AS → Prop) : V → AS → Prop := fun v σ => Op1 prog w c t v σ Φ
noncomputable abbrev KVal (Ψ : Bool → AS → Prop) : V → AS → Prop := fun v σ => OpB prog w c v σ Ψ
noncomputable abbrev KAnd (es : List Expr) (ρ : Loc) (Ψ : Bool → AS → Prop) : Bool → AS → Prop := fun b σ => (b = true → EvA prog w c .And es ρ σ Ψ) ∧ (b = false → Ψ false σ)
noncomputable abbrev KOr (es : List Expr) (ρ : Loc) (Ψ : Bool → AS → Prop) : Bool → AS → Prop := fun b σ => (b = true → Ψ true σ) ∧ (b = false → EvA prog w c .Or es ρ σ Ψ)
noncomputable abbrev KIf (a b : Expr) (ρ : Loc) (Φ : V → AS → Prop) : Bool → AS → Prop := fun k σ => (k = true → EvP prog w c a ρ σ Φ) ∧ (k = false → EvP prog w c b ρ σ Φ)
noncomputable abbrev KLn (es : List Expr) (ρ : Loc) (Λ : List V → AS → Prop) : V → AS → Prop := fun v σ => EvL prog w c es ρ σ (KLc v Λ)
end
noncomputable abbrev KBool (Ψ : Bool → AS → Prop) : V → AS → Prop := fun b σ => ∃ t, b = .bool t ∧ Ψ t σ
noncomputable abbrev KNot (Ψ : Bool → AS → Prop) : Bool → AS → Prop := fun b σ => Ψ (!b) σ
noncomputable abbrev KTup (Φ : V → AS → Prop) : List V → AS → Prop := fun vs σ => vs.length ≤ sizeLine ∧ Φ (.tup vs) σ
noncomputable abbrev KList (Φ : V → AS → Prop) : List V → AS → Prop := fun vs σ => vs.length ≤ sizeLine ∧ ∀ a, σ a = none → Φ (.obj a) (upd σ a (.list vs))
variable {prog : Program} {w : World} {T : Tbl} {c : Cx} {d : Nat} {ρ : Loc} {σ σ' : AS} {s s' : Shared} {Φ : V → AS → Prop} {Ψ : Bool → AS → Prop}
theorem Step.toks {X σ s t} : Step X σ s σ { s with toks := t } := ⟨⟨s.heap, t, rfl⟩, fun _ _ e _ _ => e, fun _ e => .inl e⟩
theorem KV.here {t : Nat} {Q val v} (k : KV prog w s σ Φ Q) (ho : Ob prog w σ s.heap) (r : Rep s.heap val v) (h : Φ v σ) : Q val { s with toks := t } :=
  k val _ v σ Step.toks ho r h
theorem KV.now {Q val v} (k : KV prog w s σ Φ Q) (ho : Ob prog w σ s.heap) (r : Rep s.heap val v) (h : Φ v σ) : Q val s := k val s v σ Step.refl ho r h
theorem KB.now {Q b} (k : KB prog w s σ Ψ Q) (ho : Ob prog w σ s.heap) (h : Ψ b σ) : Q b s := k b s σ Step.refl ho h
/-! values -/
theorem ev_int {i k pos} (h : Φ (.int i) σ) : EvP prog w c (.Constant (.int i) k pos) ρ σ Φ := fun _ S _ _ q => wpAny_Constant_int (q.here S.ob (.int ..) h)
theorem ev_str {x k pos} (h : Φ (.str x) σ) : EvP prog w c (.Constant (.str x) k pos) ρ σ Φ := fun _ S _ _ q => wpAny_Constant_str (q.here S.ob (.str ..) h)
theorem ev_none {k pos} (h : Φ .none σ) : EvP prog w c (.Constant .none k pos) ρ σ Φ := fun _ S _ _ q => wpAny_Constant_none (q.now S.ob .none h)
theorem ev_bool {b k pos} (h : Φ (.bool b) σ) : EvP prog w c (.Constant (.bool b) k pos) ρ σ Φ := fun _ S _ _ q => wpAny_Constant_bool (q.now S.ob (.bool b) h)
noncomputable def plainName (x : Str) : Bool := !(x == ("__debug__" : Str)) && !(x == ("__classdict__" : Str))
theorem ev_Name {prog : Program} {w : World} {c : Cx} (K : c.env.scope.kind = .function) {x : Str} (hx : plainName x = true) {ρ : Loc} {v : V} (e : ρ.lookup x = some v) {σ : AS} {Φ : V → AS → Prop} {pos : Pos} (h : Φ v σ) : EvP prog w c (.Name x pos) ρ σ Φ := fun s S Q E q => by
  obtain ⟨h1, h2⟩ : (x == ("__debug__" : Str)) = false ∧ (x == ("__classdict__" : Str)) = false := by simpa [plainName] using hx
  obtain ⟨val, n, r⟩ := S.names x v e
  rcases n with ⟨k, m, hn, hm⟩ | ⟨k | k, a, ha, hv⟩
  · exact wpAny_Name (wpAny_loadName_local K k hn hm (q.now S.ob r h)) h1
  · exact wpAny_Name (wpAny_loadName_cell K k ha hv (q.now S.ob r h)) h1
  · exact wpAny_Name (wpAny_loadName_free K k ha hv (q.now S.ob r h) h2) h1
theorem glob_at (O : Ok T c d) (F : FS prog w c σ s) {x g} (e : T.lookup x = some g) : ∃ mg mb, s.heap.Ns mainGlobals mg ∧ s.heap.Ns builtinsNs mb ∧ GIs s.heap mg mb x g := by
  obtain ⟨m, fr⟩ := F.fr
  have G := O.gl.keeps fr.keep
  obtain ⟨mg, mb, h1, h2, h3⟩ := G.ns
  exact ⟨mg, mb, h1, h2, h3 x g e⟩
theorem ev_Global {prog : Program} {w : World} {T : Tbl} {c : Cx} {d : Nat} (O : Ok T c d) {x : Str} {v : V} (e : T.lookup x = some (.val v)) (hx : c.env.kindOf x = some .globalImplicit) (h1 : (x == ("__debug__" : Str)) = false)
    {ρ : Loc} {σ : AS} {Φ : V → AS → Prop} {pos : Pos} (h : Φ v σ) : EvP prog w c (.Name x pos) ρ σ Φ := fun s S Q E q => by
  obtain ⟨mg, mb, h2, h3, val, hm, r⟩ := glob_at O S.toFS e
  exact Name_function_global O.kind hx (loadGlobal_global (O.glob ▸ h2) hm (q.now S.ob r h)) h1
/-! composite expressions -/
theorem KV.chain {Q} (q : KV prog w s σ Φ Q) (st : Step NoX σ s σ' s') : KV prog w s' σ' Φ Q := fun val s₂ v σ₂ st₂ ho r h => q val s₂ v σ₂ (st.trans st₂) ho r h
theorem KB.chain {Q} (q : KB prog w s σ Ψ Q) (st : Step NoX σ s σ' s') : KB prog w s' σ' Ψ Q := fun b s₂ σ₂ st₂ ho h => q b s₂ σ₂ (st.trans st₂) ho h
theorem ev_BinOp {l op r pos} (h : EvP prog w c l ρ σ (K1 prog w c r ρ (binaryOp op) Φ)) :
    EvP prog w c (.BinOp l op r pos) ρ σ Φ := fun s S Q E q =>
  wpAny_BinOp (h s S _ _ fun x s₁ v σ₁ st₁ ho₁ r₁ h₁ =>
    let S₁ := S.step st₁ ho₁
    h₁ s₁ S₁ _ _ fun y s₂ u σ₂ st₂ ho₂ r₂ h₂ => h₂ s₂ (S₁.step st₂ ho₂).toFS x y (r₁.keep (st₂.tup ho₁)) r₂ _ _ (q.chain (st₁.trans st₂)))
theorem ev_Compare {l op r pos} (h : EvP prog w c l ρ σ (K1 prog w c r ρ (compareOp op) Φ))
    (hm : behindInMarks op r = false := by with_unfolding_all rfl) : EvP prog w c (.Compare l [op] [r] pos) ρ σ Φ := fun s S Q E q =>
  wpAny_Compare1 (h s S _ _ fun x s₁ v σ₁ st₁ ho₁ r₁ h₁ =>
    let S₁ := S.step st₁ ho₁
    h₁ s₁ S₁ _ _ fun y s₂ u σ₂ st₂ ho₂ r₂ h₂ => h₂ s₂ (S₁.step st₂ ho₂).toFS x y (r₁.keep (st₂.tup ho₁)) r₂ _ _ (q.chain (st₁.trans st₂))) hm
theorem evT_Compare {l op r pos} (h : EvP prog w c l ρ σ (K1 prog w c r ρ (compareOp op) (KBool Ψ)))
    (hm : behindInMarks op r = false := by with_unfolding_all rfl) : EvT prog w c (.Compare l [op] [r] pos) ρ σ Ψ := fun s S Q E q =>
  wpAny_isTrue_Compare1 (h s S _ _ fun x s₁ v σ₁ st₁ ho₁ r₁ h₁ =>
    let S₁ := S.step st₁ ho₁
    h₁ s₁ S₁ _ _ fun y s₂ u σ₂ st₂ ho₂ r₂ h₂ => h₂ s₂ (S₁.step st₂ ho₂).toFS x y (r₁.keep (st₂.tup ho₁)) r₂ _ _ fun b s₃ v₃ σ₃ st₃ ho₃ r₃ h₃ => by
      obtain ⟨t, rfl, h₃⟩ := h₃
      cases r₃
      exact wpAny_truthy_bool (q t s₃ σ₃ (st₁.trans (st₂.trans st₃)) ho₃ h₃)) hm
theorem evT_Not {x pos} (h : EvT prog w c x ρ σ (KNot Ψ)) : EvT prog w c (.UnaryOp .Not x pos) ρ σ Ψ := fun s S Q E q =>
  wpAny_isTrue_Not (h s S _ _ fun b s₁ σ₁ st ho hb => q (!b) s₁ σ₁ st ho hb)
theorem evT_BoolOp {op es pos} (h : EvA prog w c op es ρ σ Ψ) : EvT prog w c (.BoolOp op es pos) ρ σ Ψ := fun s S Q E q => wpAny_isTrue_BoolOp (h s S _ _ q)
theorem evA_and_nil (h : Ψ true σ) : EvA prog w c .And [] ρ σ Ψ := fun _ S _ _ q => wpAny_allTrue_And_nil (q.now S.ob h)
theorem evA_or_nil (h : Ψ false σ) : EvA prog w c .Or [] ρ σ Ψ := fun _ S _ _ q => wpAny_allTrue_Or_nil (q.now S.ob h)
theorem evA_and {x es} (h : EvT prog w c x ρ σ (KAnd prog w c es ρ Ψ)) : EvA prog w c .And (x :: es) ρ σ Ψ := fun s S Q E q =>
  wpAny_allTrue_And_cons (h s S _ _ fun b s₁ σ₁ st ho hb => by
    cases b
    · exact q false s₁ σ₁ st ho (hb.2 rfl)
    · exact hb.1 rfl s₁ (S.step st ho) _ _ (q.chain st))
theorem evA_or {x es} (h : EvT prog w c x ρ σ (KOr prog w c es ρ Ψ)) : EvA prog w c .Or (x :: es) ρ σ Ψ := fun s S Q E q =>
  wpAny_allTrue_Or_cons (h s S _ _ fun b s₁ σ₁ st ho hb => by
    cases b
    · exact hb.2 rfl s₁ (S.step st ho) _ _ (q.chain st)
    · exact q true s₁ σ₁ st ho (hb.1 rfl))
theorem evT_value {e} (h : EvP prog w c e ρ σ (KVal prog w c Ψ)) (he : ∀ env whole, isTrue e env whole = (do let v ← whole; standAt e.pos; holding [v] (truthy v)) := by intro _ _; rfl) :
    EvT prog w c e ρ σ Ψ := fun s S Q E q =>
  wpAny_isTrue_value (h s S _ _ fun x s₁ v σ₁ st ho r hv => hv s₁ (S.step st ho).toFS x r _ _ (q.chain st)) (he _ _)
theorem ev_IfExp {t a b pos} (h : EvT prog w c t ρ σ (KIf prog w c a b ρ Φ)) : EvP prog w c (.IfExp t a b pos) ρ σ Φ := fun s S Q E q =>
  wpAny_IfExp (h s S _ _ fun k s₁ σ₁ st ho hk => by
    cases k
    · exact hk.2 rfl s₁ (S.step st ho) _ _ (q.chain st)
    · exact hk.1 rfl s₁ (S.step st ho) _ _ (q.chain st))
theorem ev_UnaryOp {op x pos} (h : EvP prog w c x ρ σ (KUn prog w c (unaryOp op) Φ)) : EvP prog w c (.UnaryOp op x pos) ρ σ Φ := fun s S Q E q =>
  wpAny_UnaryOp (h s S _ _ fun x s₁ v σ₁ st ho r hv => hv s₁ (S.step st ho).toFS x r _ _ (q.chain st))
/-! lists of expressions -/
variable {Λ : List V → AS → Prop}
theorem evL_nil (h : Λ [] σ) : EvL prog w c [] ρ σ Λ := fun s S _ _ _ q => wpAny_items_nil (q [] s [] σ Step.refl S.ob .nil h)
noncomputable def unstar : Expr → Bool
  | .Starred .. => false
  | _ => true
theorem star_cons {e : Expr} {es : List Expr} (h : unstar e = true) (env : Env) : starEach (e :: es) env = (false, eval e env) :: starEach es env := by
  cases e <;> first | rfl | cases h
theorem evL_cons {e : Expr} {es : List Expr} (he : unstar e = true) (h : EvP prog w c e ρ σ (KLn prog w c es ρ Λ)) : EvL prog w c (e :: es) ρ σ Λ := fun s S pos Q E q =>
  wpAny_items_cons (h s S _ _ fun x s₁ v σ₁ st ho r hv => hv s₁ (S.step st ho) pos _ _ fun xs s₂ vs σ₂ st₂ ho₂ r₂ h₂ =>
    q (x :: xs) s₂ (v :: vs) σ₂ (st.trans st₂) ho₂ (.cons (r.keep (st₂.tup ho)) r₂) h₂) (star_cons he _)
theorem Step.push {X : Addr → Prop} {ob : Obj} : Step X σ s σ { s with heap := s.heap.push ob } :=
  ⟨⟨_, s.toks, rfl⟩, fun _ _ e _ _ => Heap.get?_push_of_some ob e, fun _ e => .inl e⟩
theorem Reps.length {h : Heap} {vs xs} (r : Reps h vs xs) : vs.length = xs.length := by
  induction vs generalizing xs with
  | nil => cases r; rfl
  | cons v vs ih => cases r with | cons _ r => simp [ih r]
theorem KReps.keep {h h' : Heap} (k : TupKeep h h') {ps kvs} (r : KReps h ps kvs) : KReps h' ps kvs := by
  induction r with
  | nil => exact .nil
  | cons r _ ih => exact .cons (r.keep k) ih
theorem OAt.keep {h h' : Heap} {a o} (x : OAt prog w h a o) (k : TupKeep h h') (ka : ∀ ob, h.get? a = some ob → h'.get? a = some ob) : OAt prog w h' a o := by
  cases o with
  | list l =>
    obtain ⟨vs, n, g, hr⟩ := x
    exact ⟨vs, n, ka _ g, hr.keep k⟩
  | dict kvs =>
    obtain ⟨ps, ⟨ob, es, ep, g, r⟩, hr⟩ := x
    exact ⟨ps, ⟨ob, es, ep, ka _ g, r⟩, hr.keep k⟩
theorem OAt.here {h : Heap} {a o} (x : OAt prog w h a o) : ∃ ob, h.get? a = some ob := by
  cases o with
  | list l => exact let ⟨_, _, g, _⟩ := x; ⟨_, g⟩
  | dict kvs => exact let ⟨_, ⟨ob, _, _, g, _⟩, _⟩ := x; ⟨ob, g⟩
theorem Ob.grow {h h' : Heap} (x : Ob prog w σ h) (k : ∀ b o, h.get? b = some o → h'.get? b = some o) : Ob prog w σ h' :=
  fun a o e => (x a o e).keep (tupKeep_of k) fun ob g => k _ _ g
/-- a new object -/
theorem Ob.new {h h' : Heap} {a o} (x : Ob prog w σ h) (k : ∀ b o, h.get? b = some o → h'.get? b = some o) (n : OAt prog w h' a o) : Ob prog w (upd σ a o) h' := by
  intro b p e
  unfold upd at e
  split at e
  · rename_i q; subst q; cases e; exact n
  · exact x.grow k b p e
theorem Ob.none_of {h : Heap} {a} (x : Ob prog w σ h) (e : h.get? a = none) : σ a = none := by
  cases q : σ a with
  | none => rfl
  | some o => obtain ⟨ob, g⟩ := (x a o q).here; rw [e] at g; cases g
theorem Step.new {X : Addr → Prop} {h' : Heap} {t : Nat} {a o} (k : ∀ b o, s.heap.get? b = some o → h'.get? b = some o) (n : s.heap.get? a = none) (hX : ¬ X a) : Step X σ s (upd σ a o) { s with heap := h', toks := t } :=
  ⟨⟨h', t, rfl⟩, fun b o e _ _ => k b o e, fun b e => by
    unfold upd at e
    split at e
    · rename_i q; subst q; exact .inr ⟨n, hX⟩
    · exact .inl e⟩
/-- an object that changes -/
theorem tupKeep_same {h h' : Heap} {a o} (x : OAt prog w h a o) (hs : Heap.SameBut a h h') : TupKeep h h' := by
  intro b vs t
  by_cases e : b = a
  · subst e; exact (x.notTuple t).elim
  · obtain ⟨ob, g, r⟩ := t
    exact ⟨ob, (hs.2 b e).trans g, r⟩
theorem Ob.set {h h' : Heap} {a o o'} (x : Ob prog w σ h) (hs : Heap.SameBut a h h') (ha : OAt prog w h a o) (n : OAt prog w h' a o') : Ob prog w (upd σ a o') h' := by
  intro b p e
  unfold upd at e
  split at e
  · rename_i q; subst q; cases e; exact n
  · rename_i q
    exact (x b p e).keep (tupKeep_same ha hs) fun ob g => (hs.2 b q).trans g
theorem Step.set {X : Addr → Prop} {h' : Heap} {t : Nat} {a o o'} (hs : Heap.SameBut a s.heap h') (ha : σ a = some o) : Step X σ s (upd σ a o') { s with heap := h', toks := t } :=
  ⟨⟨h', t, rfl⟩, fun b ob e _ q => by
    have : b ≠ a := fun z => by rw [z, ha] at q; cases q
    exact (hs.2 b this).trans e, fun b e => by
    unfold upd at e
    split at e
    · rename_i q; subst q; exact .inl (by rw [ha]; simp)
    · exact .inl e⟩
theorem get_size (h : Heap) : h.get? h.objs.size = none := by
  cases q : h.get? h.objs.size with
  | none => rfl
  | some o => exact absurd (Heap.lt_size q) (Nat.lt_irrefl _)
theorem push_keeps (h : Heap) (ob : Obj) : ∀ b o, h.get? b = some o → (h.push ob).get? b = some o := fun b o e => Heap.get?_push_of_some ob e
theorem ev_Tuple {es k pos} (h : EvL prog w c es ρ σ (KTup Φ)) : EvP prog w c (.Tuple es k pos) ρ σ Φ := fun s S Q E q =>
  wpAny_Tuple (h s S pos _ _ fun xs s₁ vs σ₁ st ho r hv => ⟨r.length ▸ hv.1, q _ _ (.tup vs) σ₁ (st.trans Step.push) (ho.grow (push_keeps _ _)) (.tup (vs := xs.toArray) ⟨_, Heap.get?_push_size _ rfl, rfl, 0, rfl⟩ (by
    simpa using r.keep (tupKeep_of (push_keeps _ _)))) hv.2⟩)
theorem ev_List {es pos} (h : EvL prog w c es ρ σ (KList Φ)) : EvP prog w c (.List es pos) ρ σ Φ := fun s S Q E q =>
  wpAny_List (h s S pos _ _ fun xs s₁ vs σ₁ st ho r hv => ⟨r.length ▸ hv.1, by
    refine q _ _ (.obj s₁.heap.objs.size) (upd σ₁ s₁.heap.objs.size (.list vs)) (st.trans (Step.new (push_keeps _ _) (get_size _) fun x => x)) (ho.new (push_keeps _ _) ?_) (.obj _) (hv.2 _ (ho.none_of (get_size _)))
    exact ⟨xs.toArray, 0, IsL.new .., by simpa using r.keep (tupKeep_of (push_keeps _ _))⟩⟩)
end Mine
end
section
open PySem PySem.W PySem.Calls PyProof.Rows PySem.Spec
namespace Mine
variable {prog : Program} {w : World} {T : Tbl} {c : Cx} {d : Nat} {ρ : Loc} {σ σ' : AS} {s s' : Shared} {Φ : V → AS → Prop} {Ψ : Bool → AS → Prop}
/-! ints -/
theorem op_add_int {a b : Int} (h : Φ (.int (a + b)) σ) : Op2 prog w c (binaryOp .Add) (.int a) (.int b) σ Φ := fun s F x y r r' Q E q => by
  cases r; cases r'; exact P.add_int (q.here F.ob (.int ..) h)
theorem op_sub_int {a b : Int} (h : Φ (.int (a - b)) σ) : Op2 prog w c (binaryOp .Sub) (.int a) (.int b) σ Φ := fun s F x y r r' Q E q => by
  cases r; cases r'; exact P.sub_int (q.here F.ob (.int ..) h)
theorem op_mul_int {a b : Int} (hm : IntMulOk a b) (h : Φ (.int (a * b)) σ) : Op2 prog w c (binaryOp .Mult) (.int a) (.int b) σ Φ := fun s F x y r r' Q E q => by
  cases r; cases r'; exact P.mul_int (q.here F.ob (.int ..) h) hm
theorem op_mod_int {a b : Int} (hb : b ≠ 0) (h : Φ (.int (a.fmod b)) σ) : Op2 prog w c (binaryOp .Mod) (.int a) (.int b) σ Φ := fun s F x y r r' Q E q => by
  cases r; cases r'; exact mod_int' hb (q.here F.ob (.int ..) h)
theorem op_neg_int {a : Int} (h : Φ (.int (-a)) σ) : Op1 prog w c (unaryOp .USub) (.int a) σ Φ := fun s F x r Q E q => by
  cases r; exact P.neg_int (q.here F.ob (.int ..) h)
theorem op_eq_int {a b : Int} (h : Φ (.bool (a == b)) σ) : Op2 prog w c (compareOp .Eq) (.int a) (.int b) σ Φ := fun s F x y r r' Q E q => by
  cases r; cases r'; exact P.eq_int (q.now F.ob (.bool _) h)
theorem op_lt_int {a b : Int} (h : Φ (.bool (decide (a < b))) σ) : Op2 prog w c (compareOp .Lt) (.int a) (.int b) σ Φ := fun s F x y r r' Q E q => by
  cases r; cases r'; exact P.lt_int (q.now F.ob (.bool _) h)
theorem op_gt_int {a b : Int} (h : Φ (.bool (decide (a > b))) σ) : Op2 prog w c (compareOp .Gt) (.int a) (.int b) σ Φ := fun s F x y r r' Q E q => by
  cases r; cases r'; exact P.gt_int (q.now F.ob (.bool _) h)
theorem op_ge_int {a b : Int} (h : Φ (.bool (decide (a ≥ b))) σ) : Op2 prog w c (compareOp .GtE) (.int a) (.int b) σ Φ := fun s F x y r r' Q E q => by
  cases r; cases r'; exact P.ge_int (q.now F.ob (.bool _) h)
/-! strs -/
theorem str_beq (a b : Str) : (a.cps.toList == b.cps.toList) = decide (a = b) := by
  by_cases e : a = b
  · subst e; simp
  · rw [decide_eq_false e]
    refine beq_eq_false_iff_ne.mpr fun q => e ?_
    cases a; cases b
    simp only [Str.mk.injEq]
    exact Array.toList_inj.mp q
theorem op_eq_str {a b : Str} (h : Φ (.bool (decide (a = b))) σ) : Op2 prog w c (compareOp .Eq) (.str a) (.str b) σ Φ := fun s F x y r r' Q E q => by
  cases r; cases r'; exact P.eq_str (by rw [str_beq]; exact q.now F.ob (.bool _) h)
theorem op_ne_str {a b : Str} (h : Φ (.bool (!decide (a = b))) σ) : Op2 prog w c (compareOp .NotEq) (.str a) (.str b) σ Φ := fun s F x y r r' Q E q => by
  cases r; cases r'; exact P.ne_str (by rw [bne, str_beq]; exact q.now F.ob (.bool _) h)
theorem str_append_nil (x y : Str) (h : y.length = 0) : x ++ y = x := by
  cases x; cases y; simp [Str.length] at h; subst h; show Str.append _ _ = _; simp [Str.append]
theorem str_nil_append (x y : Str) (h : x.length = 0) : x ++ y = y := by
  cases x; cases y; simp [Str.length] at h; subst h; show Str.append _ _ = _; simp [Str.append]
theorem op_add_str {a b : Str} (hs : (a ++ b).length ≤ sizeLine) (h : Φ (.str (a ++ b)) σ) : Op2 prog w c (binaryOp .Add) (.str a) (.str b) σ Φ := fun s F x y r r' Q E q => by
  cases r; cases r'
  refine P.add_str ?_
  split
  · rename_i e
    rw [str_nil_append _ _ (by simpa using e)] at h
    exact q.now F.ob (.str ..) h
  · split
    · rename_i e
      rw [str_append_nil _ _ (by simpa using e)] at h
      exact q.now F.ob (.str ..) h
    · exact ⟨hs, q.here F.ob (.str ..) h⟩
theorem op_in_str {a b : Str} (h : Φ (.bool (!(Builtin.Str.occurrences b a 0 b.length 1).isEmpty)) σ) : Op2 prog w c (compareOp .In) (.str a) (.str b) σ Φ := fun s F x y r r' Q E q => by
  cases r; cases r'; exact P.in_str (q.now F.ob (.bool _) h)
/-! none -/
noncomputable def V.isNone : V → Bool
  | .none => true
  | _ => false
theorem rep_none {h : Heap} {x v} (r : Rep h x v) : (x == Value.none) = v.isNone := by
  cases r <;> rfl
theorem op_is_none {v : V} (h : Φ (.bool v.isNone) σ) : Op2 prog w c (compareOp .Is) v .none σ Φ := fun s F x y r r' Q E q => by
  cases r'; exact is_none (by rw [rep_none r]; exact q.now F.ob (.bool _) h)
theorem op_isNot_none {v : V} (h : Φ (.bool (!v.isNone)) σ) : Op2 prog w c (compareOp .IsNot) v .none σ Φ := fun s F x y r r' Q E q => by
  cases r'; exact isNot_none (by rw [rep_none r]; exact q.now F.ob (.bool _) h)
/-! data without bools, bytes and dicts: to compare equal is to be equal -/
noncomputable def plain : Nat → PyData → Bool
  | _, .none => true
  | _, .int _ => true
  | _, .str x => PyData.strOk x
  | n + 1, .tuple ds => ds.all (plain n)
  | n + 1, .list ds => ds.all (plain n)
  | _, _ => false
theorem plains_lay {n : Nat} (ih : ∀ d, plain n d = true → d.canLay0 = true ∧ d.depth ≤ n) : ∀ {ds : List PyData}, ds.all (plain n) = true → PyData.canLayAll0 ds = true ∧ PyData.depthAll ds ≤ n
  | [], _ => ⟨by simp [PyData.canLayAll0], by simp [PyData.depthAll]⟩
  | d :: ds, h => by
    rw [List.all_cons, Bool.and_eq_true] at h
    obtain ⟨a, b⟩ := ih d h.1
    obtain ⟨a', b'⟩ := plains_lay ih h.2
    rw [PyData.canLayAll0, PyData.depthAll, a, a']
    exact ⟨rfl, Nat.max_le.mpr ⟨b, b'⟩⟩
theorem plain_lay : ∀ (n : Nat) (d : PyData), plain n d = true → d.canLay0 = true ∧ d.depth ≤ n
  | _, .none, _ => ⟨by simp [PyData.canLay0], by simp [PyData.depth]⟩
  | _, .int _, _ => ⟨by simp [PyData.canLay0], by simp [PyData.depth]⟩
  | n, .str x, h => ⟨by rw [PyData.canLay0]; cases n <;> exact h, by simp [PyData.depth]⟩
  | n + 1, .tuple ds, h => by
    obtain ⟨a, b⟩ := plains_lay (plain_lay n) (show ds.all (plain n) = true from h)
    rw [PyData.canLay0, PyData.depth]
    exact ⟨a, by omega⟩
  | n + 1, .list ds, h => by
    obtain ⟨a, b⟩ := plains_lay (plain_lay n) (show ds.all (plain n) = true from h)
    rw [PyData.canLay0, PyData.depth]
    exact ⟨a, by omega⟩
  | 0, .bool _, h => nomatch h
  | _ + 1, .bool _, h => nomatch h
  | 0, .dict _, h => nomatch h
  | _ + 1, .dict _, h => nomatch h
  | 0, .tuple _, h => nomatch h
  | 0, .list _, h => nomatch h
theorem plains_eqv {n k : Nat} (ih : ∀ d e, plain n d = true → plain k e = true → (PyData.eqv d e = true ↔ d = e)) : ∀ {ds es : List PyData}, ds.all (plain n) = true → es.all (plain k) = true → (PyData.eqvAll ds es = true ↔ ds = es)
  | [], [], _, _ => by simp [PyData.eqvAll]
  | [], _ :: _, _, _ => by simp [PyData.eqvAll]
  | _ :: _, [], _, _ => by simp [PyData.eqvAll]
  | d :: ds, e :: es, h, h' => by
    rw [List.all_cons, Bool.and_eq_true] at h h'
    rw [PyData.eqvAll, Bool.and_eq_true, ih d e h.1 h'.1, plains_eqv ih h.2 h'.2, List.cons.injEq]
theorem plain_eqv : ∀ (n : Nat) (d e : PyData) (k : Nat), plain n d = true → plain k e = true → (PyData.eqv d e = true ↔ d = e) := by
  intro n
  induction n with
  | zero =>
    intro d e k h h'
    cases d <;> first | cases h | skip
    all_goals cases e <;> first | (cases k <;> cases h') | skip
    all_goals simp [PyData.eqv]
  | succ n ih =>
    intro d e k h h'
    have it : ∀ {ds es : List PyData}, plain (n + 1) (.tuple ds) = true → plain k (.tuple es) = true → (PyData.eqvAll ds es = true ↔ ds = es) := fun {ds es} a b => by
      cases k with
      | zero => cases b
      | succ k => exact plains_eqv (fun d e => ih d e k) a b
    cases d <;> first | cases h | skip
    all_goals cases e <;> first | (cases k <;> cases h') | skip
    all_goals first
      | (rw [PyData.eqv, it h h', PyData.tuple.injEq]; done)
      | (rw [PyData.eqv, it h (by cases k with
          | zero => cases h'
          | succ k => exact h'), PyData.list.injEq]; done)
      | simp [PyData.eqv]
mutual
inductive Dt (σ : AS) : V → PyData → Prop
  | none : Dt σ .none .none
  | int (i) : Dt σ (.int i) (.int i)
  | str (x) : Dt σ (.str x) (.str x)
  | tup {vs ds} : Dts σ vs ds → Dt σ (.tup vs) (.tuple ds)
  | list {a vs ds} : σ a = some (.list vs) → Dts σ vs ds → Dt σ (.obj a) (.list ds)
inductive Dts (σ : AS) : List V → List PyData → Prop
  | nil : Dts σ [] []
  | cons {v d vs ds} : Dt σ v d → Dts σ vs ds → Dts σ (v :: vs) (d :: ds)
end
theorem dt_reads {h : Heap} (ho : Ob prog w σ h) {v : V} {d : PyData} (hd : Dt σ v d) : ∀ {x}, Rep h x v → ∃ as, Reads h x d as := by
  refine Dt.rec (motive_1 := fun v d _ => ∀ {x}, Rep h x v → ∃ as, Reads h x d as) (motive_2 := fun vs ds _ => ∀ {x}, Reps h x vs → ∃ as, ReadsAll h x ds as) ?_ ?_ ?_ ?_ ?_ ?_ ?_ hd
  · intro x r; cases r; exact ⟨_, .none⟩
  · intro i x r; cases r; exact ⟨_, .int ..⟩
  · intro i x r; cases r; exact ⟨_, .str ..⟩
  · intro vs ds _ ih x r
    cases r with
    | tup ht hr =>
      obtain ⟨as, q⟩ := ih hr
      obtain ⟨o, h1, h2, n, h3⟩ := ht
      exact ⟨as, .tuple h1 h2 h3 q⟩
  · intro a vs ds e _ ih x r
    cases r
    obtain ⟨vs', n, h1, hr⟩ := ho _ _ e
    obtain ⟨as, q⟩ := ih hr
    exact ⟨_, .list h1 rfl rfl q⟩
  · intro x r; cases r; exact ⟨_, .nil⟩
  · intro v d vs ds _ _ ih ihs x r
    cases r with
    | cons r rs =>
      obtain ⟨as, q⟩ := ih r
      obtain ⟨bs, p⟩ := ihs rs
      exact ⟨_, .cons q p⟩
theorem Dt.reads {h : Heap} (ho : Ob prog w σ h) {v : V} {d : PyData} {x : Value} (hd : Dt σ v d) (r : Rep h x v) : ∃ as, Reads h x d as := dt_reads ho hd r
open Classical in
theorem eqv_dec {n k : Nat} {a b : PyData} (ha : plain n a = true) (hb : plain k b = true) : PyData.eqv a b = decide (a = b) := by
  have q := plain_eqv n a b k ha hb
  by_cases e : a = b
  · rw [decide_eq_true e]; exact q.mpr e
  · rw [decide_eq_false e]; exact Bool.eq_false_iff.mpr fun x => e (q.mp x)
theorem room_min {a b : PyData} {n : Nat} (O : Ok T c d) (hn : n ≤ 60) (ha : plain n a = true) : c.A.units + min a.depth b.depth < cLine := by
  have := (plain_lay n a ha).2
  have h2 := O.units
  have : min a.depth b.depth ≤ n := Nat.le_trans (Nat.min_le_left _ _) this
  omega
open Classical in
theorem op_eq_data {v u : V} {a b : PyData} (O : Ok T c d) (hv : Dt σ v a) (hu : Dt σ u b) (h : Φ (.bool (decide (a = b))) σ) (ha : plain 20 a = true) (hb : plain 20 b = true) : Op2 prog w c (compareOp .Eq) v u σ Φ := fun s F x y r r' Q E q => by
  obtain ⟨as, ra⟩ := hv.reads F.ob r
  obtain ⟨bs, rb⟩ := hu.reads F.ob r'
  refine SeqAt.compareEq_reads ra rb (plain_lay 20 a ha).1 (plain_lay 20 b hb).1 (room_min O (by decide) ha) ?_
  rw [eqv_dec ha hb]
  exact q.now F.ob (.bool _) h
open Classical in
theorem op_ne_data {v u : V} {a b : PyData} (O : Ok T c d) (hv : Dt σ v a) (hu : Dt σ u b) (h : Φ (.bool (!decide (a = b))) σ) (ha : plain 20 a = true) (hb : plain 20 b = true) : Op2 prog w c (compareOp .NotEq) v u σ Φ := fun s F x y r r' Q E q => by
  obtain ⟨as, ra⟩ := hv.reads F.ob r
  obtain ⟨bs, rb⟩ := hu.reads F.ob r'
  refine SeqAt.compareNe_reads ra rb (plain_lay 20 a ha).1 (plain_lay 20 b hb).1 (room_min O (by decide) ha) ?_
  rw [eqv_dec ha hb]
  exact q.now F.ob (.bool _) h
theorem dts_any (x : PyData) : ∀ (ds : List PyData), (∀ e ∈ ds, plain 20 e = true) → plain 20 x = true → (ds.any fun y => PyData.eqv y x) = ds.any fun y => by classical exact decide (y = x)
  | [], _, _ => rfl
  | e :: ds, h, hx => by
    simp only [List.any_cons, eqv_dec (h e (.head _)) hx, dts_any x ds (fun y hy => h y (.tail _ hy)) hx]
theorem dts_lay : ∀ (ds : List PyData), (∀ e ∈ ds, plain 20 e = true) → PyData.canLayAll0 ds = true ∧ PyData.depthAll ds ≤ 21 := by
  intro ds h
  have q := plain_lay 21 (.tuple ds) (by simpa [plain] using h)
  simp only [PyData.canLay0, PyData.depth] at q
  exact ⟨q.1, by omega⟩
theorem op_in_tuple {v : V} {vs : List V} {x : PyData} {ds : List PyData} (O : Ok T c d) (hv : Dt σ v x) (hs : Dts σ vs ds) (h : Φ (.bool (ds.any fun y => by classical exact decide (y = x))) σ) (hx : plain 20 x = true) (hd : ∀ e ∈ ds, plain 20 e = true) : Op2 prog w c (compareOp .In) v (.tup vs) σ Φ := fun s F a b r r' Q E q => by
  obtain ⟨as, ra⟩ := hv.reads F.ob r
  obtain ⟨bs, rb⟩ := (Dt.tup hs).reads F.ob r'
  refine SeqAt.in_tuple_reads rb ra (dts_lay ds hd).1 (plain_lay 20 x hx).1 ?_ ?_
  · have := (dts_lay ds hd).2
    have h2 := O.units
    have : min (PyData.depthAll ds) x.depth ≤ 21 := Nat.le_trans (Nat.min_le_left _ _) this
    omega
  · rw [dts_any x ds hd hx]
    exact q.now F.ob (.bool _) h
theorem op_notIn_tuple {v : V} {vs : List V} {x : PyData} {ds : List PyData} (O : Ok T c d) (hv : Dt σ v x) (hs : Dts σ vs ds) (h : Φ (.bool (!ds.any fun y => by classical exact decide (y = x))) σ) (hx : plain 20 x = true) (hd : ∀ e ∈ ds, plain 20 e = true) : Op2 prog w c (compareOp .NotIn) v (.tup vs) σ Φ := fun s F a b r r' Q E q => by
  obtain ⟨as, ra⟩ := hv.reads F.ob r
  obtain ⟨bs, rb⟩ := (Dt.tup hs).reads F.ob r'
  refine SeqAt.notIn_tuple_reads rb ra (dts_lay ds hd).1 (plain_lay 20 x hx).1 ?_ ?_
  · have := (dts_lay ds hd).2
    have h2 := O.units
    have : min (PyData.depthAll ds) x.depth ≤ 21 := Nat.le_trans (Nat.min_le_left _ _) this
    omega
  · rw [dts_any x ds hd hx]
    exact q.now F.ob (.bool _) h
/-- a text among texts -/
theorem dts_strs : ∀ xs : List Str, Dts σ (xs.map V.str) (xs.map PyData.str)
  | [] => .nil
  | x :: xs => .cons (.str x) (dts_strs xs)
theorem any_strs (x : Str) : ∀ xs : List Str, (((xs.map PyData.str).any fun y => by classical exact decide (y = .str x)) : Bool) = xs.contains x
  | [] => rfl
  | y :: ys => by
    rw [List.map_cons, List.any_cons, any_strs x ys, List.contains_cons]
    congr 1
    by_cases e : y = x
    · subst e; simp
    · simp [e]; exact fun q => e q.symm
theorem op_in_strs {x : Str} {xs : List Str} (O : Ok T c d) (h : Φ (.bool (xs.contains x)) σ) (hx : PyData.strOk x = true) (hd : (xs.all PyData.strOk) = true) : Op2 prog w c (compareOp .In) (.str x) (.tup (xs.map V.str)) σ Φ :=
  op_in_tuple O (.str x) (dts_strs xs) (by rw [any_strs]; exact h) (by simpa [plain] using hx) (fun e he => by
    obtain ⟨y, hy, rfl⟩ := List.mem_map.mp he
    have := List.all_eq_true.mp hd y hy
    simpa [plain] using this)
end Mine
end
section
open PySem PySem.W PySem.Calls PyProof.Rows PySem.Spec
namespace Mine
variable {prog : Program} {w : World} {T : Tbl} {c : Cx} {d : Nat} {ρ : Loc} {σ σ' : AS} {s s' : Shared} {Φ : V → AS → Prop} {Ψ : Bool → AS → Prop}
theorem ev_Sub {value slice pos} (h : EvP prog w c value ρ σ (K1 prog w c slice ρ (subscriptTail value slice) Φ)) :
    EvP prog w c (.Subscript value slice pos) ρ σ Φ := fun s S Q E q =>
  Subscript_ (h s S _ _ fun x s₁ v σ₁ st₁ ho₁ r₁ h₁ =>
    let S₁ := S.step st₁ ho₁
    h₁ s₁ S₁ _ _ fun y s₂ u σ₂ st₂ ho₂ r₂ h₂ => h₂ s₂ (S₁.step st₂ ho₂).toFS x y (r₁.keep (st₂.tup ho₁)) r₂ _ _ (q.chain (st₁.trans st₂)))
theorem Reps.get {h : Heap} : ∀ {vs l} {i : Nat} {x}, Reps h vs l → l[i]? = some x → ∃ v, vs[i]? = some v ∧ Rep h v x
  | _, _, 0, _, .cons r _, e => by simp at e; subst e; exact ⟨_, rfl, r⟩
  | _, _, i + 1, _, .cons _ rs, e => by simp at e; obtain ⟨v, h1, h2⟩ := rs.get e; exact ⟨v, by simpa using h1, h2⟩
  | _, _, _, _, .nil, e => by simp at e
noncomputable def unslice : Expr → Bool
  | .Slice .. => false
  | _ => true
theorem plain_slice {slice : Expr} (h : unslice slice = true) (o i : Value) : subscripted slice false o i = operate [o, i] (getItem o i) := by
  cases slice <;> first | rfl | cases h
theorem sub_tup {value slice l i x} (hs : unslice slice = true) (h0 : 0 ≤ i) (h1 : i < 2 ^ 63) (hx : l[i.toNat]? = some x) (h : Φ x σ) : Op2 prog w c (subscriptTail value slice) (.tup l) (.int i) σ Φ := fun s F a b r r' Q E q => by
  cases r' with
  | int _ t =>
  cases r with
  | tup ht hr =>
    rename_i ad vs
    obtain ⟨v, hv, rv⟩ := hr.get hx
    have hv' : vs[i.toNat]? = some v := by simpa using hv
    have hlt : i.toNat < vs.size := (Array.getElem?_eq_some_iff.mp hv').1
    exact tail_any (Heap.IsTuple.typeIs ht) slot_tuple_getitem.lookup (PyProof.Rows.getItem_tuple ht (by omega) h1 (seqIndex_of h0 (by omega)) hv' (q.now F.ob rv h)) (plain_slice hs _ _)
theorem sub_list {value slice a l i x} (hs : unslice slice = true) (hσ : σ a = some (.list l)) (h0 : 0 ≤ i) (h1 : i < 2 ^ 63) (hx : l[i.toNat]? = some x) (h : Φ x σ) : Op2 prog w c (subscriptTail value slice) (.obj a) (.int i) σ Φ := fun s F y b r r' Q E q => by
  cases r' with
  | int _ t =>
  cases r
  obtain ⟨vs, n, hl, hr⟩ := F.ob a _ hσ
  obtain ⟨v, hv, rv⟩ := hr.get hx
  exact tail_any (Heap.IsList.typeIs hl.isList) slot_list_getitem.lookup (wpAny_getItem_list hl.isList h0 h1 (by simpa using hv) (q.now F.ob rv h)) (plain_slice hs _ _)
theorem sub_str {value slice i} {x : Str} {ch : Nat} (hs : unslice slice = true) (h0 : 0 ≤ i) (h1 : i < 2 ^ 63) (hx : x.cps[i.toNat]? = some ch) (h : Φ (.str ⟨#[ch]⟩) σ) : Op2 prog w c (subscriptTail value slice) (.str x) (.int i) σ Φ := fun s F y b r r' Q E q => by
  cases r' with
  | int _ t =>
  cases r with
  | str _ u =>
  have hlt : i.toNat < x.cps.size := (Array.getElem?_eq_some_iff.mp hx).1
  refine tail_any (typeIs_str s x u) PySem.F.slot_str_getitem.lookup (P.getItem_str (c := ch) ?_ ?_ (q.here F.ob (.str ..) h)) (plain_slice hs _ _)
  · simp only [Bool.or_eq_false_iff, decide_eq_false_iff_not]; omega
  · rw [seqIndex_of h0 (show i < ((Str.length x : Nat) : Int) by show i < ((x.cps.size : Nat) : Int); omega)]; exact hx
theorem KReps.get {h : Heap} {ps kvs} (r : KReps h ps kvs) {k x} (e : kvs.lookup k = some x) : ∃ v, valueAt ps k = some v ∧ Rep h v x := by
  induction r with
  | nil => cases e
  | @cons k' v vs x' xs rv _ ih =>
    rw [List.lookup_cons] at e
    unfold valueAt
    rw [List.find?_cons]
    by_cases hk : k = k'
    · subst hk
      simp only [beq_self_eq_true] at e
      cases e
      exact ⟨v, by simp, rv⟩
    · rw [beq_eq_false_iff_ne.mpr hk] at e
      have : decide (k' = k) = false := decide_eq_false fun z => hk z.symm
      simp only [this]
      exact ih e
theorem KReps.none {h : Heap} {ps kvs} (r : KReps h ps kvs) {k} (e : kvs.lookup k = none) : valueAt ps k = none := by
  induction r with
  | nil => rfl
  | @cons k' v vs x' xs rv _ ih =>
    rw [List.lookup_cons] at e
    unfold valueAt
    rw [List.find?_cons]
    by_cases hk : k = k'
    · subst hk
      simp only [beq_self_eq_true] at e
      cases e
    · rw [beq_eq_false_iff_ne.mpr hk] at e
      have : decide (k' = k) = false := decide_eq_false fun z => hk z.symm
      simp only [this]
      exact ih e
theorem sub_dict {value slice a kvs k x} (hs : unslice slice = true) (hσ : σ a = some (.dict kvs)) (hx : kvs.lookup k = some x) (h : Φ x σ) : Op2 prog w c (subscriptTail value slice) (.obj a) (.str k) σ Φ := fun s F y b r r' Q E q => by
  cases r' with
  | str _ t =>
  cases r
  obtain ⟨ps, hd, hr⟩ := F.ob a _ hσ
  obtain ⟨v, hv, rv⟩ := hr.get hx
  exact tail_any hd.mapOf.typeIs slot_dict_getitem.lookup (wpAny_getItem_of (strKind_is prog w k t) hd.mapOf hv (q.here F.ob rv h)) (plain_slice hs _ _)
end Mine
end
section
open PySem PySem.W PySem.Calls PyProof.Rows PySem.Spec
namespace Mine
variable {prog : Program} {w : World} {T : Tbl} {c : Cx} {d : Nat} {ρ : Loc} {σ σ' : AS} {s s' : Shared} {Φ : V → AS → Prop} {Ψ : Bool → AS → Prop}
noncomputable def cut {α : Type} (l : List α) (lo hi : Option Int) : List α :=
  (l.drop (lo.elim 0 (clipAt l.length))).take (hi.elim l.length (clipAt l.length) - lo.elim 0 (clipAt l.length))
section
variable (prog : Program) (w : World)
noncomputable abbrev KInt (Ξ : Option Int → AS → Prop) : V → AS → Prop := fun v σ => ∃ i, v = .int i ∧ Ξ (some i) σ
noncomputable def EvO (c : Cx) (e : Option Expr) (ρ : Loc) (σ : AS) (Ξ : Option Int → AS → Prop) : Prop := match e with
  | none => Ξ none σ
  | some e => EvP prog w c e ρ σ (KInt Ξ)
noncomputable def OpSl (c : Cx) (value slice : Expr) (v : V) (lo hi : Option Int) (σ : AS) (Φ : V → AS → Prop) : Prop :=
  ∀ s, FS prog w c σ s → ∀ x, Rep s.heap x v → ∀ vl vu, IsPart vl lo → IsPart vu hi → ∀ Q E, KV prog w s σ Φ Q →
    wpAny (model prog w) c.A (subscriptTail value slice x (.ref s.heap.objs.size)) Q E { s with heap := s.heap.push { cls := .type "slice", data := .fields #[vl, vu, .none] } }
end
theorem evO_run {e : Option Expr} {Ξ : Option Int → AS → Prop} (h : EvO prog w c e ρ σ Ξ) {s} (S : St prog w c ρ σ s) {Q : Value → Shared → Prop} {E}
    (k : ∀ vl s₁ σ₁ lo, Step NoX σ s σ₁ s₁ → Ob prog w σ₁ s₁.heap → IsPart vl lo → Ξ lo σ₁ → Q vl s₁) : wpAny (model prog w) c.A (evalPart e c.env) Q E s := by
  cases e with
  | none => exact wpAny_pure (k .none s σ none Step.refl S.ob .none h)
  | some e =>
    exact h s S _ _ fun x s₁ v σ₁ st ho r hv => by
      obtain ⟨i, rfl, hv⟩ := hv
      cases r with
      | int _ t => exact k _ s₁ σ₁ (some i) st ho (.int i t) hv
section
variable (prog : Program) (w : World) (c : Cx)
noncomputable abbrev KS3 (value slice : Expr) (v : V) (lo : Option Int) (Φ : V → AS → Prop) : Option Int → AS → Prop := fun hi σ => OpSl prog w c value slice v lo hi σ Φ
noncomputable abbrev KS2 (value slice : Expr) (upper : Option Expr) (ρ : Loc) (v : V) (Φ : V → AS → Prop) : Option Int → AS → Prop := fun lo σ => EvO prog w c upper ρ σ (KS3 prog w c value slice v lo Φ)
noncomputable abbrev KS1 (value slice : Expr) (lower upper : Option Expr) (ρ : Loc) (Φ : V → AS → Prop) : V → AS → Prop := fun v σ => EvO prog w c lower ρ σ (KS2 prog w c value slice upper ρ v Φ)
end
theorem ev_Slice {value lower upper p pos} (h : EvP prog w c value ρ σ (KS1 prog w c value (.Slice lower upper none p) lower upper ρ Φ)) :
    EvP prog w c (.Subscript value (.Slice lower upper none p) pos) ρ σ Φ := fun s S Q E q =>
  Subscript_ (h s S _ _ fun x s₁ v σ₁ st₁ ho₁ r₁ h₁ => by
    have S₁ := S.step st₁ ho₁
    refine wpAny_Slice (evO_run h₁ S₁ fun vl s₂ σ₂ lo st₂ ho₂ p₂ h₂ => ?_)
    have S₂ := S₁.step st₂ ho₂
    refine evO_run h₂ S₂ fun vu s₃ σ₃ hi st₃ ho₃ p₃ h₃ => ?_
    have S₃ := S₂.step st₃ ho₃
    refine wpAny_pure ?_
    exact h₃ s₃ S₃.toFS x ((r₁.keep (st₂.tup ho₁)).keep (st₃.tup ho₂)) vl vu p₂ p₃ _ _ (q.chain (st₁.trans (st₂.trans st₃))))
theorem Reps.cut {h : Heap} : ∀ {vs l}, Reps h vs l → ∀ k, Reps h (vs.drop k) (l.drop k) ∧ Reps h (vs.take k) (l.take k)
  | _, _, r, 0 => ⟨r, by simpa using .nil⟩
  | _, _, .nil, k + 1 => ⟨by simpa using .nil, by simpa using .nil⟩
  | _, _, .cons r rs, k + 1 => ⟨(rs.cut k).1, by simpa using .cons r (rs.cut k).2⟩
theorem sl_list {value lower upper p a l lo hi} (hσ : σ a = some (.list l)) (hz : l.length ≤ sizeLine) (h : ∀ b, σ b = none → Φ (.obj b) (upd σ b (.list (cut l lo hi)))) :
    OpSl prog w c value (.Slice lower upper none p) (.obj a) lo hi σ Φ := fun s F x r vl vu pl pu Q E q => by
  cases r
  obtain ⟨vs, n, hl, hr⟩ := F.ob a _ hσ
  have hlen : vs.size = l.length := by simpa using hr.length
  have hl₂ : IsL (s.heap.push { cls := .type "slice", data := .fields #[vl, vu, .none] }) a vs n := hl.push _
  refine tail_any (ops := [.ref s.heap.objs.size, .ref a]) (Heap.IsList.typeIs (s := { s with heap := s.heap.push { cls := .type "slice", data := .fields #[vl, vu, .none] } }) hl₂.isList) slot_list_getitem.lookup
    (wpAny_getItem_list_slice hl₂.isList (Heap.IsSliceOf.new ..) pl pu .none (by simp) ?_ (by omega)) (by with_unfolding_all rfl)
  have k1 := push_keeps s.heap { cls := .type "slice", data := .fields #[vl, vu, .none] }
  generalize s.heap.push { cls := .type "slice", data := .fields #[vl, vu, .none] } = h1 at *
  refine q _ _ (.obj h1.objs.size) (upd σ h1.objs.size (.list (Mine.cut l lo hi))) ⟨⟨_, s.toks, rfl⟩, fun b o e _ _ => push_keeps _ _ _ _ (k1 _ _ e), fun b e => ?_⟩ ?_ (.obj _) (h _ ?_)
  · unfold upd at e
    split at e
    · rename_i z; subst z
      refine .inr ⟨?_, fun x => x⟩
      cases z : s.heap.get? h1.objs.size with
      | none => rfl
      | some o => have := k1 _ _ z; rw [get_size] at this; cases this
    · exact .inl e
  · refine (F.ob.grow k1).new (push_keeps _ _) ⟨_, 0, IsL.new .., ?_⟩
    rw [slicePick_plain, hlen]
    simpa [Mine.cut] using (((hr.cut _).1.cut _).2.keep (tupKeep_of k1)).keep (tupKeep_of (push_keeps _ _))
  · exact (F.ob.grow k1).none_of (get_size _)
end Mine
end
section
open PySem PySem.W PySem.Calls PyProof.Rows PySem.Spec PySem.Builtin.Str
set_option autoImplicit false
namespace Mine
variable {prog : Program} {w : World} {T : Tbl} {c : Cx} {d : Nat} {ρ : Loc} {σ σ' : AS} {s s' : Shared} {Φ : V → AS → Prop} {Ψ : Bool → AS → Prop}
noncomputable def scut (x : Str) (lo hi : Option Int) : Str := ⟨(cut x.cps.toList lo hi).toArray⟩
theorem strIdx (lo hi : Option Int) (n : Nat) : strSliceIndices lo hi 1 n = (List.range (hi.elim n (clipAt n) - lo.elim 0 (clipAt n))).map (lo.elim 0 (clipAt n) + ·) := by
  rw [← sliceRange_one]
  unfold strSliceIndices
  cases lo <;> cases hi <;> simp [clipAt_cast]
theorem strPick (x : Str) (lo hi : Option Int) : (strSliceIndices lo hi 1 x.length).filterMap (x.cps[·]?) = cut x.cps.toList lo hi := by
  rw [strIdx, pick_run]
  simp [cut, Str.length]
theorem hi_le (u : Option Int) (n : Nat) : u.elim n (clipAt n) ≤ n := by
  cases u with
  | none => exact Nat.le_refl _
  | some z =>
    have := clipAt_cast n z
    show clipAt n z ≤ n
    omega
theorem cut_le {α : Type} (l : List α) (lo hi : Option Int) : (cut l lo hi).length ≤ l.length := by
  unfold cut
  rw [List.length_take, List.length_drop]
  omega
theorem sl_str {value lower upper p x lo hi} (hz : x.length ≤ sizeLine) (h : Φ (.str (scut x lo hi)) σ) :
    OpSl prog w c value (.Slice lower upper none p) (.str x) lo hi σ Φ := fun s F y r vl vu pl pu Q E q => by
  cases r with
  | str _ t =>
  have main : ∀ l u : Option (Int × Tok), l.map (·.1) = lo → u.map (·.1) = hi → vl = partValue l → vu = partValue u →
      wpAny (model prog w) c.A (subscriptTail value (.Slice lower upper none p) (.str x t) (.ref s.heap.objs.size)) Q E { s with heap := s.heap.push { cls := .type "slice", data := .fields #[vl, vu, .none] } } := by
    rintro l u rfl rfl rfl rfl
    refine tail_any (ops := [.ref s.heap.objs.size, .str x t]) (typeIs_str _ x t) PySem.F.slot_str_getitem.lookup (wpAny_getItem_str_slice (l := l) (u := u) (st := none) ⟨_, Heap.get?_push_size _ rfl, rfl, rfl⟩ rfl ?_) (by with_unfolding_all rfl)
    have e : slicePicked x l u none = strSliceIndices (l.map (·.1)) (u.map (·.1)) 1 x.length := rfl
    have st : Step NoX σ s σ { s with heap := s.heap.push { cls := .type "slice", data := .fields #[partValue l, partValue u, .none] } } := Step.push
    have q' := q.chain st
    unfold sliceMade
    split
    · rename_i hw
      have hl : (strSliceIndices (l.map (·.1)) (u.map (·.1)) 1 x.length).length = x.length := by
        have := (Bool.and_eq_true_iff.mp hw).2
        rw [e] at this
        simpa using this
      have hp := strPick x (l.map (·.1)) (u.map (·.1))
      have hx : scut x (l.map (·.1)) (u.map (·.1)) = x := by
        rw [strIdx, List.length_map, List.length_range] at hl
        unfold scut
        cases x with
        | mk cps =>
          simp only [Str.mk.injEq]
          apply Array.toList_inj.mp
          simp only [cut, Array.length_toList]
          simp only [Str.length] at hl
          have h1 := hi_le (u.map (·.1)) cps.size
          generalize (u.map (·.1)).elim cps.size (clipAt cps.size) = B at *
          generalize (l.map (·.1)).elim 0 (clipAt cps.size) = A at *
          have hz : cps.toList.length = cps.size := Array.length_toList
          by_cases h0 : cps.size = 0
          · have : cps.toList = [] := List.length_eq_zero_iff.mp (hz.trans h0)
            rw [this]; simp
          · have hA : A = 0 := by omega
            subst hA
            rw [List.drop_zero]
            exact List.take_of_length_le (by omega)
      rw [hx] at h
      exact q'.now (F.ob.grow (push_keeps _ _)) (.str ..) h
    · refine ⟨?_, ?_⟩
      · rw [e, strPick]
        show (cut _ _ _).toArray.size ≤ _
        simp only [List.size_toArray]
        exact Nat.le_trans (cut_le _ _ _) (by simpa [Str.length] using hz)
      · rw [e, strPick]
        exact q'.here (F.ob.grow (push_keeps _ _)) (.str ..) h
  cases pl with
  | none =>
    cases pu with
    | none => exact main none none rfl rfl rfl rfl
    | int j u => exact main none (some (j, u)) rfl rfl rfl rfl
  | int i t' =>
    cases pu with
    | none => exact main (some (i, t')) none rfl rfl rfl rfl
    | int j u => exact main (some (i, t')) (some (j, u)) rfl rfl rfl rfl
end Mine
end
section
open PySem PySem.W PySem.Calls PyProof.Rows PySem.Spec
set_option autoImplicit false
namespace Mine
variable {prog : Program} {w : World} {T : Tbl} {c : Cx} {d : Nat} {ρ : Loc} {σ σ' : AS} {s s' : Shared} {Φ : V → AS → Prop} {Ψ : Bool → AS → Prop}
noncomputable def noStar : List Expr → Bool
  | [] => true
  | .Starred .. :: _ => false
  | _ :: r => noStar r
theorem starEach_plain (env : Env) : ∀ es : List Expr, noStar es = true → starEach es env = es.map fun e => (false, eval e env)
  | [], _ => rfl
  | e :: r, h => by
    cases e <;> first | (simp [noStar] at h; done) | exact congrArg _ (starEach_plain env r (by simpa [noStar] using h))
theorem backTo_plain (pos : Pos) (ts : List (Sem Value)) : (backTo pos (ts.map fun t => (false, t))).any (·.1) = false := by
  induction ts with
  | nil => rfl
  | cons t r ih => simpa [backTo] using ih
theorem plain_any {es : List Expr} {env : Env} {pos : Pos} (hn : noStar es = true) : (backTo pos (starEach es env)).any (·.1) = false := by
  rw [starEach_plain env es hn]
  have := backTo_plain pos (es.map fun e => eval e env)
  rw [List.map_map] at this
  exact this
noncomputable abbrev Keep3 (w : World) (prog : Program) (P : Heap → Prop) (f : Value) : Prop := ∀ h, P h → ∃ k, (k = Keeper.frame ∨ k = Keeper.machine ∨ k = Keeper.boundFrame) ∧ Looks (model prog w) h (keeperOf f) k
theorem callWith_run {e : Expr} {es : List Expr} {pos : Pos} {f : Value} {first : List Value} {P : Heap → Prop} {s : Shared} {A : Around} {env : Env} {Q : Value → Shared → Prop} {E} (hn : noStar (e :: es) = true)
    (hk : Keep3 w prog P f)
    (h : wpAny (model prog w) A (spliced (backTo pos (starEach (e :: es) env))) (fun vs s₁ => P s₁.heap ∧ wpAny (model prog w) A (call f (first ++ vs)) Q E s₁) E s) :
    wpAny (model prog w) A (callWith pos f first (backTo pos (starEach (e :: es) env)) []) Q E s := by
  have ha := plain_any (env := env) (pos := pos) hn
  rw [starEach_plain env _ hn] at h ha ⊢
  exact callWith_of (P := P) (by rw [ha]; rfl) hk (evalArgs_plain h)
theorem callWith_run0 {pos : Pos} {f : Value} {first : List Value} {P : Heap → Prop} {s : Shared} {A : Around} {env : Env} {Q : Value → Shared → Prop} {E} (hk : Keep3 w prog P f) (hP : P s.heap)
    (h : wpAny (model prog w) A (call f (first ++ [])) Q E s) : wpAny (model prog w) A (callWith pos f first (backTo pos (starEach [] env)) []) Q E s :=
  callWith_of (P := P) rfl hk (evalArgs_nil3 ⟨hP, h⟩)
theorem keep_builtin (id : String) : Keep3 w prog (fun _ => True) (.builtin id) := fun h _ => ⟨.machine, .inr (.inl rfl), Looks.of_pure rfl⟩
theorem keep_type (id : String) : Keep3 w prog (fun _ => True) (.type id) := fun h _ => ⟨.machine, .inr (.inl rfl), Looks.of_pure rfl⟩
noncomputable def FnHere (a : Addr) (h : Heap) : Prop := ∃ o fd, h.get? a = some o ∧ o.data = .func fd
theorem keep_fn (a : Addr) : Keep3 w prog (FnHere a) (.ref a) := fun h ⟨o, fd, g, e⟩ => ⟨.frame, .inl rfl, by
  refine (Looks.ld (part := none) g).andThen ?_
  rw [e]
  exact .now⟩
noncomputable def isPrim : Value → Bool
  | .builtin _ => true
  | .type _ => true
  | _ => false
theorem keep_prim {f : Value} (h : isPrim f = true) : Keep3 w prog (fun _ => True) f := by
  cases f <;> first | exact keep_builtin _ | exact keep_type _ | (simp [isPrim] at h)
noncomputable abbrev KCallB (prog : Program) (w : World) (c : Cx) (f : Value) (Φ : V → AS → Prop) : List V → AS → Prop := fun vs σ => OpL prog w c (fun xs => call f xs) vs σ Φ
theorem ev_CallB {prog : Program} {w : World} {T : Tbl} {c : Cx} {d : Nat} (O : Ok T c d) {x : Str} {f : Value} (ht : T.lookup x = some (.blt f)) (h1 : (x == ("__debug__" : Str)) = false) (hp : isPrim f = true) (hx : c.env.kindOf x = some .globalImplicit) {e : Expr} {es : List Expr} (hn : noStar (e :: es) = true) {np pos : Pos}
    {ρ : Loc} {σ : AS} {Φ : V → AS → Prop} (h : EvL prog w c (e :: es) ρ σ (KCallB prog w c f Φ)) : EvP prog w c (.Call (.Name x np) (e :: es) [] pos) ρ σ Φ := fun s S Q E q => by
  obtain ⟨mg, mb, h2, h3, hm, hb⟩ := glob_at O S.toFS ht
  refine wpAny_Call_NameR (Name_function_global O.kind hx (loadGlobal_builtin (O.glob ▸ h2) hm (O.blts ▸ h3) hb ?_) h1)
  exact callWith_run hn (keep_prim hp) (h s S pos _ _ fun xs s₁ vs σ₁ st ho r hv => ⟨trivial, hv s₁ (S.step st ho).toFS xs r _ _ (q.chain st)⟩)
/-- a contract of a function of the text: with a budget of frames -/
noncomputable def Con (prog : Program) (w : World) (T : Tbl) (d : Nat) (f : Str) (r : FnRec) (vs : List V) (σ : AS) (Φ : V → AS → Prop) : Prop :=
  ∀ c, Ok T c d → ∀ s, FS prog w c σ s → ∀ a, FnAt c.h₀ a f r → ∀ xs, Reps s.heap xs vs → WV prog w c.A σ (call (.ref a) xs) Φ s
theorem FS.fn (F : FS prog w c σ s) {f r a} (h : FnAt c.h₀ a f r) : FnAt s.heap a f r := let ⟨_, fr⟩ := F.fr; h.keeps fr.keep
theorem FnAt.here {h : Heap} {a f r} (x : FnAt h a f r) : FnHere a h := let ⟨o, _, _, _, g, e, _⟩ := x; ⟨o, _, g, e⟩
theorem fn_at (O : Ok T c d) {f r} (e : T.lookup f = some (.fn r)) (F : FS prog w c σ s) : ∃ mg a, s.heap.Ns mainGlobals mg ∧ mg f = some (.ref a) ∧ FnAt c.h₀ a f r := by
  obtain ⟨m, fr⟩ := F.fr
  obtain ⟨mg, mb, h1, h2, h3⟩ := O.gl.ns
  obtain ⟨a, h4, h5⟩ := h3 f _ e
  exact ⟨mg, a, h1.keeps fr.keep, h4, h5⟩
noncomputable abbrev KCon (prog : Program) (w : World) (T : Tbl) (d : Nat) (f : Str) (r : FnRec) (Φ : V → AS → Prop) : List V → AS → Prop := fun vs σ => Con prog w T d f r vs σ Φ
theorem ev_Call {prog : Program} {w : World} {T : Tbl} {c : Cx} {d : Nat} (O : Ok T c d) {f : Str} {r : FnRec} (ht : T.lookup f = some (.fn r)) (h1 : (f == ("__debug__" : Str)) = false) (hx : c.env.kindOf f = some .globalImplicit) {e : Expr} {es : List Expr} (hn : noStar (e :: es) = true) {np pos : Pos}
    {ρ : Loc} {σ : AS} {Φ : V → AS → Prop} (h : EvL prog w c (e :: es) ρ σ (KCon prog w T d f r Φ)) : EvP prog w c (.Call (.Name f np) (e :: es) [] pos) ρ σ Φ := fun s S Q E q => by
  obtain ⟨mg, a, h2, h3, h4⟩ := fn_at O ht S.toFS
  refine wpAny_Call_NameR (Name_function_global O.kind hx (loadGlobal_global (O.glob ▸ h2) h3 ?_) h1)
  exact callWith_run hn (keep_fn a) (h s S pos _ _ fun xs s₁ vs σ₁ st ho r hv => by
    have S₁ := (S.step st ho).toFS
    exact ⟨(S₁.fn h4).here, hv c O s₁ S₁ a h4 xs r _ _ (q.chain st)⟩)
theorem ev_Call0 {prog : Program} {w : World} {T : Tbl} {c : Cx} {d : Nat} (O : Ok T c d) {f : Str} {r : FnRec} (ht : T.lookup f = some (.fn r)) (h1 : (f == ("__debug__" : Str)) = false) (hx : c.env.kindOf f = some .globalImplicit) {np pos : Pos}
    {ρ : Loc} {σ : AS} {Φ : V → AS → Prop} (h : Con prog w T d f r [] σ Φ) : EvP prog w c (.Call (.Name f np) [] [] pos) ρ σ Φ := fun s S Q E q => by
  obtain ⟨mg, a, h2, h3, h4⟩ := fn_at O ht S.toFS
  refine wpAny_Call_NameR (Name_function_global O.kind hx (loadGlobal_global (O.glob ▸ h2) h3 ?_) h1)
  exact callWith_run0 (keep_fn a) (S.toFS.fn h4).here (h c O s S.toFS a h4 [] .nil _ _ q)
end Mine
end
section
open PySem PySem.W PySem.Calls PyProof.Rows PySem.Spec
set_option autoImplicit false
namespace Mine
inductive Fl where
  | next | brk | cont
  | ret (v : V)
inductive FRep (h : Heap) : Flow → Fl → Prop
  | next : FRep h .next .next
  | brk : FRep h .brk .brk
  | cont : FRep h .cont .cont
  | ret {x v} : Rep h x v → FRep h (.ret x) (.ret v)
/-- what a statement of the frame may change: its names -/
noncomputable def Own (c : Cx) (b : Addr) : Prop := b = c.env.locals ∨ ∃ x, c.env.cells.lookup x = some b
section
variable (prog : Program) (w : World)
noncomputable def KF (c : Cx) (s : Shared) (σ : AS) (Ψ : Fl → Loc → AS → Prop) (Q : Flow → Shared → Prop) : Prop :=
  ∀ fl s' fa ρ' σ', Step (Own c) σ s σ' s' → St prog w c ρ' σ' s' → FRep s'.heap fl fa → Ψ fa ρ' σ' → Q fl s'
noncomputable def ExP (c : Cx) (ss : List Stmt) (ρ : Loc) (σ : AS) (Ψ : Fl → Loc → AS → Prop) : Prop := ∀ s, St prog w c ρ σ s → ∀ Q E, KF prog w c s σ Ψ Q → wpAny (model prog w) c.A (execs ss c.env) Q E s
noncomputable def ExS (c : Cx) (st : Stmt) (ρ : Loc) (σ : AS) (Ψ : Fl → Loc → AS → Prop) : Prop := ∀ s, St prog w c ρ σ s → ∀ Q E, KF prog w c s σ Ψ Q → wpAny (model prog w) c.A (exec st c.env) Q E s
end
variable {prog : Program} {w : World} {T : Tbl} {c : Cx} {d : Nat} {ρ : Loc} {σ σ' : AS} {s s' : Shared} {Φ : V → AS → Prop} {Ψ : Fl → Loc → AS → Prop}
theorem KF.chain {Q} (q : KF prog w c s σ Ψ Q) (st : Step (Own c) σ s σ' s') : KF prog w c s' σ' Ψ Q := fun fl s₂ fa ρ₂ σ₂ st₂ S r h => q fl s₂ fa ρ₂ σ₂ (st.trans st₂) S r h
theorem Step.some (S : St prog w c ρ σ s) (st : Step NoX σ s σ' s') : Step (Own c) σ s σ' s' :=
  st.weaken (fun _ h => h.elim) fun b e => by
    rcases e with e | ⟨x, e⟩
    · subst e
      obtain ⟨m, o, es, ep, g, _⟩ := S.nsx
      rw [g]; simp
    · obtain ⟨v, o, g, _⟩ := S.cellx x b e
      rw [g]; simp
theorem own_notTup (S : St prog w c ρ σ s) {b : Addr} (h : Own c b) (vs : Array Value) : ¬ s.heap.IsTuple b vs := fun t => by
  obtain ⟨o', g', _, n, hd'⟩ := t
  rcases h with e | ⟨x, e⟩
  · subst e
    obtain ⟨m, o, es, ep, g, hd, _⟩ := S.nsx
    cases g.symm.trans g'
    rw [hd] at hd'; cases hd'
  · obtain ⟨v, o, g, hd⟩ := S.cellx x b e
    cases g.symm.trans g'
    rw [hd] at hd'; cases hd'
theorem ex_nil (h : Ψ .next ρ σ) : ExP prog w c [] ρ σ Ψ := fun s S Q E q => wpAny_execs_nil (q .next s .next ρ σ Step.refl S .next h)
section
variable (prog : Program) (w : World) (c : Cx)
noncomputable abbrev KSeq (rest : List Stmt) (Ψ : Fl → Loc → AS → Prop) : Fl → Loc → AS → Prop := fun fl ρ σ => (fl = .next → ExP prog w c rest ρ σ Ψ) ∧ (fl ≠ .next → Ψ fl ρ σ)
noncomputable abbrev KIfS (a b : List Stmt) (ρ : Loc) (Ψ : Fl → Loc → AS → Prop) : Bool → AS → Prop := fun k σ => (k = true → ExP prog w c a ρ σ Ψ) ∧ (k = false → ExP prog w c b ρ σ Ψ)
end
noncomputable abbrev KRet (ρ : Loc) (Ψ : Fl → Loc → AS → Prop) : V → AS → Prop := fun v σ => Ψ (.ret v) ρ σ
noncomputable abbrev KDrop (ρ : Loc) (Ψ : Fl → Loc → AS → Prop) : V → AS → Prop := fun v σ => v = .none ∧ Ψ .next ρ σ
noncomputable abbrev KAsg (x : Str) (ρ : Loc) (Ψ : Fl → Loc → AS → Prop) : V → AS → Prop := fun v σ => Ψ .next ((x, v) :: ρ) σ
noncomputable def uncomp : Expr → Bool
  | .ListComp .. => false
  | .SetComp .. => false
  | .DictComp .. => false
  | _ => true
theorem swaps_none {value : Expr} {t : Option Expr} {l : Nat} {env : Env} (h : uncomp value = true) : swapsWith value t l env = pure false := by
  cases value <;> first | rfl | cases h
theorem ex_cons {st : Stmt} {rest : List Stmt} (h : ExS prog w c st ρ σ (KSeq prog w c rest Ψ)) : ExP prog w c (st :: rest) ρ σ Ψ := fun s S Q E q =>
  wpAny_execs_cons (h s S _ _ fun fl s₁ fa ρ₁ σ₁ st₁ S₁ r₁ h₁ => by
    cases r₁ with
    | next => exact h₁.1 rfl s₁ S₁ _ _ (q.chain st₁)
    | brk => exact q _ s₁ .brk ρ₁ σ₁ st₁ S₁ .brk (h₁.2 (by simp))
    | cont => exact q _ s₁ .cont ρ₁ σ₁ st₁ S₁ .cont (h₁.2 (by simp))
    | ret r => exact q _ s₁ (.ret _) ρ₁ σ₁ st₁ S₁ (.ret r) (h₁.2 (by simp)))
theorem ex_Return {e : Expr} {pos : Pos} (h : EvP prog w c e ρ σ (KRet ρ Ψ)) : ExS prog w c (.Return (some e) pos) ρ σ Ψ := fun s S Q E q =>
  wpAny_Return_some (h s S _ _ fun x s₁ v σ₁ st ho r hv => q _ s₁ (.ret v) ρ σ₁ (st.some S) (S.step st ho) (.ret r) hv)
theorem ex_If {t : Expr} {a b : List Stmt} {pos : Pos} (h : EvT prog w c t ρ σ (KIfS prog w c a b ρ Ψ)) : ExS prog w c (.If t a b pos) ρ σ Ψ := fun s S Q E q =>
  wpAny_If (h s S _ _ fun k s₁ σ₁ st ho hk => by
    cases k
    · exact hk.2 rfl s₁ (S.step st ho) _ _ (q.chain (st.some S))
    · exact hk.1 rfl s₁ (S.step st ho) _ _ (q.chain (st.some S)))
theorem ex_Continue {pos : Pos} (h : Ψ .cont ρ σ) : ExS prog w c (.Continue pos) ρ σ Ψ := fun s S Q E q => wpAny_Continue (q .cont s .cont ρ σ Step.refl S .cont h)
theorem ex_Expr {e : Expr} {pos : Pos} (hi : interactive c.env = false) (hs : uncomp e = true) (h : EvP prog w c e ρ σ (KDrop ρ Ψ)) : ExS prog w c (.Expr e pos) ρ σ Ψ := fun s S Q E q =>
  wpAny_Expr (h s S _ _ fun x s₁ v σ₁ st ho r hv => by
    obtain ⟨rfl, hv⟩ := hv
    cases r
    exact q .next s₁ .next ρ σ₁ (st.some S) (S.step st ho) .next hv) hi (swaps_none hs)
/-- the frame's own names are stored -/
theorem store_run {x : Str} {val : Value} {v : V} (S : St prog w c ρ σ s) (hL : c.env.locals = c.L) (hk : c.env.scope.kind = .function) (hx : c.env.kindOf x = some .local) (r : Rep s.heap val v) {Q : Unit → Shared → Prop} {E}
    (k : ∀ h', Step (Own c) σ s σ { s with heap := h', toks := s.toks + 1 } → St prog w c ((x, v) :: ρ) σ { s with heap := h', toks := s.toks + 1 } → Q () { s with heap := h', toks := s.toks + 1 }) :
    wpAny (model prog w) c.A (storeName c.env x val) Q E s := by
  obtain ⟨m, F⟩ := S.fr
  have hn : s.heap.Ns c.env.locals m := hL ▸ F.ns
  refine wpAny_storeName_local hx hn (fun h' hn' hs => ?_) (by rw [hk]; rfl)
  have hs' : Heap.SameBut c.L s.heap h' := hL ▸ hs
  have F' := F.set (hL ▸ hn') hs'
  have tk : TupKeep s.heap h' := by
    intro b vs t
    by_cases e : b = c.env.locals
    · subst e
      obtain ⟨o, es, ep, g, hd, _⟩ := hn
      obtain ⟨o', g', _, n, hd'⟩ := t
      cases g.symm.trans g'
      rw [hd] at hd'; cases hd'
    · obtain ⟨o', g', r'⟩ := t
      exact ⟨o', (hs.2 b e).trans g', r'⟩
  refine k h' ⟨⟨h', s.toks + 1, rfl⟩, fun b o e hx _ => (hs.2 b fun z => hx (.inl z)).trans e, fun b e => .inl e⟩ ⟨⟨⟨_, F'⟩, fun a o e => ?_, S.sep⟩, fun y u e => ?_, ⟨_, hn'⟩, fun y a e => ?_, S.sepN, S.sepC⟩
  · have ha := S.sep a (by rw [e]; simp)
    exact (S.ob a o e).keep tk fun ob g => (hs'.2 a ha.1).trans g
  · rw [List.lookup_cons] at e
    by_cases hy : y = x
    · subst hy
      simp only [beq_self_eq_true] at e
      cases e
      exact ⟨val, .inl ⟨hx, _, hn', by simp⟩, r.keep tk⟩
    · rw [beq_eq_false_iff_ne.mpr hy] at e
      obtain ⟨val', n, r'⟩ := S.names y u e
      refine ⟨val', ?_, r'.keep tk⟩
      rcases n with ⟨kk, m', hm', e'⟩ | ⟨kk, a, ha, o, g, hd⟩
      · refine .inl ⟨kk, _, hn', ?_⟩
        have : m' y = m y := by
          obtain ⟨o1, es1, ep1, g1, d1, _, f1⟩ := hm'
          obtain ⟨o2, es2, ep2, g2, d2, _, f2⟩ := hn
          cases g1.symm.trans g2
          cases d1.symm.trans d2
          rw [← f1, ← f2]
        simp [hy, ← this, e']
      · refine .inr ⟨kk, a, ha, o, (hs.2 a fun z => ?_).trans g, hd⟩
        obtain ⟨o2, es2, ep2, g2, d2, _, f2⟩ := hn
        rw [z] at g
        cases g.symm.trans g2
        rw [hd] at d2; cases d2
  · obtain ⟨v', o, g, hd⟩ := S.cellx y a e
    refine ⟨v', o, (hs.2 a fun z => ?_).trans g, hd⟩
    obtain ⟨o2, es2, ep2, g2, d2, _, f2⟩ := hn
    rw [z] at g
    cases g.symm.trans g2
    rw [hd] at d2; cases d2
theorem ex_Assign {prog : Program} {w : World} {c : Cx} (hL : c.env.locals = c.L) (hk : c.env.scope.kind = .function) {x : Str} (hx : c.env.kindOf x = some .local) {value : Expr} (hs : uncomp value = true) {p pos : Pos}
    {ρ : Loc} {σ : AS} {Ψ : Fl → Loc → AS → Prop} (h : EvP prog w c value ρ σ (KAsg x ρ Ψ)) : ExS prog w c (.Assign [.Name x p] value pos) ρ σ Ψ := fun s S Q E q =>
  wpAny_Assign_Name (h s S _ _ fun val s₁ v σ₁ st ho r hv =>
    store_run (S.step st ho) hL hk hx r fun h' st' S' => q .next _ .next _ σ₁ ((st.some S).trans st') S' .next hv) (swaps_none hs)
/-- an item is stored -/
noncomputable def Op3 (prog : Program) (w : World) (c : Cx) (v u x : V) (σ : AS) (Ξ : AS → Prop) : Prop :=
  ∀ s, FS prog w c σ s → ∀ a b y, Rep s.heap a v → Rep s.heap b u → Rep s.heap y x → ∀ Q E, (∀ s' σ', Step NoX σ s σ' s' → Ob prog w σ' s'.heap → Ξ σ' → Q () s') → wpAny (model prog w) c.A (setItem a b y) Q E s
noncomputable abbrev KA4 (ρ : Loc) (Ψ : Fl → Loc → AS → Prop) : AS → Prop := fun σ => Ψ .next ρ σ
section
variable (prog : Program) (w : World) (c : Cx)
noncomputable abbrev KA3 (u v : V) (Ξ : AS → Prop) : V → AS → Prop := fun k σ => Op3 prog w c u k v σ Ξ
noncomputable abbrev KA2 (i : Expr) (ρ : Loc) (v : V) (Ξ : AS → Prop) : V → AS → Prop := fun u σ => EvP prog w c i ρ σ (KA3 prog w c u v Ξ)
noncomputable abbrev KA1 (o i : Expr) (ρ : Loc) (Ξ : AS → Prop) : V → AS → Prop := fun v σ => EvP prog w c o ρ σ (KA2 prog w c i ρ v Ξ)
end
theorem ex_AssignSub {o i value : Expr} {p pos : Pos} (hs : uncomp value = true) (h : EvP prog w c value ρ σ (KA1 prog w c o i ρ (KA4 ρ Ψ))) : ExS prog w c (.Assign [.Subscript o i p] value pos) ρ σ Ψ := fun s S Q E q =>
  wpAny_Assign_Subscript (h s S _ _ fun y s₁ v σ₁ st₁ ho₁ r₁ h₁ =>
    let S₁ := S.step st₁ ho₁
    h₁ s₁ S₁ _ _ fun a s₂ u σ₂ st₂ ho₂ r₂ h₂ =>
      let S₂ := S₁.step st₂ ho₂
      h₂ s₂ S₂ _ _ fun b s₃ k σ₃ st₃ ho₃ r₃ h₃ =>
        let S₃ := S₂.step st₃ ho₃
        h₃ s₃ S₃.toFS a b y (r₂.keep (st₃.tup ho₂)) r₃ ((r₁.keep (st₂.tup ho₁)).keep (st₃.tup ho₂)) _ _ fun s₄ σ₄ st₄ ho₄ h₄ =>
          q .next s₄ .next ρ σ₄ ((st₁.trans (st₂.trans (st₃.trans st₄))).some S) (S₃.step st₄ ho₄) .next h₄) (swaps_none hs)
/-- fewer names, fewer objects are enough -/
theorem St.less {ρ' : Loc} {σ₀ : AS} (S : St prog w c ρ σ s) (hρ : ∀ x v, ρ'.lookup x = some v → ρ.lookup x = some v) (hσ : ∀ a o, σ₀ a = some o → σ a = some o) : St prog w c ρ' σ₀ s := by
  have hn : ∀ a, σ a = none → σ₀ a = none := fun a e => by
    cases q : σ₀ a with
    | none => rfl
    | some o => rw [hσ a o q] at e; cases e
  exact ⟨⟨S.fr, fun a o e => S.ob a o (hσ a o e), fun a e => S.sep a fun q => e (hn a q)⟩, fun x v e => S.names x v (hρ x v e), S.nsx, S.cellx, hn _ S.sepN, fun x a e => hn _ (S.sepC x a e)⟩
end Mine
end
section
open PySem PySem.W PySem.Calls PyProof.Rows PySem.Spec
set_option autoImplicit false
namespace Mine
variable {prog : Program} {w : World} {T : Tbl} {c : Cx} {d : Nat} {ρ : Loc} {σ σ' : AS} {s s' : Shared} {Φ : V → AS → Prop} {Ψ : Fl → Loc → AS → Prop}
/-- every object that is neither in the base nor the frame -/
noncomputable def full (h₀ : Heap) (L : Addr) (h : Heap) : List (Addr × Obj) :=
  (List.range h.objs.size).filterMap fun b => if b = L then none else match h₀.get? b, h.get? b with
    | none, some o => some (b, o)
    | _, _ => none
theorem mem_full {h₀ h : Heap} {L b : Addr} {o : Obj} : (b, o) ∈ full h₀ L h ↔ h.get? b = some o ∧ b ≠ L ∧ h₀.get? b = none := by
  unfold full
  rw [List.mem_filterMap]
  constructor
  · rintro ⟨x, hx, e⟩
    split at e
    · cases e
    · rename_i hne
      split at e
      · rename_i q1 q2
        cases e
        exact ⟨q2, hne, q1⟩
      · cases e
  · rintro ⟨h1, h2, h3⟩
    exact ⟨b, List.mem_range.mpr (Heap.lt_size h1), by rw [if_neg h2, h3, h1]⟩
theorem full_news (h₀ : Heap) (L : Addr) (h : Heap) : News h₀ L h (full h₀ L h) := fun p hp => mem_full.mp hp
noncomputable def envF (f : Str) (sc : Scope) (L a : Addr) (cd : Value) : Env := envX f sc L a cd []
noncomputable def cxF (A : Around) (f : Str) (sc : Scope) (h₀ : Heap) (L a : Addr) (cd : Value) : Cx := ⟨A.deeper (envF f sc L a cd), envF f sc L a cd, h₀, L⟩
noncomputable def Fl.val : Fl → V
  | .ret v => v
  | _ => .none
noncomputable def Sub (σ σ' : AS) : Prop := ∀ a o, σ a = some o → σ' a = some o
theorem lookup_zip {names : List Str} {xs : List Value} {vs : List V} {h : Heap} (r : Reps h xs vs) : ∀ {x v}, (names.zip vs).lookup x = some v → ∃ val, (names.zip xs).lookup x = some val ∧ Rep h val v := by
  induction names generalizing xs vs with
  | nil => intro x v e; cases e
  | cons n names ih =>
    intro x v e
    cases r with
    | nil => cases e
    | cons r rs =>
      rw [List.zip_cons_cons, List.lookup_cons] at e ⊢
      cases hb : x == n with
      | true => rw [hb] at e; cases e; exact ⟨_, rfl, r⟩
      | false => rw [hb] at e; exact ih rs e
theorem lookup_rev {names : List Str} {xs : List Value} (hn : names.Nodup) (x : Str) : (names.zip xs).reverse.lookup x = (names.zip xs).lookup x := by
  induction names generalizing xs with
  | nil => rfl
  | cons n names ih =>
    cases xs with
    | nil => rfl
    | cons y xs =>
      have hn' := List.nodup_cons.mp hn
      rw [List.zip_cons_cons, List.reverse_cons, List.lookup_append, ih hn'.2, List.lookup_cons, List.lookup_cons, List.lookup_nil]
      cases hb : x == n with
      | true =>
        have : x = n := by simpa using hb
        subst this
        have : (names.zip xs).lookup x = none := by
          rw [List.lookup_eq_none_iff]
          rintro ⟨a, b⟩ hp
          have := (List.of_mem_zip hp).1
          simp only [bne_iff_ne, ne_eq]
          rintro rfl
          exact hn'.1 this
        rw [this]; rfl
      | false => cases (names.zip xs).lookup x <;> rfl
theorem con_def {f : Str} {r : FnRec} {names : List Str} {vs : List V} (hlen : names.length = vs.length) (hnd : names.Nodup)
    (hb : ∀ pm code doc xs, xs.length = names.length → bindArgs (docDef f r.params r.body r.scope pm code doc) ⟨xs, []⟩ = pure (names.zip xs))
    (hloc : ∀ n ∈ names, r.scope.names.lookup n = some .local) (hcell : ∀ x ∈ r.scope.names, x.2 ≠ .cell)
    (hco : r.scope.isCoroutine = false) (hgen : r.scope.isGenerator = false) (hk : r.scope.kind = .function)
    (h : ∀ A h₀ L a cd, Ok T (cxF A f r.scope h₀ L a cd) d → ExP prog w (cxF A f r.scope h₀ L a cd) r.body (names.zip vs) σ fun fl _ σ₁ => ∃ σ₂, Sub σ₂ σ₁ ∧ Φ fl.val σ₂) :
    Con prog w T (d + 1) f r vs σ Φ := by
  intro c O s F a hf xs rx Q E q
  obtain ⟨A₀, base, fenv, outer, B, hA, hfr, hke⟩ := O.stack
  obtain ⟨m, Fr0⟩ := F.fr
  obtain ⟨o, pm, code, doc, ho, hd, hcd⟩ := F.fn hf
  have hxl : xs.length = names.length := by rw [hlen, rx.length]
  have room := O.room
  have units := O.units
  refine wpAny_call ?_
  have hN := full_news c.h₀ c.L s.heap
  obtain ⟨FG, BG, stays, lv⟩ := groundX (R := fun r s' => match r with | .ok (.ret v) => Q v s' | .ok _ => False | .error e => E e s') B Fr0 hN hA hfr hke
  have keepG : ∀ b o, s.heap.get? b = some o → (b = c.L ∨ c.h₀.get? b ≠ none) → (hideAll s.heap ((full c.h₀ c.L s.heap).map (·.1))).get? b = some o := fun b o e hb => hideAll_get _ e fun q => by
    obtain ⟨p, hp, rfl⟩ := List.mem_map.mp q
    have := mem_full.mp (show (p.1, p.2) ∈ _ from hp)
    rcases hb with hb | hb
    · exact this.2.1 hb
    · exact hb this.2.2
  have noneG : ∀ b, b ≠ c.L → c.h₀.get? b = none → (hideAll s.heap ((full c.h₀ c.L s.heap).map (·.1))).get? b = none := fun b h1 h2 => by
    cases e : s.heap.get? b with
    | none =>
      cases e' : (hideAll s.heap ((full c.h₀ c.L s.heap).map (·.1))).get? b with
      | none => rfl
      | some o => rw [of_hideAll _ e'] at e; cases e
    | some o => exact hideAll_none _ (List.mem_map.mpr ⟨(b, o), mem_full.mpr ⟨e, h1, h2⟩, rfl⟩)
  have sizeG := hideAll_size ((full c.h₀ c.L s.heap).map (·.1)) s.heap
  have ofG : ∀ b o, (hideAll s.heap ((full c.h₀ c.L s.heap).map (·.1))).get? b = some o → s.heap.get? b = some o := fun b o e => of_hideAll _ e
  generalize hideAll s.heap ((full c.h₀ c.L s.heap).map (·.1)) = g at *
  refine codeAny_call_def (fd := docDef f r.params r.body r.scope pm code doc) (body := r.body) (binds := names.zip xs) (by omega) ho hd (O.gl.nolimit.keeps Fr0.keep) hcd rfl
    (BindsTo.of_eq (hb _ _ _ _ hxl)) hcell (fun y hy => hloc _ (List.of_mem_zip hy).1) (fun h₁ hns keep₁ => ?_) hco hgen hk
  have hO : Ok T (cxF c.A f r.scope g s.heap.objs.size a code) d := by
    refine ⟨⟨c.A, base, envF f r.scope s.heap.objs.size a code, fenv :: outer, BG, Around.frames_deeper hA, rfl, hk⟩, O.gl.keeps stays, hk, rfl, rfl, O.handled, ?_, ?_⟩
    · show c.A.depth + 1 + d < _; omega
    · show c.A.units + 3 + 4 * d + 100 < _; omega
  have tk : TupKeep s.heap h₁ := tupKeep_of keep₁
  have hLσ : σ s.heap.objs.size = none := F.ob.none_of (get_size _)
  have S : St prog w (cxF c.A f r.scope g s.heap.objs.size a code) (names.zip vs) σ { s with heap := h₁, toks := s.toks + (names.zip xs).length } := by
    refine ⟨⟨⟨_, ⟨hns, fun b o e => keep₁ _ _ (ofG _ _ e), Nat.le_of_eq sizeG⟩⟩, F.ob.grow keep₁, fun b hb => ⟨fun e => ?_, noneG b (F.sep b hb).1 (F.sep b hb).2⟩⟩, fun x v e => ?_, ⟨_, hns⟩, fun x a e => ?_, hLσ, fun x a e => ?_⟩
    · rw [show b = s.heap.objs.size from e] at hb; exact hb hLσ
    · obtain ⟨val, e', rv⟩ := lookup_zip rx e
      refine ⟨val, .inl ⟨?_, _, hns, ?_⟩, rv.keep tk⟩
      · obtain ⟨z, hz, hz'⟩ : ∃ z ∈ names.zip xs, z.1 = x := by
          obtain ⟨l1, l2, h1, h2⟩ := List.lookup_eq_some_iff.mp e'
          exact ⟨(x, val), by rw [h1]; simp, rfl⟩
        subst hz'
        exact hloc _ (List.of_mem_zip hz).1
      · show (names.zip xs).reverse.lookup x = some val
        rw [lookup_rev hnd, e']
    · cases e
    · cases e
  refine wpAny_mono (h c.A g s.heap.objs.size a code hO _ S (fun fl s' => LeaveK c.h₀ c.L m g _ (match fl with | .ret v => v | _ => .none) s') (fun _ _ => False) ?_) (fun fl s' z => lv _ _ z) (fun _ _ z => z.elim)
  intro fl s₂ fa ρ₂ σ₁ st₂ S₂ r₂ ⟨σ₂, hsub, hΦ⟩
  obtain ⟨m₂, F₂⟩ := S₂.fr
  refine ⟨s.heap.objs.size, m₂, full g s.heap.objs.size s₂.heap, F₂, full_news _ _ _, fun Fback Nback => ?_⟩
  have S₃ := S₂.less (ρ' := []) (σ₀ := σ₂) (fun _ _ e => by cases e) hsub
  refine q _ s₂ fa.val σ₂ ⟨?_, fun b o e _ hσ => ?_, fun b hb => ?_⟩ S₃.ob ?_ hΦ
  · obtain ⟨h', t', e⟩ := st₂.same
    exact ⟨h', t', by rw [e]⟩
  · refine st₂.keep b o (keep₁ _ _ e) (fun z => ?_) hσ
    rcases z with z | ⟨x, z⟩
    · rw [show b = s.heap.objs.size from z, get_size] at e; cases e
    · cases z
  · have := st₂.dom b (by
      cases e : σ₂ b with
      | none => exact absurd e hb
      | some o => rw [hsub _ _ e]; simp)
    rcases this with z | ⟨z, z'⟩
    · exact .inl z
    · cases e : s.heap.get? b with
      | none => exact .inr ⟨rfl, fun x => x⟩
      | some o => rw [keep₁ _ _ e] at z; cases z
  · cases r₂ with
    | next => exact .none
    | brk => exact .none
    | cont => exact .none
    | ret r => exact r
end Mine
end
section
open PySem PySem.W PySem.Calls PyProof.Rows PySem.Spec
set_option autoImplicit false
namespace Mine
variable {prog : Program} {w : World} {T : Tbl} {c : Cx} {d : Nat} {ρ : Loc} {σ σ' : AS} {s s' : Shared} {Φ : V → AS → Prop} {Ψ : Fl → Loc → AS → Prop}
noncomputable def SubL (ρ ρ' : Loc) : Prop := ∀ x v, ρ.lookup x = some v → ρ'.lookup x = some v
theorem SubL.nil {ρ : Loc} : SubL [] ρ := fun _ _ e => by cases e
theorem SubL.cons {ρ ρ' : Loc} {x : Str} {v : V} (h : ρ'.lookup x = some v) (r : SubL ρ ρ') : SubL ((x, v) :: ρ) ρ' := fun y u e => by
  rw [List.lookup_cons] at e
  cases hb : y == x with
  | true =>
    rw [hb] at e
    cases e
    have : y = x := by simpa using hb
    rw [this]; exact h
  | false => rw [hb] at e; exact r y u e
theorem SubL.refl {ρ : Loc} : SubL ρ ρ := fun _ _ e => e
theorem Sub.refl {σ : AS} : Sub σ σ := fun _ _ e => e
theorem Sub.trans {a b c : AS} (h : Sub a b) (k : Sub b c) : Sub a c := fun x o e => k x o (h x o e)
theorem Sub.upd {σ σ' : AS} {a o} (h : Sub σ σ') (e : σ a = none) : Sub σ (upd σ' a o) := fun b p q => by
  unfold Mine.upd
  split
  · rename_i z; subst z; rw [e] at q; cases q
  · exact h b p q
theorem Sub.both {σ σ' : AS} {a o} (h : Sub σ σ') : Sub (Mine.upd σ a o) (Mine.upd σ' a o) := fun b p q => by
  unfold Mine.upd at q ⊢
  split at q
  · rename_i z; rw [if_pos z]; exact q
  · rename_i z; rw [if_neg z]; exact h b p q
theorem Step.less {X : Addr → Prop} {σ₁ σ₂ : AS} (a : Step X σ s σ₁ s') (h : Sub σ₂ σ₁) : Step X σ s σ₂ s' := ⟨a.same, a.keep, fun b e => a.dom b fun z => e (by
  cases q : σ₂ b with
  | none => rfl
  | some o => rw [h b o q] at z; cases z)⟩
/-- what a turn leaves: the next turn's state (what is not needed is forgotten), or the loop is left -/
noncomputable def TurnP (J : Loc → AS → Prop) (Ψ : Fl → Loc → AS → Prop) : Fl → Loc → AS → Prop
  | .next, ρ, σ => ∃ ρ₁ σ₁, SubL ρ₁ ρ ∧ Sub σ₁ σ ∧ J ρ₁ σ₁
  | .cont, ρ, σ => ∃ ρ₁ σ₁, SubL ρ₁ ρ ∧ Sub σ₁ σ ∧ J ρ₁ σ₁
  | .brk, ρ, σ => Ψ .next ρ σ
  | .ret v, ρ, σ => Ψ (.ret v) ρ σ
theorem ex_While {test : Expr} {body orelse : List Stmt} {pos : Pos} (I : Nat → Loc → AS → Prop)
    (turn : ∀ n ρ σ, I n ρ σ → EvT prog w c test ρ σ fun b σ₁ => (b = true → ExP prog w c body ρ σ₁ (TurnP (fun ρ σ => ∃ m, m < n ∧ I m ρ σ) Ψ)) ∧ (b = false → ExP prog w c orelse ρ σ₁ Ψ))
    (n : Nat) (h : I n ρ σ) : ExS prog w c (.While test body orelse pos) ρ σ Ψ := fun s S Q E q => by
  refine wpAny_While (codeAny_whileLoop (fun n s' => ∃ ρ' σ', I n ρ' σ' ∧ St prog w c ρ' σ' s' ∧ Step (Own c) σ s σ' s') ?_ n ⟨ρ, σ, h, S, Step.refl⟩)
  rintro n s₀ ⟨ρ₀, σ₀, hI, S₀, st₀⟩
  refine turn n ρ₀ σ₀ hI s₀ S₀ _ _ fun b s₁ σ₁ st₁ ho₁ hb => ?_
  have S₁ := S₀.step st₁ ho₁
  have st₁' := st₀.trans (st₁.some S₀)
  cases b with
  | true =>
    refine hb.1 rfl s₁ S₁ _ _ fun fl s₂ fa ρ₂ σ₂ st₂ S₂ r₂ h₂ => ?_
    cases r₂ with
    | next =>
      obtain ⟨ρ₃, σ₃, hρ, hσ, m, hm, hJ⟩ := h₂
      exact ⟨m, hm, ρ₃, σ₃, hJ, S₂.less hρ hσ, (st₁'.trans st₂).less hσ⟩
    | cont =>
      obtain ⟨ρ₃, σ₃, hρ, hσ, m, hm, hJ⟩ := h₂
      exact ⟨m, hm, ρ₃, σ₃, hJ, S₂.less hρ hσ, (st₁'.trans st₂).less hσ⟩
    | brk => exact q .next s₂ .next ρ₂ σ₂ (st₁'.trans st₂) S₂ .next h₂
    | ret r => exact q _ s₂ (.ret _) ρ₂ σ₂ (st₁'.trans st₂) S₂ (.ret r) h₂
  | false => exact hb.2 rfl s₁ S₁ _ _ fun fl s₂ fa ρ₂ σ₂ st₂ S₂ r₂ h₂ => q fl s₂ fa ρ₂ σ₂ (st₁'.trans st₂) S₂ r₂ h₂
/-- an object of the interpreter's own (an iterator) changes -/
structure Apart (c : Cx) (it : Addr) (h : Heap) : Prop where
  frame : it ≠ c.L
  locals : it ≠ c.env.locals
  cells : ∀ x a, c.env.cells.lookup x = some a → a ≠ it
  base : c.h₀.get? it = none
  notTup : ∀ vs, ¬ h.IsTuple it vs
theorem St.tweak {it : Addr} {h' : Heap} {t : Nat} (S : St prog w c ρ σ s) (A : Apart c it s.heap) (hσ : σ it = none) (hs : Heap.ExtBut it s.heap h') : St prog w c ρ σ { s with heap := h', toks := t } := by
  have tk : TupKeep s.heap h' := fun b vs x => by
    have hne : b ≠ it := fun e => A.notTup vs (e ▸ x)
    obtain ⟨o, g, r⟩ := x
    exact ⟨o, hs b o hne g, r⟩
  obtain ⟨m, F⟩ := S.fr
  refine ⟨⟨⟨m, Fr.of_keep F fun b o e hb => hs b o (fun z => ?_) e⟩, fun a o e => (S.ob a o e).keep tk fun ob g => hs a ob (fun z => ?_) g, S.sep⟩, fun x v e => ?_, ?_, fun x a e => ?_, S.sepN, S.sepC⟩
  · subst z
    rcases hb with hb | hb
    · exact A.frame hb
    · exact hb A.base
  · subst z; rw [hσ] at e; cases e
  · obtain ⟨val, n, r⟩ := S.names x v e
    refine ⟨val, ?_, r.keep tk⟩
    rcases n with ⟨k, m', ⟨o, es, ep, g, r⟩, hm⟩ | ⟨k, a, ha, o, g, hd⟩
    · exact .inl ⟨k, m', ⟨o, es, ep, hs _ o (Ne.symm A.locals) g, r⟩, hm⟩
    · exact .inr ⟨k, a, ha, o, hs _ o (A.cells x a ha) g, hd⟩
  · obtain ⟨m', o, es, ep, g, r⟩ := S.nsx
    exact ⟨m', o, es, ep, hs _ o (Ne.symm A.locals) g, r⟩
  · obtain ⟨v, o, g, r⟩ := S.cellx x a e
    exact ⟨v, o, hs _ o (A.cells x a e) g, r⟩
theorem Step.tweak {X : Addr → Prop} {it : Addr} {h' : Heap} {t : Nat} (st : Step X σ s σ' s') (hn : s.heap.get? it = none) (hs : Heap.ExtBut it s'.heap h') : Step X σ s σ' { s' with heap := h', toks := t } := by
  refine ⟨?_, fun b o e hx hσ => hs b o (fun z => by rw [z, hn] at e; cases e) (st.keep b o e hx hσ), st.dom⟩
  obtain ⟨h₁, t₁, rfl⟩ := st.same
  exact ⟨h', t, rfl⟩
theorem Apart.own {it : Addr} {h : Heap} (A : Apart c it h) : ¬ Own c it := fun z => by
  rcases z with z | ⟨x, z⟩
  · exact A.locals z
  · exact A.cells x _ z rfl
/-- a new object of the interpreter's own -/
theorem apart_new {ob : Obj} (S : St prog w c ρ σ s) (ht : ob.cls ≠ .type "tuple") (hf : ob.isFreed = false := by rfl) : Apart c s.heap.objs.size (s.heap.push ob) := by
  obtain ⟨m, F⟩ := S.fr
  refine ⟨fun e => ?_, fun e => ?_, fun x a ha e => ?_, ?_, fun vs x => ?_⟩
  · obtain ⟨oL, es, ep, g, _⟩ := F.ns
    rw [← e, get_size] at g; cases g
  · obtain ⟨m', oL, es, ep, g, _⟩ := S.nsx
    rw [← e, get_size] at g; cases g
  · obtain ⟨v, o, g, _⟩ := S.cellx x a ha
    rw [e, get_size] at g; cases g
  · cases q : c.h₀.get? s.heap.objs.size with
    | none => rfl
    | some o => have := F.keep _ _ q; rw [get_size] at this; cases this
  · obtain ⟨o, g, hc, _⟩ := x
    rw [Heap.get?_push_size _ hf] at g
    cases g
    exact ht hc
theorem Apart.keep {it : Addr} {h h' : Heap} {ob : Obj} (A : Apart c it h) (g : h'.get? it = some ob) (hc : ob.cls ≠ .type "tuple") : Apart c it h' :=
  ⟨A.frame, A.locals, A.cells, A.base, fun vs x => by obtain ⟨o, g', hc', _⟩ := x; cases g.symm.trans g'; exact hc hc'⟩
end Mine
end
section
open PySem PySem.W PySem.Calls PyProof.Rows PySem.Spec
set_option autoImplicit false
namespace Mine
variable {prog : Program} {w : World} {T : Tbl} {c : Cx} {d : Nat} {ρ : Loc} {σ σ' : AS} {s s' : Shared} {Φ : V → AS → Prop} {Ψ : Fl → Loc → AS → Prop}
theorem EvP.mono {e : Expr} {Φ' : V → AS → Prop} (h : EvP prog w c e ρ σ Φ) (k : ∀ v σ, Φ v σ → Φ' v σ) : EvP prog w c e ρ σ Φ' := fun s S Q E q =>
  h s S Q E fun x s' v σ' st ho r hv => q x s' v σ' st ho r (k v σ' hv)
theorem evL_one {e : Expr} (hn : noStar [e] = true) (h : EvP prog w c e ρ σ Φ) : EvL prog w c [e] ρ σ fun vs σ₁ => ∃ v, vs = [v] ∧ Φ v σ₁ :=
  evL_cons (by cases e <;> first | rfl | cases hn) (h.mono fun v σ hv => evL_nil ⟨v, rfl, hv⟩)
theorem rangeSize_up (N : Nat) : Builtin.Range.rangeSize 0 N 1 = N := by
  unfold Builtin.Range.rangeSize
  by_cases h : (0 : Int) < N
  · rw [if_pos (by decide), if_pos h]; omega
  · rw [if_pos (by decide), if_neg h]; omega
theorem ex_ForRange {x : Str} {px np rp pos : Pos} {e : Expr} {body : List Stmt} (O : Ok T c d) (hL : c.env.locals = c.L) (hx : c.env.kindOf x = some .local)
    (ht : T.lookup ("range" : Str) = some (.blt (.type "range"))) (hr : c.env.kindOf ("range" : Str) = some .globalImplicit) (I : Nat → Loc → AS → Prop)
    (h : EvP prog w c e ρ σ fun v σ₁ => ∃ N : Nat, v = .int N ∧ N < 1000000 ∧ I 0 ρ σ₁ ∧
      (∀ i ρ σ, i < N → I i ρ σ → ExP prog w c body ((x, .int i) :: ρ) σ (TurnP (I (i + 1)) Ψ)) ∧ (∀ ρ σ, I N ρ σ → Ψ .next ρ σ))
    (hn : noStar [e] = true := by rfl)
    (hf : ∀ x, foldedSetIterable (.Call (.Name ("range" : Str) np) [e] [] rp) c.env x = pure x := by intro _; rfl) :
    ExS prog w c (.For (.Name x px) (.Call (.Name ("range" : Str) np) [e] [] rp) body [] pos) ρ σ Ψ := fun s S Q E q => by
  obtain ⟨mg, mb, g1, g2, hm, hb⟩ := glob_at O S.toFS ht
  refine wpAny_For (wpAny_Call_NameR (Name_function_global O.kind hr (loadGlobal_builtin (O.glob ▸ g1) hm (O.blts ▸ g2) hb ?_) (by decide))) hf
  refine callWith_run hn (keep_type "range") (evL_one hn h s S rp _ _ fun xs s₁ vs σ₁ st₁ ho₁ r₁ h₁ => ⟨trivial, ?_⟩)
  obtain ⟨v, rfl, N, rfl, hN, hI, turn, fin⟩ := h₁
  cases r₁ with
  | cons r rs =>
  cases rs
  cases r with
  | int _ t =>
  have S₁ := S.step st₁ ho₁
  refine call_range_1 ?_
  generalize hs₂ : ({ s₁ with heap := s₁.heap.push { cls := .type "range", data := .fields #[.int 0 s₁.toks, .int N t, .int 1 (s₁.toks + 1)] }, toks := s₁.toks + 1 + 1 } : Shared) = s₂
  have hr₂ : IsRange s₂.heap s₁.heap.objs.size 0 N 1 s₁.toks t (s₁.toks + 1) := by subst hs₂; exact Heap.get?_push_size _ rfl
  have st₂ : Step NoX σ₁ s₁ σ₁ s₂ := by subst hs₂; exact ⟨⟨_, _, rfl⟩, fun b o e _ _ => push_keeps _ _ _ _ e, fun b e => .inl e⟩
  have ho₂ : Ob prog w σ₁ s₂.heap := by subst hs₂; exact ho₁.grow (push_keeps _ _)
  have S₂ := S₁.step st₂ ho₂
  have stA := st₁.trans st₂
  clear hs₂
  refine wpAny_pyIter_range hr₂ (by rw [Builtin.Range.small, rangeSize_up]; simp [Builtin.Range.rangeFitsLong]; omega) ?_
  rw [rangeSize_up]
  have A₃ := apart_new (ob := { cls := .type "range_iterator", data := .fields #[rawInt 0, rawInt N, rawInt 1] }) S₂ (by simp)
  have hit₃ : IsRangeIter (s₂.heap.push { cls := .type "range_iterator", data := .fields #[rawInt 0, rawInt N, rawInt 1] }) s₂.heap.objs.size 0 N 1 := Heap.get?_push_size _ rfl
  have hσit : σ₁ s₂.heap.objs.size = none := ho₂.none_of (get_size _)
  have q₂ := q.chain (stA.some S)
  have hloc : Step (Own c) σ₁ s₂ σ₁ { s₂ with heap := s₂.heap.push { cls := .type "range_iterator", data := .fields #[rawInt 0, rawInt N, rawInt 1] } } := Step.push
  refine codeAny_forLoop (fun n s' => ∃ i ρ' σ', n = N - i ∧ i ≤ N ∧ I i ρ' σ' ∧ St prog w c ρ' σ' s' ∧ Step (Own c) σ₁ s₂ σ' s' ∧ IsRangeIter s'.heap s₂.heap.objs.size i (N - i) 1 ∧ σ' s₂.heap.objs.size = none) ?_ N
    ⟨0, ρ, σ₁, by omega, by omega, hI, S₂.step Step.push (ho₂.grow (push_keeps _ _)), hloc, by simpa using hit₃, hσit⟩
  rintro n s₀ ⟨i, ρ₀, σ₀, rfl, hi, hI₀, S₀, st₀, hit, hσ₀⟩
  have A₀ := A₃.keep hit (by simp)
  by_cases hlt : i < N
  · refine wpAny_pyNext_range_item hit (by omega) fun h' hit' hs' => ?_
    have S₁' := S₀.tweak (t := s₀.toks + 1) A₀ hσ₀ hs'.extBut
    have st₁' := st₀.tweak (t := s₀.toks + 1) (get_size _) hs'.extBut
    refine wpAny_assign_Name (store_run S₁' hL O.kind hx (.int i s₀.toks) fun h'' st'' S'' => ?_)
    have hit'' : h''.get? s₂.heap.objs.size = some _ := st''.keep _ _ hit' (by exact A₃.own) hσ₀
    refine turn i ρ₀ σ₀ hlt hI₀ _ S'' _ _ fun fl s₄ fa ρ₄ σ₄ st₄ S₄ r₄ h₄ => ?_
    have stB := (st₁'.trans st'').trans st₄
    have hit₄ := st₄.keep _ _ hit'' (by exact A₃.own) hσ₀
    have hσ₄ : σ₄ s₂.heap.objs.size = none := by
      cases z : σ₄ s₂.heap.objs.size with
      | none => rfl
      | some o =>
        rcases st₄.dom _ (by rw [z]; simp) with z' | z'
        · exact absurd hσ₀ z'
        · rw [show Heap.get? _ _ = some _ from hit''] at z'; simp at z'
    have again : TurnP (I (i + 1)) Ψ .next ρ₄ σ₄ → ∃ m, m < N - i ∧ ∃ i' ρ' σ', m = N - i' ∧ i' ≤ N ∧ I i' ρ' σ' ∧ St prog w c ρ' σ' s₄ ∧ Step (Own c) σ₁ s₂ σ' s₄ ∧ IsRangeIter s₄.heap s₂.heap.objs.size i' (N - i') 1 ∧ σ' s₂.heap.objs.size = none := by
      rintro ⟨ρ₅, σ₅, hρ, hσ, hJ⟩
      refine ⟨N - (i + 1), by omega, i + 1, ρ₅, σ₅, rfl, hlt, hJ, S₄.less hρ hσ, stB.less hσ, ?_, ?_⟩
      · have e1 : ((i + 1 : Nat) : Int) = (i : Int) + 1 := by omega
        have e2 : (N : Int) - ((i : Int) + 1) = (N : Int) - i - 1 := by omega
        rw [e1, e2]; exact hit₄
      · cases z : σ₅ s₂.heap.objs.size with
        | none => rfl
        | some o => rw [hσ _ _ z] at hσ₄; cases hσ₄
    cases r₄ with
    | next => exact again h₄
    | cont => exact again h₄
    | brk => exact q₂ .next s₄ .next ρ₄ σ₄ stB S₄ .next h₄
    | ret r => exact q₂ _ s₄ (.ret _) ρ₄ σ₄ stB S₄ (.ret r) h₄
  · refine wpAny_pyNext_range_end O.handled hit (by omega) fun h' hs' => ?_
    have : i = N := by omega
    subst this
    exact wpAny_execs_nil (q₂ .next _ .next ρ₀ σ₀ (st₀.tweak (get_size _) hs') (S₀.tweak A₀ hσ₀ hs') .next (fin ρ₀ σ₀ hI₀))
end Mine
end
section
open PySem PySem.W PySem.Calls PyProof.Rows PySem.Spec
set_option autoImplicit false
namespace Mine
variable {prog : Program} {w : World} {T : Tbl} {c : Cx} {d : Nat} {ρ : Loc} {σ σ' : AS} {s s' : Shared} {Φ : V → AS → Prop} {Ψ : Fl → Loc → AS → Prop}
theorem step_grow {X : Addr → Prop} {h' : Heap} {t : Nat} (k : ∀ b o, s.heap.get? b = some o → h'.get? b = some o) : Step X σ s σ { s with heap := h', toks := t } :=
  ⟨⟨h', t, rfl⟩, fun b o e _ _ => k b o e, fun b e => .inl e⟩
theorem ext_grow {h h' : Heap} (hs : Heap.ExtBut h.objs.size h h') : ∀ b o, h.get? b = some o → h'.get? b = some o := fun b o e => hs b o (Nat.ne_of_lt (Heap.lt_size e)) e
/-- two names out of a pair -/
theorem asg_two {x y : Str} {px py tp : Pos} {k : Nat} {val : Value} {v u : V} (O : Ok T c d) (hL : c.env.locals = c.L) (hx : c.env.kindOf x = some .local) (hy : c.env.kindOf y = some .local)
    (S : St prog w c ρ σ s) (r : Rep s.heap val (.tup [v, u])) {Q : Unit → Shared → Prop} {E}
    (K : ∀ h' t, Step (Own c) σ s σ { s with heap := h', toks := t } → St prog w c ((y, u) :: (x, v) :: ρ) σ { s with heap := h', toks := t } → Q () { s with heap := h', toks := t }) :
    wpAny (model prog w) c.A (assign (.Tuple [.Name x px, .Name y py] k tp) c.env val) Q E s := by
  cases r with
  | tup ht hr =>
  rename_i a vs
  obtain ⟨v1, v2, hv⟩ : ∃ v1 v2, vs = #[v1, v2] := by
    cases vs with
    | mk l =>
      cases hr with
      | cons _ hr => cases hr with
        | cons _ hr => cases hr with
          | nil => exact ⟨_, _, rfl⟩
  subst hv
  cases hr with
  | cons r1 hr =>
  cases hr with
  | cons r2 hr =>
  refine wpAny_assign_Tuple O.handled ht rfl rfl fun h₁ he => ?_
  have kg := ext_grow he
  have st₁ : Step NoX σ s σ { s with heap := h₁ } := step_grow (t := s.toks) kg
  have S₁ := S.step st₁ (S.ob.grow kg)
  have tk := tupKeep_of kg
  show wpAny _ _ (do holding [v2] (assign (.Name x px) c.env v1); (do holding [] (assign (.Name y py) c.env v2); pure ())) Q E _
  refine wpAny_bind (wpAny_holding (wpAny_assign_Name (store_run S₁ hL O.kind hx (r1.keep tk) fun h₂ st₂ S₂ => ?_)))
  have r2' : Rep h₂ v2 u := (r2.keep tk).keep fun b vs t => by
    obtain ⟨o, g, rr⟩ := t
    refine ⟨o, st₂.keep b o g (fun z => ?_) ?_, rr⟩
    · exact own_notTup S₁ z _ ⟨o, g, rr⟩
    · cases z : σ b with
      | none => rfl
      | some o' => exact absurd ⟨o, g, rr⟩ fun t => (S₁.ob b o' z).notTuple t
  refine wpAny_bind (wpAny_holding (wpAny_assign_Name (store_run S₂ hL O.kind hy r2' fun h₃ st₃ S₃ => wpAny_pure ?_)))
  exact K h₃ _ (((st₁.some S).trans st₂).trans st₃) S₃
theorem ex_ForPairs {x y : Str} {px py tp pos : Pos} {k : Nat} {e : Expr} {body : List Stmt} (O : Ok T c d) (hL : c.env.locals = c.L) (hx : c.env.kindOf x = some .local) (hy : c.env.kindOf y = some .local)
    (h : EvP prog w c e ρ σ fun v σ₁ => ∃ (I : Nat → Loc → AS → Prop) (a : Addr) (l : List V), v = .obj a ∧ I 0 ρ σ₁ ∧ (∀ i ρ σ, I i ρ σ → σ a = some (.list l)) ∧
      (∀ i ρ σ z, l[i]? = some z → I i ρ σ → ∃ u v, z = .tup [u, v] ∧ ExP prog w c body ((y, v) :: (x, u) :: ρ) σ (TurnP (I (i + 1)) Ψ)) ∧ (∀ ρ σ, I l.length ρ σ → Ψ .next ρ σ))
    (hf : ∀ x, foldedSetIterable e c.env x = pure x := by intro _; rfl) :
    ExS prog w c (.For (.Tuple [.Name x px, .Name y py] k tp) e body [] pos) ρ σ Ψ := fun s S Q E q => by
  refine wpAny_For (h s S _ _ fun val s₂ v σ₁ st₂ ho₂ r h₁ => ?_) hf
  obtain ⟨I, a, l, rfl, hI, hl, turn, fin⟩ := h₁
  cases r
  have S₂ := S.step st₂ ho₂
  obtain ⟨vs, n, hL₂, hr₂⟩ := ho₂ _ _ (hl 0 ρ σ₁ hI)
  refine wpAny_pyIter_list hL₂.isList ?_
  have q₂ := q.chain (st₂.some S)
  have A₃ := apart_new (ob := { cls := .type "list_iterator", data := .fields #[.ref a, .int 0 0] }) S₂ (by simp)
  have hit₃ : (s₂.heap.push { cls := .type "list_iterator", data := .fields #[.ref a, .int 0 0] }).IsListIter s₂.heap.objs.size a 0 := ⟨_, Heap.get?_push_size _ rfl, rfl, rfl⟩
  have hσit : σ₁ s₂.heap.objs.size = none := ho₂.none_of (get_size _)
  have hloc : Step (Own c) σ₁ s₂ σ₁ { s₂ with heap := s₂.heap.push { cls := .type "list_iterator", data := .fields #[.ref a, .int 0 0] } } := Step.push
  refine codeAny_forLoop_any (fun n s' => ∃ i ρ' σ', n = l.length - i ∧ i ≤ l.length ∧ I i ρ' σ' ∧ St prog w c ρ' σ' s' ∧ Step (Own c) σ₁ s₂ σ' s' ∧ s'.heap.IsListIter s₂.heap.objs.size a i ∧ σ' s₂.heap.objs.size = none) ?_ l.length
    ⟨0, ρ, σ₁, by omega, by omega, hI, S₂.step Step.push (ho₂.grow (push_keeps _ _)), hloc, hit₃, hσit⟩
  rintro n s₀ ⟨i, ρ₀, σ₀, rfl, hi, hI₀, S₀, st₀, hit, hσ₀⟩
  have A₀ : Apart c s₂.heap.objs.size s₀.heap := by
    obtain ⟨o, g, hc, _⟩ := hit
    exact A₃.keep g (by rw [hc]; simp)
  obtain ⟨vs₀, n₀, hL₀, hr₀⟩ := S₀.ob _ _ (hl i ρ₀ σ₀ hI₀)
  cases hz : l[i]? with
  | some z =>
    have hlt : i < l.length := (List.getElem?_eq_some_iff.mp hz).1
    obtain ⟨vz, hvz, rz⟩ := hr₀.get hz
    obtain ⟨u, v, rfl, run⟩ := turn i ρ₀ σ₀ z hz hI₀
    refine wpAny_pyNext_list_item hit hL₀.isList (by simpa using hvz) fun h' hit' hs' => ?_
    have S₁' := S₀.tweak (t := s₀.toks) A₀ hσ₀ hs'.extBut
    have st₁' := st₀.tweak (t := s₀.toks) (get_size _) hs'.extBut
    have rz' : Rep h' vz (.tup [u, v]) := rz.keep fun b vs t => by
      have hne : b ≠ s₂.heap.objs.size := fun e => A₀.notTup vs (e ▸ t)
      obtain ⟨o, g, r'⟩ := t
      exact ⟨o, hs'.extBut b o hne g, r'⟩
    obtain ⟨az, rfl⟩ : ∃ az, vz = .ref az := by cases rz; exact ⟨_, rfl⟩
    refine wpAny_letOwnedTupleGo_listiter hit' ?_
    refine asg_two O hL hx hy S₁' rz' fun h'' t'' st'' S'' => ?_
    have hit'' : h''.IsListIter s₂.heap.objs.size a (i + 1) := by
      obtain ⟨o, g, r'⟩ := hit'
      exact ⟨o, st''.keep _ _ g (by exact A₃.own) hσ₀, r'⟩
    refine run _ S'' _ _ fun fl s₄ fa ρ₄ σ₄ st₄ S₄ r₄ h₄ => ?_
    have stB := (st₁'.trans st'').trans st₄
    have hit₄ : s₄.heap.IsListIter s₂.heap.objs.size a (i + 1) := by
      obtain ⟨o, g, r'⟩ := hit''
      exact ⟨o, st₄.keep _ _ g (by exact A₃.own) hσ₀, r'⟩
    have hσ₄ : σ₄ s₂.heap.objs.size = none := by
      cases z : σ₄ s₂.heap.objs.size with
      | none => rfl
      | some o =>
        rcases st₄.dom _ (by rw [z]; simp) with z' | z'
        · exact absurd hσ₀ z'
        · obtain ⟨o, g, r'⟩ := hit''
          rw [show Heap.get? _ _ = some _ from g] at z'; simp at z'
    have again : TurnP (I (i + 1)) Ψ .next ρ₄ σ₄ → ∃ m, m < l.length - i ∧ ∃ i' ρ' σ', m = l.length - i' ∧ i' ≤ l.length ∧ I i' ρ' σ' ∧ St prog w c ρ' σ' s₄ ∧ Step (Own c) σ₁ s₂ σ' s₄ ∧ s₄.heap.IsListIter s₂.heap.objs.size a i' ∧ σ' s₂.heap.objs.size = none := by
      rintro ⟨ρ₅, σ₅, hρ, hσ, hJ⟩
      refine ⟨l.length - (i + 1), by omega, i + 1, ρ₅, σ₅, rfl, hlt, hJ, S₄.less hρ hσ, stB.less hσ, hit₄, ?_⟩
      cases z : σ₅ s₂.heap.objs.size with
      | none => rfl
      | some o => rw [hσ _ _ z] at hσ₄; cases hσ₄
    cases r₄ with
    | next => exact again h₄
    | cont => exact again h₄
    | brk => exact q₂ .next s₄ .next ρ₄ σ₄ stB S₄ .next h₄
    | ret r => exact q₂ _ s₄ (.ret _) ρ₄ σ₄ stB S₄ (.ret r) h₄
  | none =>
    have hge : l.length ≤ i := List.getElem?_eq_none_iff.mp hz
    have hlen : vs₀.size = l.length := by simpa using hr₀.length
    refine wpAny_pyNext_list_end O.handled hit hL₀.isList (by simp; omega) fun h' hs' => ?_
    have : i = l.length := by omega
    subst this
    exact wpAny_execs_nil (q₂ .next _ .next ρ₀ σ₀ (st₀.tweak (get_size _) hs') (S₀.tweak A₀ hσ₀ hs') .next (fin ρ₀ σ₀ hI₀))
end Mine
end
section
open PySem PySem.W PySem.Calls PyProof.Rows PySem.Spec
set_option autoImplicit false
namespace Mine
variable {prog : Program} {w : World} {T : Tbl} {c : Cx} {d : Nat} {ρ : Loc} {σ σ' : AS} {s s' : Shared} {Φ : V → AS → Prop} {Ψ : Fl → Loc → AS → Prop}
theorem Rep.locals (S : St prog w c ρ σ s) {σ₁ : AS} {s₁ : Shared} (st : Step (Own c) σ s σ₁ s₁) {x : Value} {v : V} (r : Rep s.heap x v) : Rep s₁.heap x v :=
  r.keep fun b vs t => by
    obtain ⟨o, g, rr⟩ := t
    refine ⟨o, st.keep b o g (fun z => ?_) ?_, rr⟩
    · exact own_notTup S z _ ⟨o, g, rr⟩
    · cases z : σ b with
      | none => rfl
      | some o' => exact absurd ⟨o, g, rr⟩ fun t => (S.ob b o' z).notTuple t
noncomputable abbrev KAsg2 (x y : Str) (ρ : Loc) (Ψ : Fl → Loc → AS → Prop) : V → AS → Prop := fun v σ => ∃ a b, v = .tup [a, b] ∧ Ψ .next ((x, a) :: (y, b) :: ρ) σ
theorem ex_Assign2 {x y : Str} {px py tp pos : Pos} {k : Nat} {value : Expr} (O : Ok T c d) (hL : c.env.locals = c.L) (hx : c.env.kindOf x = some .local) (hy : c.env.kindOf y = some .local)
    (hw : swappedStores [.Tuple [.Name x px, .Name y py] k tp] value c.env = pure (some [x, y]))
    (hs : uncomp value = true) (h : EvP prog w c value ρ σ (KAsg2 x y ρ Ψ)) :
    ExS prog w c (.Assign [.Tuple [.Name x px, .Name y py] k tp] value pos) ρ σ Ψ := fun s S Q E q => by
  refine Assign_Tuple_swapped (names := [x, y]) (h s S _ _ fun val s₁ v σ₁ st₁ ho₁ r h₁ => ?_) (by unfold swapsWithSole; exact swaps_none hs) hw
  obtain ⟨a, b, rfl, hΨ⟩ := h₁
  cases r with
  | tup ht hr =>
  rename_i ad vs
  obtain ⟨v1, v2, hv⟩ : ∃ v1 v2, vs = #[v1, v2] := by
    cases vs with
    | mk l =>
      cases hr with
      | cons _ hr => cases hr with
        | cons _ hr => cases hr with
          | nil => exact ⟨_, _, rfl⟩
  subst hv
  cases hr with
  | cons r1 hr =>
  cases hr with
  | cons r2 hr =>
  have S₁ := S.step st₁ ho₁
  rw [show ([x, y] : List Str).length = (#[v1, v2] : Array Value).size from rfl]
  refine wpAny_unpackItems_tuple O.handled ht (fun h₁ he => ?_)
  have kg := ext_grow he
  have st₂ : Step NoX σ₁ s₁ σ₁ { s₁ with heap := h₁ } := step_grow (t := s₁.toks) kg
  have S₂ := S₁.step st₂ (ho₁.grow kg)
  have tk := tupKeep_of kg
  show wpAny _ _ (do holding [v1] (bindName c.env y v2); (do holding [] (bindName c.env x v1); pure ())) _ E _
  refine wpAny_bind (wpAny_holding (wpAny_bindName (store_run S₂ hL O.kind hy (r2.keep tk) fun h₃ st₃ S₃ => ?_)))
  refine wpAny_bind (wpAny_holding (wpAny_bindName (store_run S₃ hL O.kind hx ((r1.keep tk).locals S₂ st₃) fun h₄ st₄ S₄ => wpAny_pure ?_)))
  exact q .next _ .next _ σ₁ ((((st₁.trans st₂).some S).trans st₃).trans st₄) S₄ .next hΨ
/-! stores into objects -/
theorem set_dict {a : Addr} {kvs : List (Str × V)} {k : Str} {x : V} {Ξ : AS → Prop} (hσ : σ a = some (.dict kvs)) (hk : (kvs.lookup k).isSome = true) (hz : kvs.length ≤ sizeLine)
    (h : Ξ (upd σ a (.dict (kvs.map fun p => if p.1 = k then (p.1, x) else p)))) : Op3 prog w c (.obj a) (.str k) x σ Ξ := fun s F A B y r1 r2 r3 Q E q => by
  cases r1
  cases r2 with
  | str _ t =>
  obtain ⟨ps, hd, hr⟩ := F.ob a _ hσ
  have hlen : ps.length = kvs.length := by
    clear hd hσ h hk hz
    induction hr with
    | nil => rfl
    | cons _ _ ih => simp [ih]
  refine wpAny_setItem_pairs (strKind_is prog w k t) hd (fun h' hd' hs' => ?_) (by omega)
  have tk := tupKeep_same (F.ob a _ hσ) hs'
  refine q _ _ (Step.set (o' := .dict (kvs.map fun p => if p.1 = k then (p.1, x) else p)) hs' hσ) (F.ob.set hs' (F.ob a _ hσ) ⟨_, hd', ?_⟩) h
  have hany : (ps.any fun kv => kv.1 = k) = true := by
    obtain ⟨v, hv⟩ := Option.isSome_iff_exists.mp hk
    obtain ⟨v', hv', _⟩ := hr.get hv
    unfold valueAt at hv'
    obtain ⟨z, hz, hz'⟩ := Option.map_eq_some_iff.mp hv'
    have h1 := List.find?_some hz
    have h2 := List.mem_of_find?_eq_some hz
    exact List.any_eq_true.mpr ⟨z, h2, h1⟩
  unfold stored
  rw [if_pos hany]
  clear hd hσ h hk hz hd' hlen hany
  induction hr with
  | nil => exact .nil
  | @cons k' v vs x' xs rv _ ih =>
    rw [List.map_cons, List.map_cons]
    by_cases e : k' = k
    · rw [if_pos e, if_pos e]
      exact .cons (r3.keep tk) ih
    · rw [if_neg e, if_neg e]
      exact .cons (rv.keep tk) ih
theorem Reps.set {h : Heap} : ∀ {vs l} {i : Nat} {v x}, Reps h vs l → Rep h v x → Reps h (vs.set i v) (l.set i x)
  | _, _, _, _, _, .nil, _ => .nil
  | _, _, 0, _, _, .cons r rs, rv => .cons rv rs
  | _, _, i + 1, _, _, .cons r rs, rv => .cons r (rs.set rv)
theorem set_list {a : Addr} {l : List V} {i : Int} {x : V} {Ξ : AS → Prop} (hσ : σ a = some (.list l)) (h0 : 0 ≤ i) (h1 : i < l.length) (h2 : i < 2 ^ 63)
    (h : Ξ (upd σ a (.list (l.set i.toNat x)))) : Op3 prog w c (.obj a) (.int i) x σ Ξ := fun s F A B y r1 r2 r3 Q E q => by
  cases r1
  cases r2 with
  | int _ t =>
  obtain ⟨vs, n, hl, hr⟩ := F.ob a _ hσ
  have hlen : vs.size = l.length := by simpa using hr.length
  have hs' : Heap.SameBut a s.heap (s.heap.update a (Obj.mapSeq fun xs => xs.setIfInBounds i.toNat y)) := Heap.SameBut.update ..
  have tk := tupKeep_same (F.ob a _ hσ) hs'
  have hu := hl.update fun xs => xs.setIfInBounds i.toNat y
  have hT : s.TypeIs (.ref a) "list" := ⟨_, hl, rfl⟩
  have fin : Q () { s with heap := s.heap.update a (Obj.mapSeq fun xs => xs.setIfInBounds i.toNat y) } := by
    refine q _ _ (Step.set (t := s.toks) (o' := .list (l.set i.toNat x)) hs' hσ) (F.ob.set hs' (F.ob a _ hσ) ⟨_, _, hu, ?_⟩) h
    have := (hr.keep tk).set (i := i.toNat) (r3.keep tk)
    simpa using this
  obtain ⟨v0, hj⟩ : ∃ v0, vs[i.toNat]? = some v0 := ⟨_, Array.getElem?_eq_getElem (show i.toNat < vs.size by omega)⟩
  clear hu hs' tk h
  unfold setItem
  try with_reducible refine wpAny_holding ?_
  first | refine wpAny_bind (wpAny_pure ?_) | skip
  refine wpAny_bind (wpAny_sequenceKey hT (by decide) ?_)
  refine wpAny_bind (wpAny_callSpecial?_slot (name := Str.ofString "__setitem__") hT slot_list_setitem
    (wpAny_call_entry slot_list_setitem hT entry_list_setitem ?_ (args_list_setitem _ _ _)))
  show wpAny _ _ (Builtin.List.listSubscript? (.int i t) >>= _) _ _ s
  refine wpAny_bind (wpAny_listSubscript_int (fitsIndex_of h0 h2) ?_)
  clear h2
  obtain ⟨j, rfl⟩ := Int.eq_ofNat_of_zero_le h0
  show wpAny _ _ ((seqItemAt a j >>= fun r => pure (r.map (j, ·))) >>= _) _ _ s
  refine wpAny_bind (wpAny_bind (wpAny_seqItemAt (o := { cls := .type "list", dict := none, data := .seq vs n, slots := #[] }) hl rfl (wpAny_pure ?_)))
  rw [Int.toNat_natCast] at hj fin
  rw [hj]
  show wpAny _ _ (setSeqItemAt a j y >>= _) _ _ s
  refine wpAny_bind (wpAny_setSeqItemAt (o := { cls := .type "list", dict := none, data := .seq vs n, slots := #[] }) hl rfl ?_)
  first
    | exact wpAny_bind (wpAny_pure (wpAny_pure ⟨.none, rfl, wpAny_pure fin⟩))
    | exact wpAny_pure ⟨.none, rfl, wpAny_pure fin⟩
end Mine
end
section
open PySem PySem.W PySem.Calls PyProof.Rows PySem.Spec
set_option autoImplicit false
namespace Mine
variable {prog : Program} {w : World} {T : Tbl} {c : Cx} {d : Nat} {ρ : Loc} {σ σ' : AS} {s s' : Shared} {Φ : V → AS → Prop} {Ψ : Fl → Loc → AS → Prop}
noncomputable def TyOf (prog : Program) (w : World) (c : Cx) (v : V) (σ : AS) (Ty : String) : Prop :=
  ∀ s, FS prog w c σ s → ∀ x, Rep s.heap x v → s.TypeIs x Ty ∧ ∀ a, x = .ref a → ∃ ob, s.heap.get? a = some ob ∧ ob.dict = none
theorem ty_list {a : Addr} {l : List V} (h : σ a = some (.list l)) : TyOf prog w c (.obj a) σ "list" := fun s F x r => by
  cases r
  obtain ⟨vs, n, hl, _⟩ := F.ob a _ h
  exact ⟨⟨_, hl, rfl⟩, fun b e => by cases e; exact ⟨_, hl, rfl⟩⟩
theorem ty_dict {a : Addr} {l : List (Str × V)} (h : σ a = some (.dict l)) : TyOf prog w c (.obj a) σ "dict" := fun s F x r => by
  cases r
  obtain ⟨ps, hd, _⟩ := F.ob a _ h
  exact ⟨hd.mapOf.typeIs, hd.mapOf.noDict⟩
theorem ty_str {x : Str} : TyOf prog w c (.str x) σ "str" := fun s F y r => by
  cases r
  exact ⟨typeIs_str _ _ _, fun b e => by cases e⟩
noncomputable abbrev KMeth (prog : Program) (w : World) (c : Cx) (Ty : String) (es : List Expr) (ρ : Loc) (Λ : List V → AS → Prop) : V → AS → Prop := fun v σ => TyOf prog w c v σ Ty ∧ EvL prog w c es ρ σ (KLc v Λ)
noncomputable abbrev KMeth0 (prog : Program) (w : World) (c : Cx) (Ty : String) (Λ : List V → AS → Prop) : V → AS → Prop := fun v σ => TyOf prog w c v σ Ty ∧ Λ [v] σ
theorem ev_Method {o e : Expr} {es : List Expr} {name : Str} {Ty id : String} {apos pos : Pos} (pa : PlainAttrs Ty) (slot : Slot Ty name id) (hty : typeOf (.builtin id) = pure (.type "method_descriptor"))
    (hbase : attributeBase o name c.env (eval o c.env) = eval o c.env) (hline : (apos.endLine == pos.line) = true)
    (hn : noStar (e :: es) = true) (hlen : (e :: es).length < 30)
    (h : EvP prog w c o ρ σ (KMeth prog w c Ty (e :: es) ρ (KCallB prog w c (.builtin id) Φ))) : EvP prog w c (.Call (.Attribute o name apos) (e :: es) [] pos) ρ σ Φ := fun s S Q E q => by
  refine wpAny_Call_method_lateS hbase ?_ hline (h s S _ _ fun x s₁ v σ₁ st₁ ho₁ r₁ h₁ => ?_)
  · have := plain_any (env := c.env) (pos := pos) hn
    rw [Bool.and_eq_true, Bool.and_eq_true]
    refine ⟨⟨?_, rfl⟩, by simpa using hlen⟩
    rw [List.all_eq_true]
    intro x hx
    have := List.any_eq_false.mp this x hx
    simpa using this
  · have S₁ := S.step st₁ ho₁
    obtain ⟨hT, hd⟩ := h₁.1 s₁ S₁.toFS x r₁
    refine ⟨Ty, id, pa, slot, hty, hT, hd, ?_⟩
    refine callWith_run hn (keep_builtin id) (h₁.2 s₁ S₁ pos _ _ fun xs s₂ vs σ₂ st₂ ho₂ r₂ h₂ => ⟨trivial, ?_⟩)
    exact h₂ s₂ (S₁.step st₂ ho₂).toFS (x :: xs) (.cons (r₁.keep (st₂.tup ho₁)) r₂) _ _ (q.chain (st₁.trans st₂))
theorem ev_Method0 {o : Expr} {name : Str} {Ty id : String} {apos pos : Pos} (pa : PlainAttrs Ty) (slot : Slot Ty name id) (hty : typeOf (.builtin id) = pure (.type "method_descriptor"))
    (hbase : attributeBase o name c.env (eval o c.env) = eval o c.env) (hline : (apos.endLine == pos.line) = true)
    (h : EvP prog w c o ρ σ (KMeth0 prog w c Ty (KCallB prog w c (.builtin id) Φ))) : EvP prog w c (.Call (.Attribute o name apos) [] [] pos) ρ σ Φ := fun s S Q E q => by
  refine wpAny_Call_method_lateS hbase rfl hline (h s S _ _ fun x s₁ v σ₁ st₁ ho₁ r₁ h₁ => ?_)
  have S₁ := S.step st₁ ho₁
  obtain ⟨hT, hd⟩ := h₁.1 s₁ S₁.toFS x r₁
  refine ⟨Ty, id, pa, slot, hty, hT, hd, ?_⟩
  exact callWith_run0 (keep_builtin id) trivial (h₁.2 s₁ S₁.toFS [x] (.cons r₁ .nil) _ _ (q.chain st₁))
theorem Reps.one {h : Heap} {xs : List Value} {v : V} (r : Reps h xs [v]) : ∃ x, xs = [x] ∧ Rep h x v := by
  cases r with
  | cons r rs => cases rs; exact ⟨_, rfl, r⟩
theorem Reps.two {h : Heap} {xs : List Value} {v u : V} (r : Reps h xs [v, u]) : ∃ x y, xs = [x, y] ∧ Rep h x v ∧ Rep h y u := by
  cases r with
  | cons r rs => obtain ⟨y, rfl, r'⟩ := rs.one; exact ⟨_, _, rfl, r, r'⟩
theorem Reps.three {h : Heap} {xs : List Value} {v u t : V} (r : Reps h xs [v, u, t]) : ∃ x y z, xs = [x, y, z] ∧ Rep h x v ∧ Rep h y u ∧ Rep h z t := by
  cases r with
  | cons r rs => obtain ⟨y, z, rfl, r', r''⟩ := rs.two; exact ⟨_, _, _, rfl, r, r', r''⟩
/-! built-in functions -/
theorem call_len_list' {a : Addr} {l : List V} (hσ : σ a = some (.list l)) (hz : l.length < 2 ^ 62) (h : Φ (.int l.length) σ) : OpL prog w c (fun xs => call (.builtin "len") xs) [.obj a] σ Φ := fun s F xs r Q E q => by
  obtain ⟨z, rfl, r1⟩ := r.one
  cases r1
  obtain ⟨vs, n, hl, hr⟩ := F.ob a _ hσ
  have hlen : vs.size = l.length := by simpa using hr.length
  refine Calls.call_len_list hl.isList (by omega) ?_
  rw [hlen]
  exact q.here F.ob (.int ..) h
theorem call_len_str {x : Str} (hz : x.length < 2 ^ 62) (h : Φ (.int x.length) σ) : OpL prog w c (fun xs => call (.builtin "len") xs) [.str x] σ Φ := fun s F xs r Q E q => by
  obtain ⟨z, rfl, r1⟩ := r.one
  cases r1
  exact P.len_str (by omega) (q.here F.ob (.int ..) h)
theorem call_abs {i : Int} (h : Φ (.int (if i < 0 then -i else i)) σ) : OpL prog w c (fun xs => call (.builtin "abs") xs) [.int i] σ Φ := fun s F xs r Q E q => by
  obtain ⟨z, rfl, r1⟩ := r.one
  cases r1
  exact call_abs_int fun u tk => q.here F.ob (.int ..) h
theorem call_str_str {x : Str} (h : Φ (.str x) σ) : OpL prog w c (fun xs => call (.type "str") xs) [.str x] σ Φ := fun s F xs r Q E q => by
  obtain ⟨z, rfl, r1⟩ := r.one
  cases r1
  exact P.str_of_str (q.now F.ob (.str ..) h)
theorem call_str_int {i : Int} (hi : i.natAbs.log2 < 1920) (h : Φ (.str (toString i)) σ) : OpL prog w c (fun xs => call (.type "str") xs) [.int i] σ Φ := fun s F xs r Q E q => by
  obtain ⟨z, rfl, r1⟩ := r.one
  cases r1
  exact P.str_of_int hi (q.here F.ob (.str ..) h)
theorem call_tuple_obj {a : Addr} {l : List V} (hσ : σ a = some (.list l)) (hz : l.length ≤ sizeLine) (h : Φ (.tup l) σ) : OpL prog w c (fun xs => call (.type "tuple") xs) [.obj a] σ Φ := fun s F xs r Q E q => by
  obtain ⟨z, rfl, r1⟩ := r.one
  cases r1
  obtain ⟨vs, n, hl, hr⟩ := F.ob a _ hσ
  have hlen : vs.size = l.length := by simpa using hr.length
  refine call_tuple_list hl.isList (fun h' hk => ?_) (by omega)
  have k2 : ∀ b o, s.heap.get? b = some o → (h'.push { cls := .type "tuple", data := .seq vs }).get? b = some o := fun b o e => push_keeps _ _ _ _ (hk _ _ e)
  exact q _ _ (.tup l) σ (step_grow (t := s.toks) k2) (F.ob.grow k2) (.tup ⟨_, Heap.get?_push_size _ rfl, rfl, 0, rfl⟩ (hr.keep (tupKeep_of k2))) h
theorem op_add_list {a b : Addr} {l m : List V} (ha : σ a = some (.list l)) (hb : σ b = some (.list m)) (hz : l.length + m.length ≤ sizeLine) (h : ∀ x, σ x = none → Φ (.obj x) (upd σ x (.list (l ++ m)))) :
    Op2 prog w c (binaryOp .Add) (.obj a) (.obj b) σ Φ := fun s F x y r r' Q E q => by
  cases r; cases r'
  obtain ⟨vs, n, hl, hr⟩ := F.ob a _ ha
  obtain ⟨us, n', hl', hr'⟩ := F.ob b _ hb
  have e1 : vs.size = l.length := by simpa using hr.length
  have e2 : us.size = m.length := by simpa using hr'.length
  refine P.add_list hl hl' ?_ (by omega)
  refine q _ _ _ (upd σ s.heap.objs.size (.list (l ++ m))) (Step.new (t := s.toks) (push_keeps _ _) (get_size _) fun x => x) (F.ob.new (push_keeps _ _) ⟨vs ++ us, 0, IsL.new .., ?_⟩) (.obj _) (h _ (F.ob.none_of (get_size _)))
  have tk := tupKeep_of (push_keeps s.heap { cls := .type "list", data := .seq (vs ++ us) })
  have h1 := hr.keep tk
  have h2 := hr'.keep tk
  rw [Array.toList_append]
  generalize vs.toList = p at h1
  clear e1 hl hr ha hz h
  induction p generalizing l with
  | nil => cases h1; exact h2
  | cons v p ih =>
    cases h1 with
    | cons r rs => exact .cons r (ih rs)
theorem op_in_dict {a : Addr} {kvs : List (Str × V)} {k : Str} (hσ : σ a = some (.dict kvs)) (hS : a ≠ sysModules) (h : Φ (.bool (kvs.lookup k).isSome) σ) : Op2 prog w c (compareOp .In) (.str k) (.obj a) σ Φ := fun s F x y r r' Q E q => by
  cases r'
  cases r with
  | str _ t =>
  obtain ⟨ps, hd, hr⟩ := F.ob a _ hσ
  refine wpAny_in_of (strKind_is prog w k t) (beq_eq_false_iff_ne.mpr hS) hd.mapOf ?_
  have e : (valueAt ps k).isSome = (kvs.lookup k).isSome := by
    cases q : kvs.lookup k with
    | none => rw [hr.none q]; rfl
    | some v => obtain ⟨v', hv, _⟩ := hr.get q; rw [hv]; rfl
  rw [e]
  exact q.here F.ob (.bool _) h
end Mine
end
section
open PySem PySem.W PySem.Calls PyProof.Rows PySem.Spec
set_option autoImplicit false
namespace Mine
variable {prog : Program} {w : World} {T : Tbl} {c : Cx} {d : Nat} {ρ : Loc} {σ σ' : AS} {s s' : Shared} {Φ : V → AS → Prop} {Ψ : Fl → Loc → AS → Prop}
theorem Reps.push {h : Heap} {v : Value} {x : V} (r : Rep h v x) : ∀ {vs l}, Reps h vs l → Reps h (vs ++ [v]) (l ++ [x])
  | _, _, .nil => .cons r .nil
  | _, _, .cons r' rs => .cons r' (rs.push r)
theorem meth_append {a : Addr} {l : List V} {x : V} (hσ : σ a = some (.list l)) (hz : l.length ≤ sizeLine) (h : Φ .none (upd σ a (.list (l ++ [x])))) : OpL prog w c (fun xs => call (.builtin "list.append") xs) [.obj a, x] σ Φ := fun s F xs r Q E q => by
  obtain ⟨y, z, rfl, r1, r2⟩ := r.two
  cases r1
  obtain ⟨vs, n, hl, hr⟩ := F.ob a _ hσ
  have hlen : vs.size = l.length := by simpa using hr.length
  have hs' : Heap.SameBut a s.heap (s.heap.update a (Obj.mapSeq fun xs => xs.push z)) := Heap.SameBut.update ..
  have tk := tupKeep_same (F.ob a _ hσ) hs'
  have hu := hl.update fun xs => xs.push z
  refine call_meets PySem.F.slot_list_append ⟨_, hl, rfl⟩ PySem.F.entry_list_append (PySem.F.args_list_append_2 _ _) (PySem.list_append a vs n z (by omega)) ⟨hl, ?_⟩
  refine q _ _ .none (upd σ a (.list (l ++ [x]))) (Step.set (t := s.toks) hs' hσ) (F.ob.set hs' (F.ob a _ hσ) ⟨_, _, hu, ?_⟩) .none h
  have := (hr.keep tk).push (r2.keep tk)
  simpa using this
theorem meth_pop {a : Addr} {l : List V} {x : V} (hσ : σ a = some (.list (l ++ [x]))) (hz : l.length < sizeLine) (h : Φ x (upd σ a (.list l))) : OpL prog w c (fun xs => call (.builtin "list.pop") xs) [.obj a] σ Φ := fun s F xs r Q E q => by
  obtain ⟨y, rfl, r1⟩ := r.one
  cases r1
  obtain ⟨vs, n, hl, hr⟩ := F.ob a _ hσ
  have hlen : vs.size = l.length + 1 := by simpa using hr.length
  obtain ⟨z, hz', rz⟩ := hr.get (i := l.length) (x := x) (by simp)
  have hy : vs[vs.size - 1]? = some z := by rw [hlen]; simpa using hz'
  have hs' : Heap.SameBut a s.heap (s.heap.update a (Obj.mapSeq fun xs => xs.eraseIdxIfInBounds (vs.size - 1))) := Heap.SameBut.update ..
  have tk := tupKeep_same (F.ob a _ hσ) hs'
  have hu := hl.update fun xs => xs.eraseIdxIfInBounds (vs.size - 1)
  refine call_meets PySem.F.slot_list_pop ⟨_, hl, rfl⟩ PySem.F.entry_list_pop (PySem.F.args_list_pop_1 _) (PySem.MeetsSeq.list_pop_last a vs n z hy (by omega)) ⟨hl, ?_⟩
  refine q _ _ x (upd σ a (.list l)) (Step.set (t := s.toks) hs' hσ) (F.ob.set hs' (F.ob a _ hσ) ⟨_, _, hu, ?_⟩) (rz.keep tk) h
  have e : (vs.eraseIdxIfInBounds (vs.size - 1)).toList = vs.toList.take l.length := by
    unfold Array.eraseIdxIfInBounds
    rw [dif_pos (by omega), Array.toList_eraseIdx, hlen, Nat.add_sub_cancel]
    have : vs.toList.length = l.length + 1 := by simpa using hlen
    apply List.ext_getElem?
    intro i
    rw [List.getElem?_eraseIdx, List.getElem?_take]
    split
    · rfl
    · rw [List.getElem?_eq_none]; omega
  show Reps _ (vs.eraseIdxIfInBounds (vs.size - 1)).toList l
  rw [e]
  have := ((hr.keep tk).cut l.length).2
  simpa using this
theorem meth_get {a : Addr} {kvs : List (Str × V)} {k : Str} {x : V} (hσ : σ a = some (.dict kvs)) (hS : a ≠ sysModules) (h : Φ ((kvs.lookup k).getD x) σ) : OpL prog w c (fun xs => call (.builtin "dict.get") xs) [.obj a, .str k, x] σ Φ := fun s F xs r Q E q => by
  obtain ⟨y, z, u, rfl, r1, r2, r3⟩ := r.three
  cases r1
  cases r2 with
  | str _ t =>
  obtain ⟨ps, hd, hr⟩ := F.ob a _ hσ
  refine call_meetsIn PySem.F.slot_dict_get hd.mapOf.typeIs PySem.F.entry_dict_get (PySem.F.args_dict_get_3 _ _ _) (meets_dict_get_default (strKind prog w) a (strKind_is prog w k t) (beq_eq_false_iff_ne.mpr hS) u) ⟨_, hd.mapOf, ?_⟩
  refine q.here F.ob ?_ h
  cases e : kvs.lookup k with
  | none => rw [hr.none e]; exact r3
  | some v => obtain ⟨v', hv, rv⟩ := hr.get e; rw [hv]; exact rv
theorem reps_strs {h : Heap} : ∀ {vs : List Value} {ys : List Str}, Reps h vs (ys.map V.str) → StrsAre vs ys := by
  intro vs ys
  induction ys generalizing vs with
  | nil => intro r; cases r; exact .nil
  | cons y ys ih =>
    intro r
    cases r with
    | cons r rs => cases r; exact .cons _ _ (ih rs)
theorem meth_join {a : Addr} {x : Str} {ys : List Str} (hσ : σ a = some (.list (ys.map V.str))) (hok : (ys.map (·.length)).sum + ys.length * x.length ≤ 16777216) (h : Φ (.str (Txt.join x ys)) σ) : OpL prog w c (fun xs => call (.builtin "str.join") xs) [.str x, .obj a] σ Φ := fun s F xs r Q E q => by
  obtain ⟨y, z, rfl, r1, r2⟩ := r.two
  cases r1
  cases r2
  obtain ⟨vs, n, hl, hr⟩ := F.ob a _ hσ
  exact join_list hl.isList (reps_strs hr) hok fun t' k => q.here F.ob (.str ..) h
end Mine
end
section
open PySem PySem.W PySem.Calls PyProof.Rows PySem.Spec
set_option autoImplicit false
namespace Mine
variable {prog : Program} {w : World} {T : Tbl} {c : Cx} {d : Nat} {ρ : Loc} {σ σ' : AS} {s s' : Shared} {Φ : V → AS → Prop} {Ψ : Fl → Loc → AS → Prop}
noncomputable abbrev KPc (k : Str) (x : V) (Λ : List (Str × V) → AS → Prop) : List (Str × V) → AS → Prop := fun kvs σ => Λ ((k, x) :: kvs) σ
noncomputable def EvPr (prog : Program) (w : World) (c : Cx) (ρ : Loc) : List (Option Expr) → List Expr → AS → (List (Str × V) → AS → Prop) → Prop
  | some (.Constant (.str k) _ _) :: ks, v :: vs, σ, Λ => EvP prog w c v ρ σ fun x σ₁ => EvPr prog w c ρ ks vs σ₁ (KPc k x Λ)
  | [], [], σ, Λ => Λ [] σ
  | _, _, _, _ => False
theorem evPr_shape : ∀ (ks : List (Option Expr)) (vs : List Expr) (σ : AS) (Λ : List (Str × V) → AS → Prop), EvPr prog w c ρ ks vs σ Λ → (ks = [] ∧ vs = [] ∧ Λ [] σ) ∨
    ∃ k kd p ks' v vs', ks = some (.Constant (.str k) kd p) :: ks' ∧ vs = v :: vs' ∧ EvP prog w c v ρ σ fun x σ₁ => EvPr prog w c ρ ks' vs' σ₁ fun kvs σ₂ => Λ ((k, x) :: kvs) σ₂ := by
  intro ks vs σ Λ h
  unfold EvPr at h
  split at h
  · exact .inr ⟨_, _, _, _, _, _, rfl, rfl, h⟩
  · exact .inl ⟨rfl, rfl, h⟩
  · exact h.elim
/-- the pairs as they are handed on -/
inductive PReps (h : Heap) : List (Value × Value) → List (Str × Value) → List (Str × V) → Prop
  | nil : PReps h [] [] []
  | cons {k t v x vs ps xs} : Rep h v x → PReps h vs ps xs → PReps h ((.str k t, v) :: vs) ((k, v) :: ps) ((k, x) :: xs)
theorem PReps.kreps {h : Heap} {vs ps xs} (r : PReps h vs ps xs) : KReps h ps xs := by
  induction r with
  | nil => exact .nil
  | cons r _ ih => exact .cons r ih
theorem PReps.carries {h : Heap} {vs ps xs} (r : PReps h vs ps xs) : Carries (strKind prog w) vs ps := by
  induction r with
  | nil => exact trivial
  | @cons k t v x vs ps xs r _ ih => exact ⟨strKind_is prog w k t, rfl, ih⟩
theorem PReps.keys {h : Heap} {vs ps xs} (r : PReps h vs ps xs) : ps.map (·.1) = xs.map (·.1) ∧ vs.length = xs.length ∧ ps.length = xs.length := by
  induction r with
  | nil => exact ⟨rfl, rfl, rfl⟩
  | cons _ _ ih => simp [ih]
theorem evPr_run : ∀ {ks : List (Option Expr)} {vs : List Expr} {σ : AS} {Λ : List (Str × V) → AS → Prop}, EvPr prog w c ρ ks vs σ Λ → ∀ {s}, St prog w c ρ σ s → ∀ {pos} {Q : List (Value × Value) → Shared → Prop} {E},
    (∀ vals s' ps kvs σ', Step NoX σ s σ' s' → Ob prog w σ' s'.heap → PReps s'.heap vals ps kvs → Λ kvs σ' → Q vals s') → wpAny (model prog w) c.A (evalPairs (pairTrees ks vs c.env pos)) Q E s := by
  intro ks
  induction ks with
  | nil =>
    intro vs σ Λ h s S pos Q E q
    rcases evPr_shape _ _ _ _ h with ⟨_, rfl, hΛ⟩ | ⟨_, _, _, _, _, _, e, _⟩
    · exact evalPairs_nil (q [] s [] [] σ Step.refl S.ob .nil hΛ)
    · cases e
  | cons k0 ks ih =>
    intro vs σ Λ h s S pos Q E q
    rcases evPr_shape _ _ _ _ h with ⟨e, _⟩ | ⟨k, kd, p, ks', v, vs', e, rfl, hv⟩
    · cases e
    · cases e
      refine evalPairs_cons (wpAny_Constant_str ?_)
      have S₁ : St prog w c ρ σ { s with toks := s.toks + 1 } := S.step Step.toks S.ob
      refine wpAny_bind (hv _ S₁ _ _ fun x s₂ xv σ₂ st₂ ho₂ r₂ h₂ => wpAny_bind (wpAny_standAt (wpAny_pure ?_)))
      refine ih h₂ (S₁.step st₂ ho₂) fun vals s₃ ps kvs σ₃ st₃ ho₃ r₃ h₃ => ?_
      have st₁ : Step NoX σ s σ { s with toks := s.toks + 1 } := Step.toks
      exact q _ s₃ _ _ σ₃ (st₁.trans (st₂.trans st₃)) ho₃ (.cons (r₂.keep (st₃.tup ho₂)) r₃) h₃
theorem size_mods (O : Ok T c d) (F : FS prog w c σ s) : s.heap.objs.size ≠ sysModules := by
  obtain ⟨m, F⟩ := F.fr
  obtain ⟨mg, mb, ⟨o, es, ep, g, _⟩, _⟩ := O.gl.ns
  have h1 : 3 < c.h₀.objs.size := Heap.lt_size g
  have h2 := F.above
  have h3 : c.L < s.heap.objs.size := F.ns.lt
  intro e
  have e' : s.heap.objs.size = 1 := e
  rw [e'] at h3
  exact absurd (Nat.lt_of_lt_of_le h1 (Nat.le_trans h2 (Nat.le_of_lt_succ (Nat.lt_succ_of_lt h3)))) (by decide)
theorem ev_Dict {ks : List (Option Expr)} {vs : List Expr} {pos : Pos} (O : Ok T c d) (h : EvPr prog w c ρ ks vs σ fun kvs σ₁ => (kvs.map (·.1)).Nodup ∧ kvs.length ≤ 1000 ∧ ∀ a, σ₁ a = none → a ≠ sysModules → Φ (.obj a) (upd σ₁ a (.dict kvs)))
    (hall : ks.all (·.isSome) = true := by rfl) (hl : ks.length = vs.length := by rfl) (h0 : ks ≠ [] := by simp) (hlen : ks.length ≤ 15 := by decide) : EvP prog w c (.Dict ks vs pos) ρ σ Φ := fun s S Q E q => by
  refine wpAny_Dict_any hall hl h0 hlen ?_
  have k₀ := push_keeps s.heap { cls := .type "dict", data := .dict #[] }
  have st₀ : Step NoX σ s σ { s with heap := s.heap.push { cls := .type "dict", data := .dict #[] } } := Step.push
  have S₀ := S.step st₀ (S.ob.grow k₀)
  refine evPr_run h S₀ fun vals s₁ ps kvs σ₁ st₁ ho₁ r₁ ⟨hn, hle, hΦ⟩ => ?_
  have hσ0 : σ s.heap.objs.size = none := S.ob.none_of (get_size _)
  obtain ⟨o0, es0, ep0, g0, hd0⟩ := Heap.DictOf.new (knd := strKind prog w) s.heap
  have hd₁ : s₁.heap.DictOf (strKind prog w) s.heap.objs.size [] := ⟨o0, es0, ep0, st₁.keep _ _ g0 (fun x => x) hσ0, hd0⟩
  have hσ1 : σ₁ s.heap.objs.size = none := by
    cases z : σ₁ s.heap.objs.size with
    | none => rfl
    | some o =>
      rcases st₁.dom _ (by rw [z]; simp) with z' | z'
      · exact absurd hσ0 z'
      · rw [show Heap.get? _ _ = some o0 from g0] at z'; simp at z'
  have hk := r₁.keys
  refine wpAny_storeAll (knd := strKind prog w) vals ps [] s₁ _ r₁.carries hd₁ ?_ fun h' hd' hs' => ?_
  · rw [List.length_nil, sizeLine_eq]; omega
  · rw [merged_nil_of_nodup ps (by rw [hk.1]; exact hn)] at hd'
    have hnt : ∀ vs, ¬ s₁.heap.IsTuple s.heap.objs.size vs := fun vs t => by
      obtain ⟨o, g, hc, _⟩ := t
      obtain ⟨o1, es, ep, g1, hx, _⟩ := hd₁
      cases g.symm.trans g1
      have := hx.1
      rw [hc] at this; simp at this
    have tk : TupKeep s₁.heap h' := fun b vs t => by
      have hne : b ≠ s.heap.objs.size := fun e => hnt vs (e ▸ t)
      obtain ⟨o, g, r⟩ := t
      exact ⟨o, (hs'.2 b hne).trans g, r⟩
    refine q _ _ (.obj s.heap.objs.size) (upd σ₁ s.heap.objs.size (.dict kvs)) ?_ ?_ (.obj _) (hΦ _ hσ1 (size_mods O S.toFS))
    · have st := st₀.trans st₁
      obtain ⟨h1, t1, e1⟩ := st.same
      refine ⟨⟨h', s₁.toks + vals.length, by rw [e1]⟩, fun b o e hx hσ => ?_, fun b e => ?_⟩
      · have hne : b ≠ s.heap.objs.size := fun z => by rw [z, get_size] at e; cases e
        exact (hs'.2 b hne).trans (st.keep b o e hx hσ)
      · unfold upd at e
        split at e
        · rename_i z; subst z; exact .inr ⟨get_size _, fun x => x⟩
        · exact st.dom b e
    · intro b o e
      unfold upd at e
      split at e
      · rename_i z; subst z; cases e
        exact ⟨ps, hd', r₁.kreps.keep tk⟩
      · rename_i z
        exact (ho₁ b o e).keep tk fun ob g => (hs'.2 b z).trans g
/-- a display of sixteen pairs: each is stored as it is met -/
noncomputable def storePairs (a : Addr) (pairs : List (Sem Value × Sem Value)) : Sem PUnit :=
  forIn pairs PUnit.unit fun (x : Sem Value × Sem Value) (_ : PUnit) => (do let kv ← x.1; let vv ← holding [kv] x.2; holding [kv, vv] (dictSet a kv vv); pure (ForInStep.yield PUnit.unit) : Sem (ForInStep PUnit))
theorem subDict_long {pairs : List (Sem Value × Sem Value)} (h : ¬ pairs.length ≤ 15) : subDict pairs = (do
    let a ← alloc { cls := .type "dict", data := .dict #[] }
    holding [.ref a] (do rule "dict.display.long"; let _ ← storePairs a pairs; pure ())
    return a) := by
  unfold subDict storePairs
  simp only [if_neg h]
theorem Rep.tweak {it : Addr} {h h' : Heap} {x : Value} {v : V} (r : Rep h x v) (hn : ∀ vs, ¬ h.IsTuple it vs) (hs : Heap.ExtBut it h h') : Rep h' x v :=
  r.keep fun b vs t => by
    have hne : b ≠ it := fun e => hn vs (e ▸ t)
    obtain ⟨o, g, r⟩ := t
    exact ⟨o, hs b o hne g, r⟩
theorem evPr_long : ∀ {ks : List (Option Expr)} {vs : List Expr} {σ : AS} {Λ : List (Str × V) → AS → Prop}, EvPr prog w c ρ ks vs σ Λ → ∀ {s a} {acc : List (Str × Value)}, St prog w c ρ σ s → Apart c a s.heap → σ a = none →
    s.heap.DictOf (strKind prog w) a acc → acc.length + ks.length ≤ 1000 → ∀ {pos} {Q : PUnit → Shared → Prop} {E},
    (∀ s' ps kvs σ', Step (fun b => b = a) σ s σ' s' → St prog w c ρ σ' s' → Apart c a s'.heap → σ' a = none → s'.heap.DictOf (strKind prog w) a (merged acc ps) → KReps s'.heap ps kvs → ps.map (·.1) = kvs.map (·.1) → Λ kvs σ' → Q PUnit.unit s') →
    wpAny (model prog w) c.A (storePairs a (pairTrees ks vs c.env pos)) Q E s := by
  intro ks
  induction ks with
  | nil =>
    intro vs σ Λ h s a acc S A hσ hd hsz pos Q E q
    rcases evPr_shape _ _ _ _ h with ⟨_, rfl, hΛ⟩ | ⟨_, _, _, _, _, _, e, _⟩
    · unfold storePairs
      show wpAny _ _ (forIn [] PUnit.unit _) Q E s
      rw [List.forIn_nil]
      exact wpAny_pure (q s [] [] σ Step.refl S A hσ hd .nil rfl hΛ)
    · cases e
  | cons k0 ks ih =>
    intro vs σ Λ h s a acc S A hσ hd hsz pos Q E q
    rcases evPr_shape _ _ _ _ h with ⟨e, _⟩ | ⟨k, kd, p, ks', v, vs', e, rfl, hv⟩
    · cases e
    · cases e
      unfold storePairs
      show wpAny _ _ (forIn ((eval (.Constant (.str k) kd p) c.env, do let x ← eval v c.env; standAt pos; pure x) :: pairTrees ks vs' c.env pos) PUnit.unit _) Q E s
      rw [List.forIn_cons]
      refine wpAny_bind (wpAny_bind (wpAny_Constant_str (env := c.env) (k := kd) (pos := p) ?_))
      have st₁ : Step NoX σ s σ { s with toks := s.toks + 1 } := Step.toks
      have S₁ : St prog w c ρ σ { s with toks := s.toks + 1 } := S.step st₁ S.ob
      have A₁ : Apart c a ({ s with toks := s.toks + 1 } : Shared).heap := A
      refine wpAny_bind (wpAny_holding (wpAny_bind (hv _ S₁ _ _ fun x s₂ xv σ₂ st₂ ho₂ r₂ h₂ => wpAny_bind (wpAny_standAt (wpAny_pure ?_)))))
      have S₂ := S₁.step st₂ ho₂
      have stA := st₁.trans st₂
      obtain ⟨o, es, ep, g, rest⟩ := hd
      have g₂ := stA.keep _ _ g (fun x => x) hσ
      have hd₂ : s₂.heap.DictOf (strKind prog w) a acc := ⟨o, es, ep, g₂, rest⟩
      have A₂ := A.keep g₂ (by rw [rest.1.1]; simp)
      have hσ₂ : σ₂ a = none := by
        cases z : σ₂ a with
        | none => rfl
        | some o' =>
          rcases stA.dom _ (by rw [z]; simp) with z' | z'
          · exact absurd hσ z'
          · rw [g] at z'; simp at z'
      refine wpAny_bind (wpAny_holding (wpAny_dictSet_pairs (strKind_is prog w k s.toks) hd₂ (fun h' hd' hs' => wpAny_pure ?_) (by rw [sizeLine_eq]; omega)))
      have S₃ := S₂.tweak (t := s₂.toks + 1) A₂ hσ₂ hs'.extBut
      have g₃ : ∃ o', h'.get? a = some o' ∧ o'.cls = .type "dict" := by
        obtain ⟨o', _, _, g', hx, _⟩ := hd'
        exact ⟨o', g', hx.1⟩
      obtain ⟨o', g', hc'⟩ := g₃
      have A₃ : Apart c a h' := A₂.keep g' (by rw [hc']; simp)
      have stB : Step (fun b => b = a) σ s σ₂ { s₂ with heap := h', toks := s₂.toks + 1 } := by
        obtain ⟨h1, t1, e1⟩ := stA.same
        refine ⟨⟨h', s₂.toks + 1, by rw [e1]⟩, fun b o e hx hσ => (hs'.2 b hx).trans (stA.keep b o e (fun x => x) hσ), fun b e => ?_⟩
        rcases stA.dom b e with z | z
        · exact .inl z
        · exact .inr ⟨z.1, fun y => by rw [y, g] at z; simp at z⟩
      have r₃ : Rep h' x xv := r₂.tweak A₂.notTup hs'.extBut
      refine ih h₂ S₃ A₃ hσ₂ hd' ?_ fun s₄ ps kvs σ₄ st₄ S₄ A₄ hσ₄ hd₄ r₄ hk₄ h₄ => ?_
      · have := stored_length_le acc k x
        simp only [List.length_cons] at hsz
        omega
      · refine q s₄ ((k, x) :: ps) ((k, xv) :: kvs) σ₄ (stB.trans st₄) S₄ A₄ hσ₄ hd₄ (.cons (r₃.keep ?_) r₄) (by simp [hk₄]) h₄
        intro b vs t
        have hne : b ≠ a := fun e => A₃.notTup vs (e ▸ t)
        obtain ⟨o, g, r⟩ := t
        refine ⟨o, st₄.keep b o g hne ?_, r⟩
        cases z : σ₂ b with
        | none => rfl
        | some o' => exact absurd ⟨o, g, r⟩ fun t => (S₃.ob b o' z).notTuple t
theorem ev_DictLong {ks : List (Option Expr)} {vs : List Expr} {pos : Pos} (O : Ok T c d) (h : EvPr prog w c ρ ks vs σ fun kvs σ₁ => (kvs.map (·.1)).Nodup ∧ ∀ a, σ₁ a = none → a ≠ sysModules → Φ (.obj a) (upd σ₁ a (.dict kvs)))
    (hall : ks.all (·.isSome) = true := by rfl) (hl : ks.length = vs.length := by rfl) (hlen : ks.length = 16 := by rfl) : EvP prog w c (.Dict ks vs pos) ρ σ Φ := fun s S Q E q => by
  have hn := pairTrees_length ks vs c.env pos hall hl
  have hp0 : pairTrees ks vs c.env pos ≠ [] := fun e => by rw [e] at hn; simp at hn; omega
  rw [arm_eval_Dict, zip_pairTrees ks vs c.env pos hall hl, dictDisplay_pairs _ hp0 (by rw [hn]; omega), subDict_long (by rw [hn]; omega)]
  refine wpAny_bind (wpAny_standAt (wpAny_bind (wpAny_bind (wpAny_alloc (wpAny_bind (wpAny_holding (wpAny_bind (wpAny_rule (wpAny_bind ?_)))))))))
  have k₀ := push_keeps s.heap { cls := .type "dict", data := .dict #[] }
  have st₀ : Step NoX σ s σ { s with heap := s.heap.push { cls := .type "dict", data := .dict #[] } } := Step.push
  have S₀ := S.step st₀ (S.ob.grow k₀)
  have A₀ := apart_new (ob := { cls := .type "dict", data := .dict #[] }) S (by simp)
  refine evPr_long h S₀ A₀ (S.ob.none_of (get_size _)) (Heap.DictOf.new s.heap) (by simp; omega) fun s₁ ps kvs σ₁ st₁ S₁ A₁ hσ₁ hd₁ r₁ hk₁ ⟨hnd, hΦ⟩ => ?_
  refine wpAny_pure (wpAny_pure (wpAny_pure ?_))
  rw [merged_nil_of_nodup ps (by rw [hk₁]; exact hnd)] at hd₁
  refine q _ _ (.obj s.heap.objs.size) (upd σ₁ s.heap.objs.size (.dict kvs)) ?_ ?_ (.obj _) (hΦ _ hσ₁ (size_mods O S.toFS))
  · obtain ⟨h1, t1, e1⟩ := st₁.same
    refine ⟨⟨h1, t1, by rw [e1]⟩, fun b o e hx hσ => ?_, fun b e => ?_⟩
    · have hne : b ≠ s.heap.objs.size := fun z => by rw [z, get_size] at e; cases e
      exact st₁.keep b o (k₀ _ _ e) hne hσ
    · unfold upd at e
      split at e
      · rename_i z; subst z; exact .inr ⟨get_size _, fun x => x⟩
      · rcases st₁.dom b e with z | z
        · exact .inl z
        · refine .inr ⟨?_, fun x => x⟩
          cases g : s.heap.get? b with
          | none => rfl
          | some o => rw [show Heap.get? _ b = some o from k₀ _ _ g] at z; simp at z
  · intro b o e
    unfold upd at e
    split at e
    · rename_i z; subst z; cases e
      exact ⟨ps, hd₁, r₁⟩
    · exact S₁.ob b o e
end Mine
end
section
open PySem PySem.W PySem.Calls PyProof.Rows PySem.Spec
set_option autoImplicit false
namespace Mine
variable {prog : Program} {w : World} {T : Tbl} {c : Cx} {d : Nat} {ρ : Loc} {σ σ' : AS} {s s' : Shared} {Φ : V → AS → Prop} {Ψ : Fl → Loc → AS → Prop}
mutual
inductive PureV : V → Prop
  | none : PureV .none
  | bool (b) : PureV (.bool b)
  | int (i) : PureV (.int i)
  | str (x) : PureV (.str x)
  | tup {l} : PureVs l → PureV (.tup l)
inductive PureVs : List V → Prop
  | nil : PureVs []
  | cons {x l} : PureV x → PureVs l → PureVs (x :: l)
end
theorem Rep.fn {h : Heap} {v : Value} {x y : V} (r : Rep h v x) (p : PureV x) (r' : Rep h v y) (q : PureV y) : x = y := by
  revert p
  suffices H : PureV x → ∀ {y}, Rep h v y → PureV y → x = y from fun p => H p r' q
  clear r' q
  refine Rep.rec (motive_1 := fun v x _ => PureV x → ∀ {y}, Rep h v y → PureV y → x = y) (motive_2 := fun vs xs _ => PureVs xs → ∀ {ys}, Reps h vs ys → PureVs ys → xs = ys) ?_ ?_ ?_ ?_ ?_ ?_ ?_ ?_ r
  · intro _ y r _; cases r; rfl
  · intro b _ y r _; cases r; rfl
  · intro i t _ y r _; cases r; rfl
  · intro x t _ y r _; cases r; rfl
  · intro a vs l ht hr ih p y r q
    cases r with
    | tup ht' hr' =>
      cases p with
      | tup p =>
      cases q with
      | tup q =>
        obtain ⟨o, g, _, n, e⟩ := ht
        obtain ⟨o', g', _, n', e'⟩ := ht'
        cases g.symm.trans g'
        cases e.symm.trans e'
        rw [ih p hr' q]
    | obj a => cases q
  · intro a p; cases p
  · intro _ ys r _; cases r; rfl
  · intro v vs x xs r rs ih ihs p ys r' q
    cases r' with
    | cons r1 rs1 =>
      cases p with
      | cons p ps =>
      cases q with
      | cons q qs => rw [ih p r1 q, ihs ps rs1 qs]
/-- a value that no heap bears -/
noncomputable def Flat : V → Prop
  | .tup _ => False
  | .obj _ => False
  | _ => True
theorem Rep.flat {h h' : Heap} {v : Value} {x : V} (r : Rep h v x) (f : Flat x) : Rep h' v x := by
  cases r with
  | none => exact .none
  | bool b => exact .bool b
  | int i t => exact .int i t
  | str x t => exact .str x t
  | tup => exact f.elim
  | obj => exact f.elim
noncomputable def cxC (c : Cx) (scope : Scope) (cl : List (Str × Addr)) (C : Addr) : Cx := ⟨c.A, compEnvC scope cl C c.env, c.h₀, c.L⟩
theorem ok_cxC (O : Ok T c d) {scope : Scope} {cl : List (Str × Addr)} {C : Addr} (hk : scope.kind = .function) : Ok T (cxC c scope cl C) d :=
  ⟨O.stack, O.gl, hk, O.glob, O.blts, O.handled, O.room, O.units⟩
noncomputable def empty : AS := fun _ => none
/-- names that a comprehension takes out of its function's cells -/
structure Caps (c : Cx) (ρ ρc : Loc) (scope : Scope) (cl : List (Str × Addr)) : Prop where
  names : ∀ y u, ρc.lookup y = some u → ρ.lookup y = some u ∧ (c.env.kindOf y = some .cell) ∧ ((relabel scope c.env).names.lookup y = some .cell ∨ (relabel scope c.env).names.lookup y = some .free) ∧ cl.lookup y = c.env.cells.lookup y
  cells : ∀ y a, cl.lookup y = some a → c.env.cells.lookup y = some a
noncomputable def EvTs (prog : Program) (w : World) (c : Cx) (ifs : List Expr) (ρ : Loc) (σ : AS) (Ψ : Bool → AS → Prop) : Prop := match ifs with
  | [] => Ψ true σ
  | [t] => EvT prog w c t ρ σ Ψ
  | _ => False
theorem St.comp {x : Str} {y : V} {v : Value} {ρc : Loc} {scope : Scope} {cl : List (Str × Addr)} {C : Addr} {wr : List Addr} {s₃ : Shared} {m₃ : Str → Option Value} (S : St prog w c ρ σ s) (hcap : Caps c ρ ρc scope cl)
    (hx : scope.names.lookup x = some .local) (hwr : ∀ b ∈ wr, Apart c b s.heap) (hn : s₃.heap.Ns C m₃) (hm : m₃ x = some v) (hk : ∀ b o, b ∉ wr → s.heap.get? b = some o → s₃.heap.get? b = some o) (r : Rep s.heap v y) :
    St prog w (cxC c scope cl C) ((x, y) :: ρc) empty s₃ := by
  have tk : TupKeep s.heap s₃.heap := fun b vs t => by
    have hb : b ∉ wr := fun hb => (hwr b hb).notTup vs t
    obtain ⟨o, g, r⟩ := t
    exact ⟨o, hk b o hb g, r⟩
  have hc : ∀ y a v, c.env.cells.lookup y = some a → s.heap.IsCell a v → s₃.heap.IsCell a v := fun y a v e ⟨o, g, hd⟩ => ⟨o, hk a o (fun hb => (hwr a hb).cells y a e rfl) g, hd⟩
  obtain ⟨m, F⟩ := S.fr
  refine ⟨⟨⟨m, Fr.of_keep F fun b o e hb => hk b o (fun h => ?_) e⟩, (fun a o e => by cases e), fun a e => absurd rfl e⟩, fun z u e => ?_, ⟨_, hn⟩, fun z a e => ?_, rfl, fun _ _ _ => rfl⟩
  · rcases hb with hb | hb
    · exact (hwr b h).frame hb
    · exact hb (hwr b h).base
  · rw [List.lookup_cons] at e
    cases hb : z == x with
    | true =>
      rw [hb] at e
      cases e
      have : z = x := by simpa using hb
      subst this
      exact ⟨v, .inl ⟨lookup_relabel_local hx, _, hn, hm⟩, r.keep tk⟩
    | false =>
      rw [hb] at e
      obtain ⟨e1, e2, e3, e4⟩ := hcap.names z u e
      obtain ⟨val, nm, rv⟩ := S.names z u e1
      rcases nm with ⟨k, _⟩ | ⟨_, a, ha, hv⟩
      · rw [e2] at k; cases k
      · exact ⟨val, .inr ⟨e3, a, e4.trans ha, hc _ _ _ ha hv⟩, rv.keep tk⟩
  · obtain ⟨v, hv⟩ := S.cellx z a (hcap.cells z a e)
    exact ⟨v, hc _ _ _ (hcap.cells z a e) hv⟩
theorem keeps_of {s₃ s₄ : Shared} {σ₄ : AS} (st : Step NoX empty s₃ σ₄ s₄) : Keeps s₃ s₄ := by
  obtain ⟨h, t, e⟩ := st.same
  refine ⟨h, t, e, fun b o g => ?_⟩
  have := st.keep b o g (fun x => x) rfl
  rw [e] at this
  exact this
theorem quiet_of {x : Str} {ρc : Loc} {scope : Scope} {cl : List (Str × Addr)} {ifs : List Expr} {elt : Expr} {wr : List Addr} {P : Nat → Value → Prop} {p : Value → Bool} {p' : V → Bool} {g : V → V} {l : List V}
    (S : St prog w c ρ σ s) (hcap : Caps c ρ ρc scope cl) (hx : scope.names.lookup x = some .local) (hwr : ∀ b ∈ wr, Apart c b s.heap)
    (hP : ∀ i v, P i v → ∃ y, l[i]? = some y ∧ Rep s.heap v y) (hp : ∀ v y, Rep s.heap v y → y ∈ l → p v = p' y) (hg : ∀ y ∈ l, p' y = true → Flat (g y))
    (tests : ∀ C y, y ∈ l → EvTs prog w (cxC c scope cl C) ifs ((x, y) :: ρc) empty fun b _ => b = p' y)
    (elts : ∀ C y, y ∈ l → p' y = true → EvP prog w (cxC c scope cl C) elt ((x, y) :: ρc) empty fun r _ => r = g y) :
    QuietOnC prog w c.A c.env scope cl x ifs elt wr P p (fun v r => ∃ y, y ∈ l ∧ p' y = true ∧ Rep s.heap v y ∧ ∀ h, Rep h r (g y)) s := by
  constructor
  · intro C i v s₃ m₃ E' hC hPv hn hm hk htk
    obtain ⟨y, hy, r⟩ := hP i v hPv
    have hmem := List.mem_of_getElem? hy
    have S₃ := S.comp (C := C) hcap hx hwr hn hm hk r
    have ht := tests C y hmem
    unfold EvTs at ht
    split at ht
    · rw [List.forIn_nil]
      exact wpAny_pure ⟨by rw [hp v y r hmem]; exact ht, ⟨s₃.heap, s₃.toks, rfl, fun _ _ e => e⟩⟩
    · refine wpAny_tests_one (ht s₃ S₃ _ _ fun b s₄ σ₄ st₄ ho₄ hb => ⟨?_, keeps_of st₄⟩)
      rw [hb, hp v y r hmem]
    · exact ht.elim
  · intro C i v s₃ m₃ E' hC hPv hpv hn hm hk htk
    obtain ⟨y, hy, r⟩ := hP i v hPv
    have hmem := List.mem_of_getElem? hy
    have hp' : p' y = true := by rw [← hp v y r hmem]; exact hpv
    have S₃ := S.comp (C := C) hcap hx hwr hn hm hk r
    refine elts C y hmem hp' s₃ S₃ _ _ fun r' s₄ z σ₄ st₄ ho₄ rr hz => ⟨⟨y, hmem, hp', r, fun h => ?_⟩, keeps_of st₄⟩
    subst hz
    exact rr.flat (hg y hmem hp')
theorem PureVs.mem {L : List V} (hL : PureVs L) {z : V} (hz : z ∈ L) : PureV z := by
  induction L with
  | nil => cases hz
  | cons a L ih =>
    cases hL with
    | cons p ps =>
      rcases List.mem_cons.mp hz with e | e
      · subst e; exact p
      · exact ih ps e
theorem paired_reps {h : Heap} {p : Value → Bool} {p' : V → Bool} {g : V → V} {L : List V} (hL : PureVs L) : ∀ {vs : List Value} {l : List V} {ys : List Value}, Reps h vs l → PureVs l → (∀ v y, Rep h v y → y ∈ l → p v = p' y) →
    Paired (fun v r => ∃ y, y ∈ L ∧ p' y = true ∧ Rep h v y ∧ ∀ h, Rep h r (g y)) (vs.filter p) ys → ∀ h', Reps h' ys ((l.filter p').map g)
  | _, _, _, .nil, _, _, q, h' => by cases q; exact .nil
  | v :: vs, y :: l, ys, .cons r rs, .cons q qs, hp, pr, h' => by
    have hv := hp v y r (.head _)
    rw [List.filter_cons, hv] at pr
    rw [List.filter_cons]
    cases hpy : p' y with
    | false =>
      rw [hpy] at pr
      simp only [Bool.false_eq_true, if_false] at pr ⊢
      exact paired_reps hL rs qs (fun v y r hy => hp v y r (.tail _ hy)) pr h'
    | true =>
      rw [hpy] at pr
      simp only [if_true] at pr ⊢
      cases pr with
      | cons hF rest =>
        obtain ⟨z, hz, _, rz, hr⟩ := hF
        have hzp : PureV z := hL.mem hz
        have : z = y := Rep.fn rz hzp r q
        subst this
        exact .cons (hr h') (paired_reps hL rs qs (fun v y r hy => hp v y r (.tail _ hy)) rest h')
end Mine
end
section
open PySem PySem.W PySem.Calls PyProof.Rows PySem.Spec
set_option autoImplicit false
namespace Mine
variable {prog : Program} {w : World} {T : Tbl} {c : Cx} {d : Nat} {ρ : Loc} {σ σ' : AS} {s s' : Shared} {Φ : V → AS → Prop} {Ψ : Fl → Loc → AS → Prop}
/-- what a comprehension asks of its items -/
structure CompOk (prog : Program) (w : World) (c : Cx) (scope : Scope) (cl : List (Str × Addr)) (x : Str) (ifs : List Expr) (elt : Expr) (ρc : Loc) (l : List V) (p' : V → Bool) (g : V → V) : Prop where
  size : l.length ≤ sizeLine
  pure : PureVs l
  test : ∃ p : Value → Bool, ∀ h v y, Rep h v y → y ∈ l → p v = p' y
  flat : ∀ y ∈ l, p' y = true → Flat (g y)
  tests : ∀ C y, y ∈ l → EvTs prog w (cxC c scope cl C) ifs ((x, y) :: ρc) empty fun b _ => b = p' y
  elts : ∀ C y, y ∈ l → p' y = true → EvP prog w (cxC c scope cl C) elt ((x, y) :: ρc) empty fun r _ => r = g y
theorem test_flat {p' : V → Bool} {l : List V} (hl : ∀ y ∈ l, Flat y) : ∃ p : Value → Bool, ∀ h v y, Rep h v y → y ∈ l → p v = p' y := by
  refine ⟨fun v => p' (match v with | .none => .none | .bool b => .bool b | .int i _ => .int i | .str x _ => .str x | _ => .none), fun h v y r hy => ?_⟩
  have := hl y hy
  cases r <;> first | rfl | exact this.elim
/-- the scope of a comprehension -/
structure ScopeOk (scope : Scope) (x : Str) : Prop where
  cell : ∀ y ∈ scope.names, y.2 ≠ .cell
  kind : scope.kind = .function
  names : ∀ y ∈ scope.names, y.2 = .local → scope.names.lookup y.1 = some .local
  var : scope.names.lookup x = some .local
theorem reps_of_index {h : Heap} : ∀ {vs : List Value} {l : List V}, vs.length = l.length → (∀ (i : Nat) (v : Value), vs[i]? = some v → ∃ y : V, l[i]? = some y ∧ Rep h v y) → Reps h vs l
  | [], [], _, _ => .nil
  | v :: vs, y :: l, hl, hi => by
    obtain ⟨y', e, r⟩ := hi 0 v rfl
    cases e
    exact .cons r (reps_of_index (by simpa using hl) fun i v' hv => by
      obtain ⟨z, e, r⟩ := hi (i + 1) v' (by simpa using hv)
      exact ⟨z, by simpa using e, r⟩)
  | [], _ :: _, hl, _ => by simp at hl
  | _ :: _, [], hl, _ => by simp at hl
/-- from the walk on: what the display has made, and all that was there still is -/
theorem comp_from {elt iter : Expr} {x : Str} {px : Pos} {ifs : List Expr} {scope : Scope} {cl : List (Str × Addr)} {pos : Pos} {ρc : Loc} {l : List V} {p' : V → Bool} {g : V → V} {s₁ s₂ : Shared} {I : Addr} {fp : List Addr} {n : Nat} {P : Nat → Value → Prop} {W₀ : Nat → Heap → Prop} {RR : Value → Addr → Result → Shared → Prop} {E : Value → Shared → Prop}
    (SO : ScopeOk scope x) (hcap : Caps c ρ ρc scope cl) (ok : CompOk prog w c scope cl x ifs elt ρc l p' g)
    (S₂ : St prog w c ρ σ s₂) (Wk : Walks prog w c.A I fp [I] n P W₀) (hn : n = l.length) (hst : W₀ 0 s₂.heap) (hfp : ∀ b ∈ fp, b < s₂.heap.objs.size) (hI : Apart c I s₂.heap)
    (hP : ∀ i v, P i v → ∃ y, l[i]? = some y ∧ Rep s₂.heap v y) (hk₁ : ∀ b o, s₁.heap.get? b = some o → b ≠ I ∧ s₂.heap.get? b = some o)
    (K : ∀ D C h' tk m' ys k, s₁.heap.get? D = none → s₁.heap.get? C = none → D ≠ C → h'.Ns C m' → IsL h' D ys k → (∀ h, Reps h ys.toList ((l.filter p').map g)) → (∀ b o, s₁.heap.get? b = some o → h'.get? b = some o) → RR (.ref D) C (.ok .next) { s₂ with heap := h', toks := tk }) :
    wpAny (model prog w) c.A (newList []) (fun acc s₃ => wpAny (model prog w) c.A (newFunctionEnv scope c.env.globals cl [] c.env.qual none .none (some c.env)) (fun cenv s₄ =>
      codeAny (model prog w) c.A (.compStart (.ListComp elt [⟨.Name x px, iter, ifs, 0⟩] scope pos) 0 (.ref I) acc { cenv with scope := relabel scope c.env }) (RR acc cenv.locals) s₄)
      E s₃) E s₂ := by
  obtain ⟨p, hp⟩ := ok.test
  have hwr : ∀ b ∈ [I], Apart c b s₂.heap := fun b hb => by
    have : b = I := by simpa using hb
    subst this; exact hI
  have hq := quiet_of (wr := [I]) (P := P) (p := p) S₂ hcap SO.var hwr hP (fun v y r hy => hp _ v y r hy) ok.flat ok.tests ok.elts
  refine comp_block_walkC (RR := RR) Wk (hn ▸ ok.size) p _ SO.cell SO.kind SO.var hst hfp hq ?_
  intro D C h' tk m' ys vs hD hC hDC hns _ hpl hlen hPv hF hk
  obtain ⟨k, hL⟩ := hpl
  have hvs : Reps s₂.heap vs l := by
    exact reps_of_index (hlen.trans hn) fun i v hv => hP i v (hPv i v hv)
  refine K D C h' tk m' ys k ?_ ?_ hDC hns hL (fun h => paired_reps ok.pure hvs ok.pure (fun v y r hy => hp _ v y r hy) hF h) fun b o e => hk b o (by simpa using (hk₁ b o e).1) (hk₁ b o e).2
  · cases z : s₁.heap.get? D with
    | none => rfl
    | some o => have := (hk₁ _ _ z).2; rw [hD] at this; cases this
  · cases z : s₁.heap.get? C with
    | none => rfl
    | some o => have := (hk₁ _ _ z).2; rw [hC] at this; cases this
noncomputable def SrcOf (σ : AS) (v : V) (l : List V) : Prop := (∃ a, v = .obj a ∧ σ a = some (.list l)) ∨ v = .tup l
/-- the source is walked -/
theorem src_walk {v : V} {l : List V} {x : Value} {s₁ : Shared} (O : Ok T c d) (S₁ : St prog w c ρ σ s₁) (hs : SrcOf σ v l) (r : Rep s₁.heap x v) {Q : Value → Shared → Prop} {E : Value → Shared → Prop}
    (k : ∀ I ob fp P W₀ n, I = s₁.heap.objs.size → Walks prog w c.A I fp [I] n P W₀ → n = l.length → W₀ 0 (s₁.heap.push ob) → (∀ b ∈ fp, b < (s₁.heap.push ob).objs.size) → Apart c I (s₁.heap.push ob) →
      (∀ i v, P i v → ∃ y, l[i]? = some y ∧ Rep (s₁.heap.push ob) v y) → Q (.ref I) { s₁ with heap := s₁.heap.push ob }) : wpAny (model prog w) c.A (pyIter x) Q E s₁ := by
  have pick : ∀ (ob : Obj) (vs : Array Value), Reps s₁.heap vs.toList l → ∀ i v, vs[i]? = some v → ∃ y, l[i]? = some y ∧ Rep (s₁.heap.push ob) v y := fun ob vs hr i v hv => by
    have hi : i < l.length := by
      have := (Array.getElem?_eq_some_iff.mp hv).1
      have := hr.length
      simp at this; omega
    obtain ⟨v', hv', rv⟩ := hr.get (List.getElem?_eq_getElem hi)
    have : v' = v := by
      have h1 : vs[i]? = some v' := by simpa using hv'
      rw [hv] at h1; cases h1; rfl
    subst this
    exact ⟨_, List.getElem?_eq_getElem hi, rv.keep (tupKeep_of (push_keeps _ _))⟩
  rcases hs with ⟨a, rfl, hσ⟩ | rfl
  · cases r
    obtain ⟨vs, n, hl, hr⟩ := S₁.ob _ _ hσ
    have hlt : a < s₁.heap.objs.size := Heap.lt_size (show s₁.heap.get? a = some _ from hl)
    refine wpAny_pyIter_list hl.isList (k _ _ _ _ _ _ rfl (Walks.list O.handled s₁.heap.objs.size a (Nat.ne_of_lt hlt) vs) (by simpa using hr.length) ⟨⟨_, Heap.get?_push_size _ rfl, rfl, rfl⟩, (hl.push _).isList⟩ ?_ (apart_new S₁ (by simp)) (pick _ vs hr))
    intro b hb
    rw [Heap.size_push]
    simp at hb
    rcases hb with e | e
    · exact e ▸ Nat.lt_succ_self _
    · exact e ▸ Nat.lt_succ_of_lt hlt
  · cases r with
    | tup ht hr =>
    rename_i a vs
    have hlt : a < s₁.heap.objs.size := by obtain ⟨o, g, _⟩ := ht; exact Heap.lt_size g
    refine wpAny_pyIter_tuple ht (k _ _ _ _ _ _ rfl (Walks.tuple O.handled s₁.heap.objs.size a (Nat.ne_of_lt hlt) vs) (by simpa using hr.length) ⟨⟨_, Heap.get?_push_size _ rfl, rfl, rfl⟩, ht.push _⟩ ?_ (apart_new S₁ (by simp)) (pick _ vs hr))
    intro b hb
    rw [Heap.size_push]
    simp at hb
    rcases hb with e | e
    · exact e ▸ Nat.lt_succ_self _
    · exact e ▸ Nat.lt_succ_of_lt hlt
theorem ev_Comp {elt iter : Expr} {x : Str} {px : Pos} {ifs : List Expr} {scope : Scope} {cl : List (Str × Addr)} {pos : Pos} {ρc : Loc} {p' : V → Bool} {g : V → V} (O : Ok T c d)
    (SO : ScopeOk scope x) (hclos : closureFor scope c.env = pure cl) (hcap : Caps c ρ ρc scope cl)
    (h : EvP prog w c iter ρ σ fun v σ₁ => ∃ l, SrcOf σ₁ v l ∧ CompOk prog w c scope cl x ifs elt ρc l p' g ∧ ∀ D, σ₁ D = none → Φ (.obj D) (upd σ₁ D (.list ((l.filter p').map g))))
    (hs : ∀ x, foldedSetIterable iter c.env x = pure x := by intro _; rfl) : EvP prog w c (.ListComp elt [⟨.Name x px, iter, ifs, 0⟩] scope pos) ρ σ Φ := fun s S Q E q => by
  rw [eval_ListComp]
  refine wpAny_comprehension_free (use := none) rfl hs hclos SO.kind SO.names (h s S _ _ fun xv s₁ v σ₁ st₁ ho₁ r₁ ⟨l, src, ok, hΦ⟩ => ?_)
  have S₁ := S.step st₁ ho₁
  refine src_walk O S₁ src r₁ fun I ob fp P W₀ n hI Wk hn hst hfp hA hP => ?_
  refine comp_from (s₁ := s₁) SO hcap ok (S₁.step Step.push (ho₁.grow (push_keeps _ _))) Wk hn hst hfp hA hP (fun b o e => ⟨(fun z => by rw [z, hI, get_size] at e; cases e), push_keeps _ _ _ _ e⟩) ?_
  intro D C h' tk m' ys k hD hC hDC hns hL hr hk
  refine ⟨m', hns, fun h'' hs'' => ?_⟩
  have hk'' : ∀ b o, s₁.heap.get? b = some o → h''.get? b = some o := fun b o e => hs''.extBut b o (fun z => by rw [z, hC] at e; cases e) (hk b o e)
  have hL'' : IsL h'' D ys k := (hs''.2 D hDC).trans hL
  exact q _ _ (.obj D) (upd σ₁ D _) (st₁.trans (Step.new hk'' hD fun x => x)) (ho₁.new hk'' (show OAt prog w h'' D (.list ((l.filter p').map g)) from ⟨ys, k, hL'', hr h''⟩)) (.obj _) (hΦ D (ho₁.none_of hD))
theorem ex_AssignComp {elt iter : Expr} {x y : Str} {px py spos : Pos} {ifs : List Expr} {scope : Scope} {cl : List (Str × Addr)} {pos : Pos} {ρc : Loc} {p' : V → Bool} {g : V → V} (O : Ok T c d)
    (hL : c.env.locals = c.L) (hy : c.env.kindOf y = some .local)
    (SO : ScopeOk scope x) (hclos : closureFor scope c.env = pure cl) (hcap : Caps c ρ ρc scope cl)
    (hsw : swapsWith (.ListComp elt [⟨.Name x px, iter, ifs, 0⟩] scope pos) (some (.Name y py)) spos.line c.env = pure true)
    (h : EvP prog w c iter ρ σ fun v σ₁ => ∃ l, SrcOf σ₁ v l ∧ CompOk prog w c scope cl x ifs elt ρc l p' g ∧ ∀ D, σ₁ D = none → Ψ .next ((y, .obj D) :: ρ) (upd σ₁ D (.list ((l.filter p').map g))))
    (hs : ∀ x, foldedSetIterable iter c.env x = pure x := by intro _; rfl) : ExS prog w c (.Assign [.Name y py] (.ListComp elt [⟨.Name x px, iter, ifs, 0⟩] scope pos) spos) ρ σ Ψ := fun s S Q E q => by
  rw [exec_Assign_Name_used _ _ _ _ hsw]
  refine wpAny_bind (wpAny_standAt (wpAny_bind ?_))
  show wpAny _ _ (do let _ ← comprehension (.ListComp elt [⟨.Name x px, iter, ifs, 0⟩] scope pos) scope c.env _ (newList []) false (eval iter c.env) (some (assign (.Name y py) c.env))) _ _ s
  refine wpAny_bind (wpAny_mono (wpAny_comprehension_free (use := some (assign (.Name y py) c.env)) (Q := fun _ s' => Q .next s') rfl hs hclos SO.kind SO.names (h s S _ _ fun xv s₁ v σ₁ st₁ ho₁ r₁ ⟨l, src, ok, hΨ⟩ => ?_)) (fun _ s' hq => wpAny_pure (wpAny_pure hq)) fun _ _ e => e)
  have S₁ := S.step st₁ ho₁
  refine src_walk O S₁ src r₁ fun I ob fp P W₀ n hI Wk hn hst hfp hA hP => ?_
  refine comp_from (s₁ := s₁) SO hcap ok (S₁.step Step.push (ho₁.grow (push_keeps _ _))) Wk hn hst hfp hA hP (fun b o e => ⟨(fun z => by rw [z, hI, get_size] at e; cases e), push_keeps _ _ _ _ e⟩) ?_
  intro D C h' tk m' ys k hD hC hDC hns hLD hr hk
  have st₂ : Step NoX σ₁ s₁ (upd σ₁ D (.list ((l.filter p').map g))) { s₁ with heap := h', toks := tk } := Step.new hk hD fun x => x
  have ho₂ := ho₁.new hk (show OAt prog w h' D (.list ((l.filter p').map g)) from ⟨ys, k, hLD, hr h'⟩)
  have S₂ := S₁.step st₂ ho₂
  have hCl : C ≠ c.env.locals := fun z => by
    obtain ⟨m, o, _, _, g, _⟩ := S₁.nsx
    rw [z, g] at hC; cases hC
  have hσC : (upd σ₁ D (.list ((l.filter p').map g))) C = none := by
    unfold upd
    rw [if_neg (Ne.symm hDC)]
    exact ho₁.none_of hC
  show wpAny _ _ (assign (.Name y py) c.env (.ref D)) _ _ _
  refine wpAny_assign_Name (store_run S₂ hL O.kind hy (.obj D) fun h₃ st₃ S₃ => ?_)
  obtain ⟨oC, es, ep, gC, dC⟩ := hns
  have hCo : ¬ Own c C := fun z => by
    rcases z with z | ⟨x, z⟩
    · exact hCl z
    · obtain ⟨v, o, g, _⟩ := S₁.cellx x C z
      rw [g] at hC; cases hC
  have gC₃ := st₃.keep C oC gC hCo hσC
  refine ⟨m', ⟨oC, es, ep, gC₃, dC⟩, fun h₄ hs₄ => ?_⟩
  have stA := (st₁.some S).trans ((st₂.some S₁).trans st₃)
  have hCs : ∀ b o, s.heap.get? b = some o → σ b = none → b ≠ C := fun b o e hσ z => by
    have := st₁.keep b o e (fun x => x) hσ
    rw [z, hC] at this; cases this
  have AC : Apart c C h₃ := by
    refine ⟨fun z => ?_, hCl, fun x a ha z => ?_, ?_, fun vs t => ?_⟩
    · obtain ⟨m, F⟩ := S₁.fr
      obtain ⟨o, _, _, g, _⟩ := F.ns
      rw [z, g] at hC; cases hC
    · obtain ⟨v, o, g, _⟩ := S₁.cellx x a ha
      rw [← z, g] at hC; cases hC
    · cases z : c.h₀.get? C with
      | none => rfl
      | some o => obtain ⟨m, F⟩ := S₁.fr; have := F.keep _ _ z; rw [hC] at this; cases this
    · obtain ⟨o, g, hc, _, hd⟩ := t
      cases gC₃.symm.trans g
      rw [dC.1] at hd; cases hd
  have S₄ := S₃.tweak (t := tk + 1) AC hσC hs₄.extBut
  refine q .next _ .next _ _ ?_ S₄ .next (hΨ D (ho₁.none_of hD))
  obtain ⟨h5, t5, e5⟩ := stA.same
  refine ⟨⟨h₄, tk + 1, ?_⟩, fun b o e hx hσ => (hs₄.2 b (hCs b o e hσ)).trans (stA.keep b o e hx hσ), stA.dom⟩
  obtain ⟨h6, t6, e6⟩ := st₁.same
  rw [e6]
end Mine
end
section
open PySem PySem.W PySem.Calls PyProof.Rows PySem.Spec
set_option autoImplicit false
namespace Mine
variable {prog : Program} {w : World} {T : Tbl} {c : Cx} {d : Nat} {ρ : Loc} {σ σ' : AS} {s s' : Shared} {Φ : V → AS → Prop} {Ψ : Fl → Loc → AS → Prop}
noncomputable def cxFC (A : Around) (f : Str) (sc : Scope) (h₀ : Heap) (L a : Addr) (cd : Value) : Cx := ⟨A.deeper (envOfC f sc L a cd), envOfC f sc L a cd, h₀, L⟩
section
variable {K : Str → Option NameKind}
theorem bindL_off {x : Str} : ∀ {names : List Str} {xs : List Value} {m : Str → Option Value}, x ∉ names → bindL K (names.zip xs) m x = m x
  | [], _, _, _ => rfl
  | n :: names, [], _, _ => rfl
  | n :: names, v :: xs, m, h => by
    have h' : x ≠ n ∧ x ∉ names := ⟨fun e => h (e ▸ .head _), fun e => h (.tail _ e)⟩
    rw [List.zip_cons_cons, bindL, bindL_off h'.2]
    split
    · simp [h'.1]
    · rfl
theorem bindC_off {x : Str} : ∀ {names : List Str} {xs : List Value} {m : Str → Option Value}, x ∉ names → bindC K (names.zip xs) m x = m x
  | [], _, _, _ => rfl
  | n :: names, [], _, _ => rfl
  | n :: names, v :: xs, m, h => by
    have h' : x ≠ n ∧ x ∉ names := ⟨fun e => h (e ▸ .head _), fun e => h (.tail _ e)⟩
    rw [List.zip_cons_cons, bindC, bindC_off h'.2]
    split
    · rfl
    · simp [h'.1]
theorem bindL_on {x : Str} {v : Value} (hx : K x = some .local) : ∀ {names : List Str} {xs : List Value} {m : Str → Option Value}, names.Nodup → (names.zip xs).lookup x = some v → bindL K (names.zip xs) m x = some v
  | [], _, _, _, e => by cases e
  | n :: names, [], _, _, e => by cases e
  | n :: names, u :: xs, m, h, e => by
    have h' := List.nodup_cons.mp h
    rw [List.zip_cons_cons, List.lookup_cons] at e
    rw [List.zip_cons_cons, bindL]
    cases hb : x == n with
    | true =>
      rw [hb] at e; cases e
      have : x = n := by simpa using hb
      subst this
      rw [bindL_off h'.1, if_pos hx]; simp
    | false => rw [hb] at e; exact bindL_on hx h'.2 e
theorem bindC_on {x : Str} {v : Value} (hx : K x ≠ some .local) : ∀ {names : List Str} {xs : List Value} {m : Str → Option Value}, names.Nodup → (names.zip xs).lookup x = some v → bindC K (names.zip xs) m x = some v
  | [], _, _, _, e => by cases e
  | n :: names, [], _, _, e => by cases e
  | n :: names, u :: xs, m, h, e => by
    have h' := List.nodup_cons.mp h
    rw [List.zip_cons_cons, List.lookup_cons] at e
    rw [List.zip_cons_cons, bindC]
    cases hb : x == n with
    | true =>
      rw [hb] at e; cases e
      have : x = n := by simpa using hb
      subst this
      rw [bindC_off h'.1, if_neg hx]; simp
    | false => rw [hb] at e; exact bindC_on hx h'.2 e
end
theorem cells_some {x : Str} {names : List (Str × NameKind)} : ∀ {n : Nat} {acc : List (Str × Addr)}, (acc.lookup x).isSome = true ∨ names.lookup x = some .cell → ((cellsFrom n names acc).lookup x).isSome = true := by
  induction names with
  | nil => exact fun h => h.elim id nofun
  | cons p r ih =>
    intro n acc h
    obtain ⟨y, k⟩ := p
    have hne : ∀ {b : Addr}, ((acc.lookup x).isSome = true ∨ x = y) → (((y, b) :: acc).lookup x).isSome = true := fun {b} q => by
      rw [List.lookup_cons]
      cases e : x == y with
      | true => rfl
      | false => exact q.elim id fun z => by rw [z] at e; simp at e
    rw [List.lookup_cons] at h
    unfold cellsFrom
    split
    · refine ih ?_
      rcases h with h | h
      · exact .inl (hne (.inl h))
      · cases e : x == y with
        | true => exact .inl (hne (.inr (by simpa using e)))
        | false => rw [e] at h; exact .inr h
    · rename_i hk
      refine ih (h.imp id fun h => ?_)
      cases e : x == y with
      | true => rw [e] at h; cases h; exact absurd rfl hk
      | false => rw [e] at h; exact h
theorem kinds_of {scope : Scope} {binds : List (Str × Value)} (e : (binds.all fun y => scope.names.lookup y.1 == some .local || scope.names.lookup y.1 == some .cell) = true) (n : Nat) :
    ∀ x ∈ binds, scope.names.lookup x.1 = some .local ∨ (scope.names.lookup x.1 = some .cell ∧ ((cellsFrom n scope.names []).lookup x.1).isSome = true) := by
  intro x hx
  have := List.all_eq_true.mp e x hx
  rw [Bool.or_eq_true, beq_iff_eq, beq_iff_eq] at this
  exact this.imp id fun q => ⟨q, cells_some (.inr q)⟩
theorem con_defC {f : Str} {r : FnRec} {names : List Str} {vs : List V} (hlen : names.length = vs.length) (hnd : names.Nodup)
    (hb : ∀ pm code doc xs, xs.length = names.length → bindArgs (docDef f r.params r.body r.scope pm code doc) ⟨xs, []⟩ = pure (names.zip xs))
    (hkind : ∀ xs : List Value, ((names.zip xs).all fun y => r.scope.names.lookup y.1 == some .local || r.scope.names.lookup y.1 == some .cell) = true)
    (hco : r.scope.isCoroutine = false) (hgen : r.scope.isGenerator = false) (hk : r.scope.kind = .function)
    (h : ∀ A h₀ L a cd, Ok T (cxFC A f r.scope h₀ L a cd) d → ExP prog w (cxFC A f r.scope h₀ L a cd) r.body (names.zip vs) σ fun fl _ σ₁ => ∃ σ₂, Sub σ₂ σ₁ ∧ Φ fl.val σ₂) :
    Con prog w T (d + 1) f r vs σ Φ := by
  intro c O s F a hf xs rx Q E q
  obtain ⟨A₀, base, fenv, outer, B, hA, hfr, hke⟩ := O.stack
  obtain ⟨m, Fr0⟩ := F.fr
  obtain ⟨o, pm, code, doc, ho, hd, hcd⟩ := F.fn hf
  have hxl : xs.length = names.length := by rw [hlen, rx.length]
  have room := O.room
  have units := O.units
  refine wpAny_call ?_
  have hN := full_news c.h₀ c.L s.heap
  obtain ⟨FG, BG, stays, lv⟩ := groundX (R := fun r s' => match r with | .ok (.ret v) => Q v s' | .ok _ => False | .error e => E e s') B Fr0 hN hA hfr hke
  have noneG : ∀ b, b ≠ c.L → c.h₀.get? b = none → (hideAll s.heap ((full c.h₀ c.L s.heap).map (·.1))).get? b = none := fun b h1 h2 => by
    cases e : s.heap.get? b with
    | none =>
      cases e' : (hideAll s.heap ((full c.h₀ c.L s.heap).map (·.1))).get? b with
      | none => rfl
      | some o => rw [of_hideAll _ e'] at e; cases e
    | some o => exact hideAll_none _ (List.mem_map.mpr ⟨(b, o), mem_full.mpr ⟨e, h1, h2⟩, rfl⟩)
  have sizeG := hideAll_size ((full c.h₀ c.L s.heap).map (·.1)) s.heap
  have ofG : ∀ b o, (hideAll s.heap ((full c.h₀ c.L s.heap).map (·.1))).get? b = some o → s.heap.get? b = some o := fun b o e => of_hideAll _ e
  generalize hideAll s.heap ((full c.h₀ c.L s.heap).map (·.1)) = g at *
  refine codeAny_call_function (fd := docDef f r.params r.body r.scope pm code doc) (body := r.body) (by omega) ho hd hco hgen rfl hcd ((BindsTo.of_eq (s := s) (hb _ _ _ _ hxl)) _ _ _ _ ?_)
  refine wpAny_newFunctionEnv_cells hk (kinds_of (hkind xs) _) fun env' he s' x => ?_
  have he' : env' = envOfC f r.scope s.heap.objs.size a code := he
  clear he
  subst he'
  have keepx := x.toInCall.keep
  refine ⟨(O.gl.nolimit.keeps Fr0.keep).keeps keepx, codeAny_func ?_⟩
  obtain ⟨h₁, tk₁, rfl, keep₁⟩ := x.done
  have hO : Ok T (cxFC c.A f r.scope g s.heap.objs.size a code) d := by
    refine ⟨⟨c.A, base, envOfC f r.scope s.heap.objs.size a code, fenv :: outer, BG, Around.frames_deeper hA, rfl, hk⟩, O.gl.keeps stays, hk, rfl, rfl, O.handled, ?_, ?_⟩
    · show c.A.depth + 1 + d < _; omega
    · show c.A.units + 3 + 4 * d + 100 < _; omega
  have tk : TupKeep s.heap h₁ := tupKeep_of keep₁
  have hLσ : ∀ b, s.heap.objs.size ≤ b → σ b = none := fun b hb => F.ob.none_of (by
    cases z : s.heap.get? b with
    | none => rfl
    | some o => exact absurd (Heap.lt_size z) (Nat.not_lt.mpr hb))
  have hcell : ∀ y b, (envOfC f r.scope s.heap.objs.size a code).cells.lookup y = some b → s.heap.objs.size < b := fun y b e => by
    obtain ⟨l1, l2, h1, h2⟩ := List.lookup_eq_some_iff.mp e
    exact x.above y b (by rw [h1]; simp)
  have S : St prog w (cxFC c.A f r.scope g s.heap.objs.size a code) (names.zip vs) σ { s with heap := h₁, toks := tk₁ } := by
    refine ⟨⟨⟨_, ⟨x.toInCall.ns, fun b o e => keep₁ _ _ (ofG _ _ e), Nat.le_of_eq sizeG⟩⟩, F.ob.grow keep₁, fun b hb => ⟨fun e => ?_, noneG b (F.sep b hb).1 (F.sep b hb).2⟩⟩, fun z v e => ?_, ⟨_, x.toInCall.ns⟩, fun y b e => ⟨_, x.cell y b e⟩, hLσ _ (Nat.le_refl _), fun y b e => hLσ b (Nat.le_of_lt (hcell y b e))⟩
    · rw [show b = s.heap.objs.size from e] at hb; exact hb (hLσ _ (Nat.le_refl _))
    · obtain ⟨val, e', rv⟩ := lookup_zip rx e
      refine ⟨val, ?_, rv.keep tk⟩
      have hz : (z, val) ∈ names.zip xs := by
        obtain ⟨l1, l2, h1, h2⟩ := List.lookup_eq_some_iff.mp e'
        rw [h1]; simp
      rcases kinds_of (hkind xs) (s.heap.objs.size + 1) _ hz with hl | ⟨hc, hs⟩
      · exact .inl ⟨hl, _, x.toInCall.ns, bindL_on hl hnd e'⟩
      · obtain ⟨b, hb'⟩ := Option.isSome_iff_exists.mp hs
        have := x.cell z b hb'
        rw [bindC_on (by show r.scope.names.lookup z ≠ _; rw [hc]; simp) hnd e'] at this
        exact .inr ⟨.inl hc, b, hb', this⟩
  refine wpAny_mono (h c.A g s.heap.objs.size a code hO _ S (fun fl s' => LeaveK c.h₀ c.L m g _ (match fl with | .ret v => v | _ => .none) s') (fun _ _ => False) ?_) (fun fl s' z => lv _ _ z) (fun _ _ z => z.elim)
  intro fl s₂ fa ρ₂ σ₁ st₂ S₂ r₂ ⟨σ₂, hsub, hΦ⟩
  obtain ⟨m₂, F₂⟩ := S₂.fr
  refine ⟨s.heap.objs.size, m₂, full g s.heap.objs.size s₂.heap, F₂, full_news _ _ _, fun Fback Nback => ?_⟩
  have S₃ := S₂.less (ρ' := []) (σ₀ := σ₂) (fun _ _ e => by cases e) hsub
  refine q _ s₂ fa.val σ₂ ⟨?_, fun b o e _ hσ => ?_, fun b hb => ?_⟩ S₃.ob ?_ hΦ
  · obtain ⟨h', t', e⟩ := st₂.same
    exact ⟨h', t', by rw [e]⟩
  · refine st₂.keep b o (keep₁ _ _ e) (fun z => ?_) hσ
    rcases z with z | ⟨y, z⟩
    · rw [show b = s.heap.objs.size from z, get_size] at e; cases e
    · exact absurd (Heap.lt_size e) (Nat.not_lt.mpr (Nat.le_of_lt (hcell y b z)))
  · have := st₂.dom b (by
      cases e : σ₂ b with
      | none => exact absurd e hb
      | some o => rw [hsub _ _ e]; simp)
    rcases this with z | ⟨z, z'⟩
    · exact .inl z
    · cases e : s.heap.get? b with
      | none => exact .inr ⟨rfl, fun x => x⟩
      | some o => rw [show Heap.get? _ b = some o from keep₁ _ _ e] at z; cases z
  · cases r₂ with
    | next => exact .none
    | brk => exact .none
    | cont => exact .none
    | ret r => exact r
/-- a name that its function keeps in a cell is stored -/
theorem ex_AssignCell {x : Str} {p pos : Pos} {value : Expr} (hk : c.env.scope.kind = .function) (hx : c.env.kindOf x = some .cell) (hL : c.env.locals = c.L) (ha : ∃ a, c.env.cells.lookup x = some a ∧ c.L < a) (hap : ∀ y z a, c.env.cells.lookup y = some a → c.env.cells.lookup z = some a → y = z)
    (h : EvP prog w c value ρ σ fun v σ₁ => Ψ .next ((x, v) :: ρ) σ₁) (hs : swapsWith value (some (.Name x p)) pos.line c.env = pure false := by rfl) : ExS prog w c (.Assign [.Name x p] value pos) ρ σ Ψ := fun s S Q E q =>
  wpAny_Assign_Name (h s S _ _ fun val s₁ v σ₁ st ho r hv => by
    have S₁ := S.step st ho
    obtain ⟨a, ha, hlt⟩ := ha
    obtain ⟨v₀, hc⟩ := S₁.cellx x a ha
    refine wpAny_storeName_cell hk hx ha hc fun h' hc' hs' => ?_
    have tk : TupKeep s₁.heap h' := fun b vs t => by
      have hne : b ≠ a := fun e => own_notTup S₁ (.inr ⟨x, e ▸ ha⟩) vs t
      obtain ⟨o, g, r⟩ := t
      exact ⟨o, (hs'.2 b hne).trans g, r⟩
    obtain ⟨m, F⟩ := S₁.fr
    have hσa : σ₁ a = none := S₁.sepC x a ha
    have hnL : a ≠ c.env.locals := fun e => by
      obtain ⟨m, o, es, ep, g, hd, _⟩ := S₁.nsx
      obtain ⟨o', g', hd'⟩ := hc
      rw [e] at g'
      cases g.symm.trans g'
      rw [hd] at hd'; cases hd'
    have hbase : c.h₀.get? a = none := by
      cases z : c.h₀.get? a with
      | none => rfl
      | some o => exact absurd (Heap.lt_size z) (Nat.not_lt.mpr (Nat.le_trans F.above (Nat.le_of_lt hlt)))
    refine q .next _ .next ((x, v) :: ρ) σ₁ ((st.some S).trans ⟨⟨h', s₁.toks, rfl⟩, fun b o e hx _ => (hs'.2 b fun z => hx (.inr ⟨x, z ▸ ha⟩)).trans e, fun b e => .inl e⟩) ?_ .next hv
    refine ⟨⟨⟨m, Fr.of_keep F fun b o e hb => (hs'.2 b fun z => ?_).trans e⟩, fun b o e => (S₁.ob b o e).keep tk fun ob g => (hs'.2 b fun z => ?_).trans g, S₁.sep⟩, fun y u e => ?_, ?_, fun y b e => ?_, S₁.sepN, S₁.sepC⟩
    · subst z
      rcases hb with hb | hb
      · exact hnL (hb.trans hL.symm)
      · exact hb hbase
    · subst z; rw [hσa] at e; cases e
    · rw [List.lookup_cons] at e
      cases hb : y == x with
      | true =>
        rw [hb] at e
        cases e
        have : y = x := by simpa using hb
        subst this
        exact ⟨val, .inr ⟨.inl hx, a, ha, hc'⟩, r.keep tk⟩
      | false =>
        rw [hb] at e
        obtain ⟨val', n, r'⟩ := S₁.names y u e
        refine ⟨val', ?_, r'.keep tk⟩
        rcases n with ⟨k, m', ⟨o, es, ep, g, rr⟩, hm⟩ | ⟨k, b, hb', o, g, hd⟩
        · exact .inl ⟨k, m', ⟨o, es, ep, (hs'.2 _ (Ne.symm hnL)).trans g, rr⟩, hm⟩
        · refine .inr ⟨k, b, hb', o, (hs'.2 b fun z => ?_).trans g, hd⟩
          subst z
          have := hap y x b hb' ha
          rw [this] at hb; simp at hb
    · obtain ⟨m', o, es, ep, g, rr⟩ := S₁.nsx
      exact ⟨m', o, es, ep, (hs'.2 _ (Ne.symm hnL)).trans g, rr⟩
    · by_cases hb : b = a
      · subst hb; exact ⟨_, hc'⟩
      · obtain ⟨v', o, g, hd⟩ := S₁.cellx y b e
        exact ⟨v', o, (hs'.2 b hb).trans g, hd⟩) hs
theorem walks_bound {A : Around} {I : Addr} {fp wr : List Addr} {n : Nat} {P : Nat → Value → Prop} {W₀ : Nat → Heap → Prop} (W : Walks prog w A I fp wr n P W₀) : Walks prog w A I fp wr n (fun i v => i < n ∧ P i v) W₀ where
  sub := W.sub
  frame := W.frame
  item := fun i s Q E hi st hQ => W.item i s Q E hi st fun v h' tk hp => hQ v h' tk ⟨hi, hp⟩
  done := W.done
  self := W.self
/-- a comprehension over range(n) -/
theorem ev_CompRange {elt e : Expr} {x : Str} {px np rp : Pos} {ifs : List Expr} {scope : Scope} {cl : List (Str × Addr)} {pos : Pos} {ρc : Loc} {p' : V → Bool} {g : V → V} (O : Ok T c d)
    (ht : T.lookup ("range" : Str) = some (.blt (.type "range"))) (hr : c.env.kindOf ("range" : Str) = some .globalImplicit)
    (SO : ScopeOk scope x) (hclos : closureFor scope c.env = pure cl) (hcap : Caps c ρ ρc scope cl)
    (h : EvP prog w c e ρ σ fun v σ₁ => ∃ N : Nat, v = .int N ∧ N < 1000000 ∧ CompOk prog w c scope cl x ifs elt ρc ((List.range N).map fun (i : Nat) => V.int i) p' g ∧
      ∀ D, σ₁ D = none → Φ (.obj D) (upd σ₁ D (.list ((((List.range N).map fun (i : Nat) => V.int i).filter p').map g))))
    (hn : noStar [e] = true := by rfl)
    (hs : ∀ x, foldedSetIterable (.Call (.Name ("range" : Str) np) [e] [] rp) c.env x = pure x := by intro _; rfl) :
    EvP prog w c (.ListComp elt [⟨.Name x px, .Call (.Name ("range" : Str) np) [e] [] rp, ifs, 0⟩] scope pos) ρ σ Φ := fun s S Q E q => by
  rw [eval_ListComp]
  refine wpAny_comprehension_free (use := none) rfl hs hclos SO.kind SO.names ?_
  obtain ⟨mg, mb, g1, g2, hm, hb⟩ := glob_at O S.toFS ht
  refine wpAny_Call_NameR (Name_function_global O.kind hr (loadGlobal_builtin (O.glob ▸ g1) hm (O.blts ▸ g2) hb ?_) (by decide))
  refine callWith_run hn (keep_type "range") (evL_one hn h s S rp _ _ fun xs s₁ vs σ₁ st₁ ho₁ r₁ h₁ => ⟨trivial, ?_⟩)
  obtain ⟨v, rfl, N, rfl, hN, ok, hΦ⟩ := h₁
  obtain ⟨xv, rfl, r2⟩ := r₁.one
  cases r2 with
  | int _ t =>
  have S₁ := S.step st₁ ho₁
  refine call_range_1 ?_
  generalize hs₂ : ({ s₁ with heap := s₁.heap.push { cls := .type "range", data := .fields #[.int 0 s₁.toks, .int N t, .int 1 (s₁.toks + 1)] }, toks := s₁.toks + 1 + 1 } : Shared) = s₂
  have hr₂ : IsRange s₂.heap s₁.heap.objs.size 0 N 1 s₁.toks t (s₁.toks + 1) := by subst hs₂; exact Heap.get?_push_size _ rfl
  have st₂ : Step NoX σ₁ s₁ σ₁ s₂ := by subst hs₂; exact ⟨⟨_, _, rfl⟩, fun b o e _ _ => push_keeps _ _ _ _ e, fun b e => .inl e⟩
  have ho₂ : Ob prog w σ₁ s₂.heap := by subst hs₂; exact ho₁.grow (push_keeps _ _)
  have S₂ := S₁.step st₂ ho₂
  have stA := st₁.trans st₂
  clear hs₂
  refine wpAny_pyIter_range hr₂ (by rw [Builtin.Range.small, rangeSize_up]; simp [Builtin.Range.rangeFitsLong]; omega) ?_
  rw [rangeSize_up]
  have A₃ := apart_new (ob := { cls := .type "range_iterator", data := .fields #[rawInt 0, rawInt N, rawInt 1] }) S₂ (by simp)
  refine comp_from (s₁ := s₂) SO hcap ok (S₂.step Step.push (ho₂.grow (push_keeps _ _))) (walks_bound (Walks.range O.handled s₂.heap.objs.size 0 1 N)) (by simp) (by simpa using (Heap.get?_push_size s₂.heap rfl)) ?_ A₃ ?_ (fun b o e => ⟨(fun z => by rw [z, get_size] at e; cases e), push_keeps _ _ _ _ e⟩) ?_
  · intro b hb
    have : b = s₂.heap.objs.size := by simpa using hb
    rw [this]
    show _ < (s₂.heap.push _).objs.size
    rw [Heap.size_push]; exact Nat.lt_succ_self _
  · rintro i v ⟨hi, t', rfl⟩
    refine ⟨.int i, by simp [hi], ?_⟩
    rw [show (0 : Int) + (i : Int) * 1 = i from by omega]
    exact .int _ _
  intro D C h' tk m' ys k hD hC hDC hns hL hr hk
  refine ⟨m', hns, fun h'' hs'' => ?_⟩
  have hk'' : ∀ b o, s₂.heap.get? b = some o → h''.get? b = some o := fun b o e => hs''.extBut b o (fun z => by rw [z, hC] at e; cases e) (hk b o e)
  have hL'' : IsL h'' D ys k := (hs''.2 D hDC).trans hL
  exact q _ _ (.obj D) (upd σ₁ D _) (stA.trans (Step.new hk'' hD fun x => x)) (ho₂.new hk'' (show OAt prog w h'' D (.list _) from ⟨ys, k, hL'', hr h''⟩)) (.obj _) (hΦ D (ho₂.none_of hD))
end Mine
end
section
open PySem PySem.W PySem.Calls PyProof.Rows PySem.Spec
set_option autoImplicit false
namespace Mine
noncomputable def S (l : List Nat) : Str := ⟨l.toArray⟩
theorem S_append (a b : List Nat) : S a ++ S b = S (a ++ b) := by
  show Str.append _ _ = _
  simp [Str.append, S]
theorem S_length (a : List Nat) : (S a).length = a.length := by simp [Str.length, S]
theorem S_list (a : List Nat) : (S a).cps.toList = a := by simp [S]
theorem S_inj {a b : List Nat} (h : S a = S b) : a = b := by
  have := congrArg (fun x => x.cps.toList) h
  simpa [S] using this
/-- the signs between two nodes, in the law's order -/
inductive Sg where
  | plus | minus | amp | dot | pp | dom | ran | eq | in_ | nin | le | and_ | or_ | imp | iff
/-- the signs ahead of a node, in the law's order -/
inductive Up where
  | bang | some_ | no_ | hash | tilde | caret
noncomputable def Sg.cps : Sg → List Nat
  | .plus => [43] | .minus => [45] | .amp => [38] | .dot => [46] | .pp => [43, 43] | .dom => [60, 58] | .ran => [58, 62]
  | .eq => [61] | .in_ => [105, 110] | .nin => [33, 105, 110] | .le => [60, 61] | .and_ => [38, 38] | .or_ => [124, 124]
  | .imp => [61, 62] | .iff => [60, 61, 62]
noncomputable def Sg.lev : Sg → Nat
  | .plus => 8 | .minus => 8 | .amp => 11 | .dot => 16 | .pp => 10 | .dom => 13 | .ran => 14
  | .eq => 6 | .in_ => 6 | .nin => 6 | .le => 6 | .and_ => 4 | .or_ => 1 | .imp => 3 | .iff => 2
noncomputable def Sg.left : Sg → Nat
  | .plus => 8 | .minus => 8 | .amp => 11 | .dot => 15 | .pp => 10 | .dom => 13 | .ran => 14
  | .eq => 7 | .in_ => 7 | .nin => 7 | .le => 7 | .and_ => 4 | .or_ => 1 | .imp => 4 | .iff => 2
noncomputable def Sg.right : Sg → Nat
  | .imp => 3
  | s => s.lev + 1
noncomputable def Up.cps : Up → List Nat
  | .bang => [33] | .some_ => [115, 111, 109, 101] | .no_ => [110, 111] | .hash => [35] | .tilde => [126] | .caret => [94]
noncomputable def Up.lev : Up → Nat
  | .bang => 5 | .some_ => 7 | .no_ => 7 | .hash => 9 | .tilde => 17 | .caret => 17
noncomputable def Sg.all : List Sg := [.plus, .minus, .amp, .dot, .pp, .dom, .ran, .eq, .in_, .nin, .le, .and_, .or_, .imp, .iff]
noncomputable def Up.all : List Up := [.bang, .some_, .no_, .hash, .tilde, .caret]
noncomputable def Sg.str (s : Sg) : Str := S s.cps
noncomputable def Up.str (u : Up) : Str := S u.cps
/-- a node, or a row of nodes (nil, cons) -/
inductive N where
  | name (b : Bool)
  | num (k : Fin 3)
  | univ
  | un (u : Up) (x : N)
  | bin (s : Sg) (l r : N)
  | arrow (l r : N)
  | box (b a : N)
  | ite (c t e : N)
  | nil
  | cons (x xs : N)
inductive Tok where
  | sg (s : Sg)
  | up (u : Up)
  | arrow | lp | rp | lb | rb | comma | els
  | nm (b : Bool)
  | univ
  | num (k : Fin 3)
noncomputable def nmCps (b : Bool) : List Nat := if b then [98] else [97]
noncomputable def Tok.cps : Tok → List Nat
  | .sg s => s.cps
  | .up u => u.cps
  | .arrow => [45, 62]
  | .lp => [40] | .rp => [41] | .lb => [91] | .rb => [93] | .comma => [44]
  | .els => [101, 108, 115, 101]
  | .nm b => nmCps b
  | .univ => [117, 110, 105, 118]
  | .num k => [49, 48 + k.val]
noncomputable def Tok.str (t : Tok) : Str := S t.cps
noncomputable def N.lev : N → Nat
  | .un u _ => u.lev
  | .bin s _ _ => s.lev
  | .arrow _ _ => 12
  | .box _ _ => 15
  | .ite _ _ _ => 3
  | _ => 18
/-- the pieces of a text: words, and `none` for a blank -/
noncomputable abbrev Pcs := List (Option Tok)
noncomputable def par (k : Nat) (x : N) (p : Pcs) : Pcs := if k ≤ x.lev then p else some .lp :: (p ++ [some .rp])
noncomputable def gapU : Up → Pcs
  | .some_ => [none]
  | .no_ => [none]
  | _ => []
noncomputable def gapS : Sg → Pcs
  | .dot => []
  | _ => [none]
noncomputable def sepc (xs : N) (p : Pcs) : Pcs := match xs with
  | .nil => []
  | _ => some .comma :: none :: p
noncomputable def pcs : N → Pcs
  | .name b => [some (.nm b)]
  | .num k => [some (.num k)]
  | .univ => [some .univ]
  | .un u x => some (.up u) :: (gapU u ++ par u.lev x (pcs x))
  | .bin s l r => par s.left l (pcs l) ++ (gapS s ++ (some (.sg s) :: (gapS s ++ par s.right r (pcs r))))
  | .arrow l r => par 12 l (pcs l) ++ (none :: some .arrow :: none :: par 13 r (pcs r))
  | .box b a => par 15 b (pcs b) ++ (some .lb :: (pcs a ++ [some .rb]))
  | .ite c t e => par 4 c (pcs c) ++ (none :: some (.sg .imp) :: none :: (par 4 t (pcs t) ++ (none :: some .els :: none :: par 3 e (pcs e))))
  | .nil => []
  | .cons x xs => pcs x ++ sepc xs (pcs xs)
noncomputable def pcps : Option Tok → List Nat
  | none => [32]
  | some t => t.cps
noncomputable def render (p : Pcs) : List Nat := p.flatMap pcps
noncomputable def toksOf (p : Pcs) : List Tok := p.filterMap id
noncomputable def text (t : N) : List Nat := render (pcs t)
noncomputable def toks (t : N) : List Tok := toksOf (pcs t)
noncomputable def untup : V → List V
  | .tup l => l
  | _ => []
noncomputable def val : N → V
  | .name b => .tup [.str "name", .int 0, .str (S (nmCps b))]
  | .num k => .tup [.str "num", .int 0, .int (10 + k.val)]
  | .univ => .tup [.str "univ", .int 0]
  | .un u x => .tup [.str "un", .int 0, .str u.str, val x]
  | .bin s l r => .tup [.str "bin", .int 0, .str s.str, val l, val r]
  | .arrow l r => .tup [.str "arrow", .int 0, .str "", .str "", val l, val r]
  | .box b a => .tup [.str "box", .int 0, val b, val a]
  | .ite c t e => .tup [.str "if", .int 0, val c, val t, val e]
  | .nil => .tup []
  | .cons x xs => .tup (val x :: untup (val xs))
/-- a row of nodes -/
noncomputable def row : N → List N
  | .cons x xs => x :: row xs
  | _ => []
/-- what the law's maker makes -/
inductive Gen : Nat → N → Prop
  | name {k} (b) : Gen k (.name b)
  | num {k} (i) : Gen k (.num i)
  | univ {k} : Gen k .univ
  | un {k x} (u) : Gen k x → Gen (k + 1) (.un u x)
  | bin {k l r} (s) : Gen k l → Gen k r → Gen (k + 1) (.bin s l r)
  | arrow {k l r} : Gen k l → Gen k r → Gen (k + 1) (.arrow l r)
  | box1 {k b x} : Gen k b → Gen k x → Gen (k + 1) (.box b (.cons x .nil))
  | box2 {k b x y} : Gen k b → Gen k x → Gen k y → Gen (k + 1) (.box b (.cons x (.cons y .nil)))
  | ite {k c t e} : Gen k c → Gen k t → Gen k e → Gen (k + 1) (.ite c t e)
/-! the reader -/
noncomputable def Tok.lev : Tok → Option Nat
  | .lb => some 15
  | .arrow => some 12
  | .sg s => some s.lev
  | _ => none
mutual
noncomputable def operand : Nat → List Tok → Nat → Option (N × Nat × List Tok)
  | 0, _, _ => none
  | _ + 1, [], _ => none
  | f + 1, t :: r, least => match t with
    | .up u => if least ≤ u.lev then match told f r u.lev with
        | some (x, _, r') => some (.un u x, u.lev, r')
        | none => none
      else none
    | .lp => match told f r 0 with
      | some (x, _, .rp :: r') => some (x, 18, r')
      | _ => none
    | .univ => some (.univ, 18, r)
    | .num k => some (.num k, 18, r)
    | .nm b => some (.name b, 18, r)
    | _ => none
noncomputable def told : Nat → List Tok → Nat → Option (N × Nat × List Tok)
  | 0, _, _ => none
  | f + 1, s, least => match operand f s least with
    | some (x, lev, r) => loop f x lev r least
    | none => none
noncomputable def loop : Nat → N → Nat → List Tok → Nat → Option (N × Nat × List Tok)
  | 0, _, _, _, _ => none
  | _ + 1, x, lev, [], _ => some (x, lev, [])
  | f + 1, x, lev, t :: r, least => match t.lev with
    | none => some (x, lev, t :: r)
    | some L => if L < least then some (x, lev, t :: r) else if L = 6 ∧ lev = 6 then none else
      match behind f x t L r with
      | some (x', lev', r') => loop f x' lev' r' least
      | none => none
noncomputable def behind : Nat → N → Tok → Nat → List Tok → Option (N × Nat × List Tok)
  | 0, _, _, _, _ => none
  | f + 1, x, t, L, r => match t with
    | .lb => match args f r with
      | some (a, r') => some (.box x a, 15, r')
      | none => none
    | .arrow => match told f r (L + 1) with
      | some (y, _, r') => some (.arrow x y, L, r')
      | none => none
    | .sg .imp => match told f r 3 with
      | some (y, l, r') => if l = 3 then some (.bin .imp x y, L, r') else match r' with
        | .els :: r'' => match told f r'' 3 with
          | some (z, _, r3) => some (.ite x y z, 3, r3)
          | none => none
        | _ => some (.bin .imp x y, L, r')
      | none => none
    | .sg s => match told f r (L + 1) with
      | some (y, _, r') => some (.bin s x y, L, r')
      | none => none
    | _ => none
noncomputable def args : Nat → List Tok → Option (N × List Tok)
  | 0, _ => none
  | f + 1, s => match told f s 0 with
    | some (x, _, .comma :: r) => match args f r with
      | some (a, r') => some (.cons x a, r')
      | none => none
    | some (x, _, .rb :: r) => some (.cons x .nil, r)
    | _ => none
end
noncomputable def fuel (s : List Tok) : Nat := 4 * s.length + 4
noncomputable def readt (s : List Tok) : Option N := match told (fuel s) s 0 with
  | some (x, _, []) => some x
  | _ => none
end Mine
end
section
open PySem PySem.W PySem.Calls PyProof.Rows PySem.Spec
set_option autoImplicit false
namespace Mine
/-- a function of the text, by its place -/
noncomputable def fnI (i : Nat) : FnRec := match PySem.Challenge.pw_nz0382_01.main.body.getD i (.Pass ⟨0, 0, 0, 0⟩) with
  | .FunctionDef _ args body _ _ _ scope _ _ _ => ⟨args, body, scope⟩
  | _ => ⟨⟨[], [], none, [], [], none, []⟩, [], ⟨.function, [], false, false, []⟩⟩
noncomputable def tF (x : Str) (i : Nat) : Str × GV := (x, .fn (fnI i))
noncomputable def tV (x : Str) (v : V) : Str × GV := (x, .val v)
noncomputable def tB (x : Str) (v : Value) : Str × GV := (x, .blt v)
noncomputable def TT : Tbl := [tF "level_of_two" 9, tF "level_of_one" 10, tF "level_of" 11, tF "put" 12, tF "two_text" 13,
  tF "one_text" 14, tF "arrow_text" 15, tF "node_text" 20, tF "_law_between" 22, tF "_law_ahead" 23,
  tF "_law_signs" 24, tF "_law_tokens" 25, tF "_law_draw" 26, tF "_law_node" 27, tF "_law_word_at" 28,
  tF "_law_words" 29, tF "_law_operand" 30, tF "_law_arguments" 31, tF "_law_behind" 32, tF "_law_told" 33,
  tF "_law_read" 34, tF "_law_pairs" 35,
  tV "MULTS" (.tup [.str "some", .str "no", .str "lone", .str "one", .str "set"]), tV "LOOSE" (.int 0), tV "ARROW" (.int 3), tV "COMPARED" (.int 6),
  tV "MULT" (.int 7), tV "TIMES" (.int 12), tV "BOX" (.int 15), tV "WHOLE" (.int 18),
  tB "len" (.builtin "len"), tB "abs" (.builtin "abs"), tB "sum" (.builtin "sum"), tB "range" (.type "range"), tB "str" (.type "str"),
  tB "tuple" (.type "tuple"), tB "int" (.type "int")]
theorem tf_level_of_two : TT.lookup ("level_of_two" : Str) = some (.fn (fnI 9)) := by kernel_rfl
theorem tf_level_of_one : TT.lookup ("level_of_one" : Str) = some (.fn (fnI 10)) := by kernel_rfl
theorem tf_level_of : TT.lookup ("level_of" : Str) = some (.fn (fnI 11)) := by kernel_rfl
theorem tf_put : TT.lookup ("put" : Str) = some (.fn (fnI 12)) := by kernel_rfl
theorem tf_two_text : TT.lookup ("two_text" : Str) = some (.fn (fnI 13)) := by kernel_rfl
theorem tf_one_text : TT.lookup ("one_text" : Str) = some (.fn (fnI 14)) := by kernel_rfl
theorem tf_arrow_text : TT.lookup ("arrow_text" : Str) = some (.fn (fnI 15)) := by kernel_rfl
theorem tf_node_text : TT.lookup ("node_text" : Str) = some (.fn (fnI 20)) := by kernel_rfl
theorem tf_law_between : TT.lookup ("_law_between" : Str) = some (.fn (fnI 22)) := by kernel_rfl
theorem tf_law_ahead : TT.lookup ("_law_ahead" : Str) = some (.fn (fnI 23)) := by kernel_rfl
theorem tf_law_signs : TT.lookup ("_law_signs" : Str) = some (.fn (fnI 24)) := by kernel_rfl
theorem tf_law_tokens : TT.lookup ("_law_tokens" : Str) = some (.fn (fnI 25)) := by kernel_rfl
theorem tf_law_draw : TT.lookup ("_law_draw" : Str) = some (.fn (fnI 26)) := by kernel_rfl
theorem tf_law_node : TT.lookup ("_law_node" : Str) = some (.fn (fnI 27)) := by kernel_rfl
theorem tf_law_word_at : TT.lookup ("_law_word_at" : Str) = some (.fn (fnI 28)) := by kernel_rfl
theorem tf_law_words : TT.lookup ("_law_words" : Str) = some (.fn (fnI 29)) := by kernel_rfl
theorem tf_law_operand : TT.lookup ("_law_operand" : Str) = some (.fn (fnI 30)) := by kernel_rfl
theorem tf_law_arguments : TT.lookup ("_law_arguments" : Str) = some (.fn (fnI 31)) := by kernel_rfl
theorem tf_law_behind : TT.lookup ("_law_behind" : Str) = some (.fn (fnI 32)) := by kernel_rfl
theorem tf_law_told : TT.lookup ("_law_told" : Str) = some (.fn (fnI 33)) := by kernel_rfl
theorem tf_law_read : TT.lookup ("_law_read" : Str) = some (.fn (fnI 34)) := by kernel_rfl
theorem tf_law_pairs : TT.lookup ("_law_pairs" : Str) = some (.fn (fnI 35)) := by kernel_rfl
theorem tv_MULTS : TT.lookup ("MULTS" : Str) = some (.val (.tup [.str "some", .str "no", .str "lone", .str "one", .str "set"])) := by kernel_rfl
theorem tv_LOOSE : TT.lookup ("LOOSE" : Str) = some (.val (.int 0)) := by kernel_rfl
theorem tv_ARROW : TT.lookup ("ARROW" : Str) = some (.val (.int 3)) := by kernel_rfl
theorem tv_COMPARED : TT.lookup ("COMPARED" : Str) = some (.val (.int 6)) := by kernel_rfl
theorem tv_MULT : TT.lookup ("MULT" : Str) = some (.val (.int 7)) := by kernel_rfl
theorem tv_TIMES : TT.lookup ("TIMES" : Str) = some (.val (.int 12)) := by kernel_rfl
theorem tv_BOX : TT.lookup ("BOX" : Str) = some (.val (.int 15)) := by kernel_rfl
theorem tv_WHOLE : TT.lookup ("WHOLE" : Str) = some (.val (.int 18)) := by kernel_rfl
theorem tb_len : TT.lookup ("len" : Str) = some (.blt (.builtin "len")) := by kernel_rfl
theorem tb_abs : TT.lookup ("abs" : Str) = some (.blt (.builtin "abs")) := by kernel_rfl
theorem tb_sum : TT.lookup ("sum" : Str) = some (.blt (.builtin "sum")) := by kernel_rfl
theorem tb_range : TT.lookup ("range" : Str) = some (.blt (.type "range")) := by kernel_rfl
theorem tb_str : TT.lookup ("str" : Str) = some (.blt (.type "str")) := by kernel_rfl
theorem tb_tuple : TT.lookup ("tuple" : Str) = some (.blt (.type "tuple")) := by kernel_rfl
theorem tb_int : TT.lookup ("int" : Str) = some (.blt (.type "int")) := by kernel_rfl
end Mine
namespace Mine
section
variable {α β γ : Type} {fd : α → β → γ → FuncData} {x y z u : Str}
theorem len_s {δ : Type} {xs : List δ} {n : Nat} (h : xs.length = n + 1) : ∃ a r, xs = a :: r ∧ r.length = n := by
  cases xs with
  | nil => cases h
  | cons a r => exact ⟨a, r, rfl, Nat.succ.inj h⟩
theorem bind_0 (h : ∀ pm code doc, bindArgs (fd pm code doc) ⟨[], []⟩ = pure []) : ∀ pm code doc xs, xs.length = ([] : List Str).length → bindArgs (fd pm code doc) ⟨xs, []⟩ = pure (([] : List Str).zip xs) := fun pm code doc xs hl => by
  obtain rfl := List.eq_nil_of_length_eq_zero hl
  exact h pm code doc
theorem bind_1 (h : ∀ pm code doc a, bindArgs (fd pm code doc) ⟨[a], []⟩ = pure [(x, a)]) : ∀ pm code doc xs, xs.length = [x].length → bindArgs (fd pm code doc) ⟨xs, []⟩ = pure ([x].zip xs) := fun pm code doc xs hl => by
  obtain ⟨a, r, rfl, h1⟩ := len_s (n := 0) hl
  obtain rfl := List.eq_nil_of_length_eq_zero h1
  exact h pm code doc a
theorem bind_2 (h : ∀ pm code doc a b, bindArgs (fd pm code doc) ⟨[a, b], []⟩ = pure [(x, a), (y, b)]) : ∀ pm code doc xs, xs.length = [x, y].length → bindArgs (fd pm code doc) ⟨xs, []⟩ = pure ([x, y].zip xs) := fun pm code doc xs hl => by
  obtain ⟨a, r, rfl, h1⟩ := len_s (n := 1) hl
  obtain ⟨b, r, rfl, h2⟩ := len_s (n := 0) h1
  obtain rfl := List.eq_nil_of_length_eq_zero h2
  exact h pm code doc a b
theorem bind_4 (h : ∀ pm code doc a b c d, bindArgs (fd pm code doc) ⟨[a, b, c, d], []⟩ = pure [(x, a), (y, b), (z, c), (u, d)]) : ∀ pm code doc xs, xs.length = [x, y, z, u].length → bindArgs (fd pm code doc) ⟨xs, []⟩ = pure ([x, y, z, u].zip xs) := fun pm code doc xs hl => by
  obtain ⟨a, r, rfl, h1⟩ := len_s (n := 3) hl
  obtain ⟨b, r, rfl, h2⟩ := len_s (n := 2) h1
  obtain ⟨c, r, rfl, h3⟩ := len_s (n := 1) h2
  obtain ⟨d, r, rfl, h4⟩ := len_s (n := 0) h3
  obtain rfl := List.eq_nil_of_length_eq_zero h4
  exact h pm code doc a b c d
end
end Mine
namespace Mine
variable {prog : Program} {w : World} {T : Tbl} {d : Nat} {σ : AS} {Φ : V → AS → Prop}
noncomputable abbrev KEnd (Φ : V → AS → Prop) : Fl → Loc → AS → Prop := fun fl _ σ => ∃ σ₂, Sub σ₂ σ ∧ Φ fl.val σ₂
theorem con_fn {f : Str} {r : FnRec} {names : List Str} {vs : List V}
    (hb : ∀ pm code doc xs, xs.length = names.length → bindArgs (docDef f r.params r.body r.scope pm code doc) ⟨xs, []⟩ = pure (names.zip xs))
    (h : ∀ A h₀ L a cd, Ok T (cxF A f r.scope h₀ L a cd) d → ExP prog w (cxF A f r.scope h₀ L a cd) r.body (names.zip vs) σ (KEnd Φ))
    (hlen : names.length = vs.length := by rfl) (hnd : names.Nodup := by decide)
    (hloc : (names.all fun n => r.scope.names.lookup n == some .local) = true := by rfl) (hcell : (r.scope.names.all fun x => !(x.2 == .cell)) = true := by rfl)
    (hco : r.scope.isCoroutine = false := by rfl) (hgen : r.scope.isGenerator = false := by rfl) (hk : r.scope.kind = .function := by rfl) :
    Con prog w T (d + 1) f r vs σ Φ :=
  con_def hlen hnd hb (fun n hn => by simpa using List.all_eq_true.mp hloc n hn) (fun x hx => by simpa using List.all_eq_true.mp hcell x hx) hco hgen hk h
theorem con_fnC {f : Str} {r : FnRec} {names : List Str} {vs : List V}
    (hb : ∀ pm code doc xs, xs.length = names.length → bindArgs (docDef f r.params r.body r.scope pm code doc) ⟨xs, []⟩ = pure (names.zip xs))
    (h : ∀ A h₀ L a cd, Ok T (cxFC A f r.scope h₀ L a cd) d → ExP prog w (cxFC A f r.scope h₀ L a cd) r.body (names.zip vs) σ (KEnd Φ))
    (hlen : names.length = vs.length := by rfl) (hnd : names.Nodup := by decide)
    (hloc : (names.all fun n => r.scope.names.lookup n == some .local || r.scope.names.lookup n == some .cell) = true := by rfl)
    (hco : r.scope.isCoroutine = false := by rfl) (hgen : r.scope.isGenerator = false := by rfl) (hk : r.scope.kind = .function := by rfl) :
    Con prog w T (d + 1) f r vs σ Φ :=
  con_defC hlen hnd hb (fun xs => List.all_eq_true.mpr fun y hy => List.all_eq_true.mp hloc y.1 (List.of_mem_zip hy).1) hco hgen hk h
theorem Con.mono {f : Str} {r : FnRec} {vs : List V} {d' : Nat} (h : Con prog w T d f r vs σ Φ) (hd : d ≤ d') : Con prog w T d' f r vs σ Φ := fun c O =>
  h c ⟨O.stack, O.gl, O.kind, O.glob, O.blts, O.handled, by have := O.room; omega, by have := O.units; omega⟩
end Mine
namespace Mine
section
variable {prog : Program} {w : World} {c : Cx} {rest : List Stmt} {Ψ : Fl → Loc → AS → Prop} {ρ : Loc} {σ : AS} {v : V}
theorem stop_ret (h : Ψ (.ret v) ρ σ) : KSeq prog w c rest Ψ (.ret v) ρ σ := ⟨nofun, fun _ => h⟩
theorem stop_cont (h : Ψ .cont ρ σ) : KSeq prog w c rest Ψ .cont ρ σ := ⟨nofun, fun _ => h⟩
theorem go_on (h : ExP prog w c rest ρ σ Ψ) : KSeq prog w c rest Ψ .next ρ σ := ⟨fun _ => h, fun e => (e rfl).elim⟩
end
theorem br_t {k : Bool} {A B : Prop} (e : k = true) (h : A) : (k = true → A) ∧ (k = false → B) := ⟨fun _ => h, fun z => by rw [e] at z; cases z⟩
theorem br_f {k : Bool} {A B : Prop} (e : k = false) (h : B) : (k = true → A) ∧ (k = false → B) := ⟨fun z => by rw [e] at z; (cases z), fun _ => h⟩
theorem ex_bool {Ψ : Bool → AS → Prop} {σ : AS} {t : Bool} (h : Ψ t σ) : KBool Ψ (.bool t) σ := ⟨t, rfl, h⟩
theorem sz_tup {Φ : V → AS → Prop} {vs : List V} {σ : AS} (e : vs.length ≤ sizeLine) (h : Φ (.tup vs) σ) : KTup Φ vs σ := ⟨e, h⟩
theorem sz_list {Φ : V → AS → Prop} {vs : List V} {σ : AS} (e : vs.length ≤ sizeLine) (h : ∀ a, σ a = none → Φ (.obj a) (upd σ a (.list vs))) : KList Φ vs σ := ⟨e, h⟩
theorem len_ok {vs : List V} (e : Nat.ble vs.length 100 = true) : vs.length ≤ sizeLine := Nat.le_trans (Nat.le_of_ble_eq_true e) (by decide)
theorem done {σ : AS} {P : AS → Prop} (h : P σ) : ∃ σ₂, Sub σ₂ σ ∧ P σ₂ := ⟨σ, fun _ _ e => e, h⟩
end Mine
end
section
open PySem PySem.W PySem.Calls PyProof.Rows PySem.Spec
set_option maxRecDepth 100000
set_option autoImplicit false
namespace Mine
noncomputable def closL (cs : List (Str × Addr)) : List (Str × NameKind) → List (Str × Addr) → Option (List (Str × Addr))
  | [], acc => some acc
  | (n, k) :: r, acc => if k == .free then (match cs.lookup n with
    | some a => closL cs r ((n, a) :: acc)
    | none => none) else closL cs r acc
theorem closureFor_of {scope : Scope} {env : Env} {cl : List (Str × Addr)} (h : closL env.cells scope.names [] = some cl) : closureFor scope env = pure cl := by
  unfold closureFor
  have : ∀ (ns : List (Str × NameKind)) (acc : List (Str × Addr)), closL env.cells ns acc = some cl → (forIn ns acc fun (x : Str × NameKind) (cs : List (Str × Addr)) => (match x with
    | (name, kind) => (if (kind == NameKind.free) = true then do
        let a ← cellOf env name
        pure (ForInStep.yield ((name, a) :: cs))
      else pure (ForInStep.yield cs) : Sem (ForInStep (List (Str × Addr)))))) = (pure cl : Sem (List (Str × Addr))) := by
    intro ns
    induction ns with
    | nil => intro acc e; cases e; rfl
    | cons x r ih =>
      intro acc e
      obtain ⟨n, k⟩ := x
      rw [closL] at e
      rw [List.forIn_cons]
      cases hk : (k == NameKind.free) with
      | true =>
        rw [hk] at e
        simp only [if_true] at e
        dsimp only
        rw [if_pos hk]
        cases hl : env.cells.lookup n with
        | none => rw [hl] at e; cases e
        | some a =>
          rw [hl] at e
          have : cellOf env n = pure a := by simp [cellOf, hl]
          rw [this]
          exact ih _ e
      | false =>
        dsimp only
        rw [if_neg (by rw [hk]; simp)]
        rw [hk] at e
        simp only [Bool.false_eq_true, if_false] at e
        exact ih _ e
  have := this scope.names [] h
  simpa using this
theorem look_inj : ∀ {l : List (Str × Addr)}, (l.map (·.2)).Nodup → ∀ {y z : Str} {a : Addr}, l.lookup y = some a → l.lookup z = some a → y = z := by
  intro l hn y z a hy hz
  obtain ⟨l1, l2, e1, _⟩ := List.lookup_eq_some_iff.mp hy
  obtain ⟨l3, l4, e3, _⟩ := List.lookup_eq_some_iff.mp hz
  have m1 : (y, a) ∈ l := by rw [e1]; simp
  have m2 : (z, a) ∈ l := by rw [e3]; simp
  clear e1 e3 hy hz
  induction l with
  | nil => cases m1
  | cons p r ih =>
    have hn' := List.nodup_cons.mp hn
    rcases List.mem_cons.mp m1 with q1 | q1
    · rcases List.mem_cons.mp m2 with q2 | q2
      · rw [← q1] at q2; cases q2; rfl
      · exact absurd (List.mem_map.mpr ⟨_, q2, by rw [← q1]⟩) hn'.1
    · rcases List.mem_cons.mp m2 with q2 | q2
      · exact absurd (List.mem_map.mpr ⟨_, q1, by rw [← q2]⟩) hn'.1
      · exact ih hn'.2 q1 q2
variable {prog : Program} {w : World} {T : Tbl} {c : Cx} {d : Nat} {ρ : Loc} {σ σ' : AS} {s s' : Shared} {Φ : V → AS → Prop} {Ψ : Fl → Loc → AS → Prop}
theorem ex_AssignCellX {x : Str} {p pos : Pos} {value : Expr} {cs : List (Str × Addr)} {a : Addr} (hk : c.env.scope.kind = .function) (hx : c.env.kindOf x = some .cell) (hL : c.env.locals = c.L) (hcs : c.env.cells = cs) (ha : cs.lookup x = some a) (hlt : c.L < a) (hnd : (cs.map (·.2)).Nodup)
    (hs : uncomp value = true) (h : EvP prog w c value ρ σ (KAsg x ρ Ψ)) : ExS prog w c (.Assign [.Name x p] value pos) ρ σ Ψ :=
  ex_AssignCell hk hx hL ⟨a, by rw [hcs]; exact ha, hlt⟩ (fun y z b h1 h2 => look_inj hnd (by rw [← hcs]; exact h1) (by rw [← hcs]; exact h2)) h (swaps_none hs)
theorem mem_of_lookup {β : Type} {l : List (Str × β)} {y : Str} {u : β} (e : l.lookup y = some u) : (y, u) ∈ l := by
  obtain ⟨l1, l2, h, _⟩ := List.lookup_eq_some_iff.mp e
  rw [h]; simp
theorem caps_of {ρc : Loc} {scope : Scope} {cl : List (Str × Addr)}
    (hn : ∀ p ∈ ρc, ρ.lookup p.1 = some p.2 ∧ (c.env.kindOf p.1 = some .cell) ∧ ((relabel scope c.env).names.lookup p.1 = some .cell ∨ (relabel scope c.env).names.lookup p.1 = some .free) ∧ cl.lookup p.1 = c.env.cells.lookup p.1)
    (hc : ∀ p ∈ cl, c.env.cells.lookup p.1 = some p.2) : Caps c ρ ρc scope cl :=
  ⟨fun y u e => hn _ (mem_of_lookup e), fun y a e => hc _ (mem_of_lookup e)⟩
theorem all_one {α : Type} {P : α → Prop} {a : α} (h : P a) : ∀ p ∈ [a], P p := List.forall_mem_cons.mpr ⟨h, nofun⟩
theorem all_two {α : Type} {P : α → Prop} {a b : α} (h : P a) (h' : P b) : ∀ p ∈ [a, b], P p := List.forall_mem_cons.mpr ⟨h, all_one h'⟩
theorem pureVs_of : ∀ {l : List V}, (∀ x ∈ l, PureV x) → PureVs l
  | [], _ => .nil
  | _ :: _, h => .cons (h _ (.head _)) (pureVs_of fun x hx => h x (.tail _ hx))
theorem call_len_tup {l : List V} (hz : l.length < 2 ^ 62) (h : Φ (.int l.length) σ) : OpL prog w c (fun xs => call (.builtin "len") xs) [.tup l] σ Φ := fun s F xs r Q E q => by
  obtain ⟨z, rfl, r1⟩ := r.one
  cases r1 with
  | tup ht hr =>
    rename_i a vs
    have hlen : vs.size = l.length := by simpa using hr.length
    refine PyProof.Rows.len_tuple ht (by omega) ?_
    rw [hlen]
    exact q.here F.ob (.int ..) h
theorem sub_new {D : Addr} {o : AO} (h : σ D = none) : Sub σ (upd σ D o) := fun a p e => by
  unfold upd
  split
  · rename_i z; subst z; rw [h] at e; cases e
  · exact e
theorem Sub.none {a b : AS} {D : Addr} (h : Sub a b) (e : b D = none) : a D = none := by
  cases q : a D with
  | none => rfl
  | some o => rw [h D o q] at e; cases e
theorem upd_same {D : Addr} {o : AO} : upd σ D o D = some o := if_pos rfl
theorem upd_other {D b : Addr} {o : AO} (h : b ≠ D) : upd σ D o b = σ b := if_neg h
theorem upd_upd {D : Addr} {o p : AO} : upd (upd σ D o) D p = upd σ D p := by
  funext b
  unfold upd
  split <;> rfl
theorem upd_self {D : Addr} {o : AO} (h : σ D = some o) : upd σ D o = σ := by
  funext b
  unfold upd
  split
  · rename_i z; subst z; exact h.symm
  · rfl
open Classical in
theorem op_ne_any {v u : V} {a b : PyData} {n k : Nat} (O : Ok T c d) (hv : Dt σ v a) (hu : Dt σ u b) (h : Φ (.bool (!decide (a = b))) σ) (ha : plain n a = true) (hb : plain k b = true) (hk : k ≤ 60) : Op2 prog w c (compareOp .NotEq) v u σ Φ := fun s F x y r r' Q E q => by
  obtain ⟨as, ra⟩ := hv.reads F.ob r
  obtain ⟨bs, rb⟩ := hu.reads F.ob r'
  refine SeqAt.compareNe_reads ra rb (plain_lay n a ha).1 (plain_lay k b hb).1 ?_ ?_
  · rw [Nat.min_comm]; exact room_min O hk hb
  · rw [eqv_dec ha hb]
    exact q.now F.ob (.bool _) h
open Classical in
theorem op_eq_any {v u : V} {a b : PyData} {n k : Nat} (O : Ok T c d) (hv : Dt σ v a) (hu : Dt σ u b) (h : Φ (.bool (decide (a = b))) σ) (ha : plain n a = true) (hb : plain k b = true) (hk : k ≤ 60) : Op2 prog w c (compareOp .Eq) v u σ Φ := fun s F x y r r' Q E q => by
  obtain ⟨as, ra⟩ := hv.reads F.ob r
  obtain ⟨bs, rb⟩ := hu.reads F.ob r'
  refine SeqAt.compareEq_reads ra rb (plain_lay n a ha).1 (plain_lay k b hb).1 ?_ ?_
  · rw [Nat.min_comm]; exact room_min O hk hb
  · rw [eqv_dec ha hb]
    exact q.now F.ob (.bool _) h
theorem evPr_nil {Λ : List (Str × V) → AS → Prop} (h : Λ [] σ) : EvPr prog w c ρ [] [] σ Λ := by unfold EvPr; exact h
theorem evPr_cons {k : Str} {kd : Nat} {p : Pos} {ks : List (Option Expr)} {v : Expr} {vs : List Expr} {Λ : List (Str × V) → AS → Prop}
    (h : EvP prog w c v ρ σ fun x σ₁ => EvPr prog w c ρ ks vs σ₁ (KPc k x Λ)) : EvPr prog w c ρ (some (.Constant (.str k) kd p) :: ks) (v :: vs) σ Λ := by unfold EvPr; exact h
theorem pair_ok {x y : V} {P : V → V → Prop} (h : P x y) : ∃ a b, V.tup [x, y] = .tup [a, b] ∧ P a b := ⟨x, y, rfl, h⟩
theorem lit_lp : ("(" : Str) = S [40] := by decide
theorem lit_rp : (")" : Str) = S [41] := by decide
theorem lit_sp : (" " : Str) = S [32] := by decide
theorem lit_no : ("" : Str) = S [] := by decide
theorem lit_ar : (" -> " : Str) = S [32, 45, 62, 32] := by decide
theorem lit_lb : ("[" : Str) = S [91] := by decide
theorem lit_rb : ("]" : Str) = S [93] := by decide
theorem lit_cm : (", " : Str) = S [44, 32] := by decide
theorem lit_imp : (" => " : Str) = S [32, 61, 62, 32] := by decide
theorem lit_els : (" else " : Str) = S [32, 101, 108, 115, 101, 32] := by decide
theorem lit_univ : ("univ" : Str) = S [117, 110, 105, 118] := by decide
theorem size_S {l : List Nat} (h : l.length ≤ 100000) : (S l).length ≤ sizeLine := by rw [S_length]; exact Nat.le_trans h (by decide)
theorem cast_str {a b : Str} (e : a = b) (h : Φ (.str a) σ) : Φ (.str b) σ := e ▸ h
theorem len_app (a b : Str) : (a ++ b).length = a.length + b.length := by
  show (Str.append a b).length = _
  simp [Str.append, Str.length]
theorem size_app {a b : Str} (h : a.length + b.length ≤ 100000) : (a ++ b).length ≤ sizeLine := by rw [len_app]; exact Nat.le_trans h (by decide)
theorem render_nil : render [] = [] := rfl
theorem render_app (p q : Pcs) : render (p ++ q) = render p ++ render q := by simp [render]
theorem render_tok (t : Tok) (p : Pcs) : render (some t :: p) = t.cps ++ render p := rfl
theorem render_gap (p : Pcs) : render (none :: p) = 32 :: render p := rfl
theorem set_dictX {a : Addr} {kvs kvs' : List (Str × V)} {k : Str} {x : V} {Ξ : AS → Prop} (hσ : σ a = some (.dict kvs)) (hk : (kvs.lookup k).isSome = true) (hz : kvs.length ≤ sizeLine)
    (e : (kvs.map fun p => if p.1 = k then (p.1, x) else p) = kvs') (h : Ξ (upd σ a (.dict kvs'))) : Op3 prog w c (.obj a) (.str k) x σ Ξ := set_dict hσ hk hz (e ▸ h)
theorem mulOk_k {a : Int} {k : Nat} (h : k ≤ 10000) : IntMulOk a (k : Int) := .of_right (PySem.intBits_cast_le (Nat.le_trans h (by decide)))
theorem br_any {k : Bool} {A B : Prop} (h : k = true → A) (h' : k = false → B) : (k = true → A) ∧ (k = false → B) := ⟨h, h'⟩
theorem keep_new {D a : Addr} {o p : AO} (hD : σ D = none) (h : σ a = some o) : (upd σ D p) a = some o := (upd_other (by rintro rfl; rw [hD] at h; cases h)).trans h
theorem ne_new {D a : Addr} {o : AO} (hD : σ D = none) (h : σ a = some o) : D ≠ a := by rintro rfl; rw [hD] at h; cases h
theorem evO_some {e : Expr} {Ξ : Option Int → AS → Prop} (h : EvP prog w c e ρ σ (KInt Ξ)) : EvO prog w c (some e) ρ σ Ξ := h
theorem evO_none {Ξ : Option Int → AS → Prop} (h : Ξ none σ) : EvO prog w c none ρ σ Ξ := h
theorem int_ok {i : Int} {P : Int → Prop} (h : P i) : ∃ j, V.int i = .int j ∧ P j := ⟨i, rfl, h⟩
noncomputable abbrev RW (wa : Addr) (i : Nat) : AO := .list [.obj wa, .int i]
theorem set_row {wa row : Addr} {i : Nat} {Ξ : AS → Prop} (hr : σ row = some (RW wa i)) (h : Ξ (upd σ row (RW wa (i + 1)))) : Op3 prog w c (.obj row) (.int 1) (.int ((i : Int) + 1)) σ Ξ :=
  set_list hr (by decide) (by simp) (by decide) (by
    have e : (([.obj wa, .int i] : List V).set (1 : Int).toNat (.int ((i : Int) + 1))) = [.obj wa, .int ((i + 1 : Nat) : Int)] := by simp
    rw [e]; exact h)
theorem op_truthy_bool {b : Bool} {Ψ : Bool → AS → Prop} (h : Ψ b σ) : OpB prog w c (.bool b) σ Ψ := fun s F x r Q E q => by
  cases r; exact wpAny_truthy_bool (q.now F.ob h)
theorem clip_nat (n i : Nat) : clipAt n (i : Int) = min i n := by
  unfold clipAt
  rw [if_neg (Int.not_lt.mpr (Int.natCast_nonneg i))]
  rcases Nat.le_total i n with h | h
  · rw [Int.min_eq_left (Int.ofNat_le.mpr h), Nat.min_eq_left h, Int.max_eq_right (Int.natCast_nonneg _), Int.toNat_natCast]
  · rw [Int.min_eq_right (Int.ofNat_le.mpr h), Nat.min_eq_right h, Int.max_eq_right (Int.natCast_nonneg _), Int.toNat_natCast]
theorem cut_nat {α : Type} (l : List α) (a b : Nat) : cut l (some (a : Int)) (some (b : Int)) = (l.drop a).take (b - a) := by
  show (l.drop (clipAt l.length a)).take (clipAt l.length b - clipAt l.length a) = _
  rw [clip_nat, clip_nat]
  rcases Nat.lt_or_ge a l.length with h | h
  · rw [Nat.min_eq_left (Nat.le_of_lt h)]
    rcases Nat.lt_or_ge b l.length with h' | h'
    · rw [Nat.min_eq_left (Nat.le_of_lt h')]
    · rw [Nat.min_eq_right h', List.take_of_length_le (Nat.le_of_eq List.length_drop), List.take_of_length_le (by rw [List.length_drop]; exact Nat.sub_le_sub_right h' a)]
  · rw [Nat.min_eq_right h, List.drop_length, List.drop_eq_nil_of_le h, List.take_nil, List.take_nil]
theorem cut_one {α : Type} (l : List α) (i : Nat) : cut l (some (i : Int)) (some ((i : Int) + 1)) = (l.drop i).take 1 :=
  (cut_nat l i (i + 1)).trans (by rw [Nat.add_sub_cancel_left])
end Mine
end
section
open PySem PySem.W PySem.Calls PyProof.Rows PySem.Spec
set_option autoImplicit false
namespace Mine
noncomputable def N.isNode : N → Prop
  | .nil => False
  | .cons _ _ => False
  | _ => True
noncomputable def N.isRow : N → Prop
  | .nil => True
  | .cons _ _ => True
  | _ => False
noncomputable def wf : N → Prop
  | .un _ x => x.isNode ∧ wf x
  | .bin _ l r => l.isNode ∧ r.isNode ∧ wf l ∧ wf r
  | .arrow l r => l.isNode ∧ r.isNode ∧ wf l ∧ wf r
  | .box b a => b.isNode ∧ a.isRow ∧ wf b ∧ wf a
  | .ite c t e => c.isNode ∧ t.isNode ∧ e.isNode ∧ wf c ∧ wf t ∧ wf e
  | .cons x xs => x.isNode ∧ xs.isRow ∧ wf x ∧ wf xs
  | _ => True
noncomputable def untupD : PyData → List PyData
  | .tuple l => l
  | _ => []
noncomputable def dat : N → PyData
  | .name b => .tuple [.str "name", .int 0, .str (S (nmCps b))]
  | .num k => .tuple [.str "num", .int 0, .int (10 + k.val)]
  | .univ => .tuple [.str "univ", .int 0]
  | .un u x => .tuple [.str "un", .int 0, .str u.str, dat x]
  | .bin s l r => .tuple [.str "bin", .int 0, .str s.str, dat l, dat r]
  | .arrow l r => .tuple [.str "arrow", .int 0, .str "", .str "", dat l, dat r]
  | .box b a => .tuple [.str "box", .int 0, dat b, dat a]
  | .ite c t e => .tuple [.str "if", .int 0, dat c, dat t, dat e]
  | .nil => .tuple []
  | .cons x xs => .tuple (dat x :: untupD (dat xs))
theorem row_dt {σ : AS} : ∀ {t : N}, t.isRow → ∀ {v d}, val t = v → dat t = d → (∃ l, v = .tup l) ∧ ∃ ds, d = .tuple ds := by
  intro t ht v d hv hd
  cases t <;> simp [N.isRow] at ht
  · exact ⟨⟨_, by rw [← hv]; rfl⟩, _, by rw [← hd]; rfl⟩
  · exact ⟨⟨_, by rw [← hv, val]⟩, _, by rw [← hd, dat]⟩
theorem dts_tup {σ : AS} {v d} (h : Dt σ (.tup v) (.tuple d)) : Dts σ v d := by cases h; assumption
theorem dt_val {σ : AS} : ∀ {t : N}, wf t → Dt σ (val t) (dat t) := by
  intro t
  induction t with
  | name b => intro _; exact .tup (.cons (.str _) (.cons (.int _) (.cons (.str _) .nil)))
  | num b => intro _; exact .tup (.cons (.str _) (.cons (.int _) (.cons (.int _) .nil)))
  | univ => intro _; exact .tup (.cons (.str _) (.cons (.int _) .nil))
  | un u x ih => intro h; rw [val, dat]; exact .tup (.cons (.str _) (.cons (.int _) (.cons (.str _) (.cons (ih h.2) .nil))))
  | bin s l r il ir => intro h; rw [val, dat]; exact .tup (.cons (.str _) (.cons (.int _) (.cons (.str _) (.cons (il h.2.2.1) (.cons (ir h.2.2.2) .nil)))))
  | arrow l r il ir => intro h; rw [val, dat]; exact .tup (.cons (.str _) (.cons (.int _) (.cons (.str _) (.cons (.str _) (.cons (il h.2.2.1) (.cons (ir h.2.2.2) .nil))))))
  | box b a ib ia => intro h; rw [val, dat]; exact .tup (.cons (.str _) (.cons (.int _) (.cons (ib h.2.2.1) (.cons (ia h.2.2.2) .nil))))
  | ite c t e ic it ie => intro h; rw [val, dat]; exact .tup (.cons (.str _) (.cons (.int _) (.cons (ic h.2.2.2.1) (.cons (it h.2.2.2.2.1) (.cons (ie h.2.2.2.2.2) .nil)))))
  | nil => intro _; exact .tup .nil
  | cons x xs ix ixs =>
    intro h
    have h2 := ixs h.2.2.2
    obtain ⟨⟨l, hl⟩, ds, hds⟩ := row_dt (σ := σ) h.2.1 rfl rfl
    rw [val, dat, hl, hds]
    rw [hl, hds] at h2
    exact .tup (.cons (ix h.2.2.1) (dts_tup h2))
theorem Dt.fn {σ : AS} {v : V} {a b : PyData} (h : Dt σ v a) (k : Dt σ v b) : a = b := by
  suffices H : ∀ {b}, Dt σ v b → a = b from H k
  clear k
  refine Dt.rec (motive_1 := fun v a _ => ∀ {b}, Dt σ v b → a = b) (motive_2 := fun vs as _ => ∀ {bs}, Dts σ vs bs → as = bs) ?_ ?_ ?_ ?_ ?_ ?_ ?_ h
  · intro b k; cases k; rfl
  · intro i b k; cases k; rfl
  · intro i b k; cases k; rfl
  · intro vs ds _ ih b k; cases k with | tup k => rw [ih k]
  · intro a vs ds e _ ih b k; cases k with | list e' k => rw [e] at e'; cases e'; rw [ih k]
  · intro bs k; cases k; rfl
  · intro v d vs ds _ _ ih ihs bs k; cases k with | cons k ks => rw [ih k, ihs ks]
theorem up_inj {u v : Up} (h : u.cps = v.cps) : u = v := by
  have e : ∀ u : Up, (Up.all.find? fun w => w.cps == u.cps) = some u := fun u => by cases u <;> rfl
  have := e u
  rw [h, e v] at this
  exact (Option.some.inj this).symm
theorem sg_inj {u v : Sg} (h : u.cps = v.cps) : u = v := by
  have e : ∀ u : Sg, (Sg.all.find? fun w => w.cps == u.cps) = some u := fun u => by cases u <;> rfl
  have := e u
  rw [h, e v] at this
  exact (Option.some.inj this).symm
theorem nm_inj {a b : Bool} (h : nmCps a = nmCps b) : a = b := by cases a <;> cases b <;> first | rfl | exact absurd h (by decide)
theorem num_inj {i j : Fin 3} (h : (10 : Int) + i.val = 10 + j.val) : i = j := Fin.ext (by omega)
/-- which node it is, by its data -/
noncomputable def kindS (s : Str) : Nat := ((["name", "num", "univ", "un", "bin", "arrow", "box", "if"] : List Str).idxOf s)
noncomputable def mark : PyData → Nat
  | .tuple (.str s :: _) => kindS s
  | .tuple [] => 8
  | _ => 9
noncomputable def N.kind : N → Nat
  | .name _ => 0
  | .num _ => 1
  | .univ => 2
  | .un _ _ => 3
  | .bin _ _ _ => 4
  | .arrow _ _ => 5
  | .box _ _ => 6
  | .ite _ _ _ => 7
  | .nil => 8
  | .cons _ _ => 9
theorem kindS_at : (["name", "num", "univ", "un", "bin", "arrow", "box", "if"] : List Str).map kindS = [0, 1, 2, 3, 4, 5, 6, 7] := by decide +kernel
theorem mark_row {x : N} (h : x.isNode) (l : List PyData) : mark (.tuple (dat x :: l)) = 9 := by
  cases x <;> first | exact h.elim | rfl
theorem mark_dat : ∀ {x : N}, wf x → mark (dat x) = x.kind
  | .name _, _ => congrArg (fun l : List Nat => l.getD 0 0) kindS_at
  | .num _, _ => congrArg (fun l : List Nat => l.getD 1 0) kindS_at
  | .univ, _ => congrArg (fun l : List Nat => l.getD 2 0) kindS_at
  | .un _ _, _ => congrArg (fun l : List Nat => l.getD 3 0) kindS_at
  | .bin _ _ _, _ => congrArg (fun l : List Nat => l.getD 4 0) kindS_at
  | .arrow _ _, _ => congrArg (fun l : List Nat => l.getD 5 0) kindS_at
  | .box _ _, _ => congrArg (fun l : List Nat => l.getD 6 0) kindS_at
  | .ite _ _ _, _ => congrArg (fun l : List Nat => l.getD 7 0) kindS_at
  | .nil, _ => rfl
  | .cons x xs, h => by rw [dat]; exact mark_row h.1 _
theorem tup_inj {a b : List PyData} (h : PyData.tuple a = .tuple b) : a = b := by injection h
theorem str_inj {a b : Str} (h : PyData.str a = .str b) : a = b := by injection h
theorem int_inj {a b : Int} (h : PyData.int a = .int b) : a = b := by injection h
theorem con_inj {α : Type} {a b : α} {l m : List α} (h : a :: l = b :: m) : a = b ∧ l = m := by injection h with h1 h2; exact ⟨h1, h2⟩
theorem dat_inj : ∀ {x y : N}, wf x → wf y → dat x = dat y → x = y := by
  intro x
  induction x with
  | name b =>
    intro y hx hy h
    have hk : (0 : Nat) = y.kind := (mark_dat hx).symm.trans ((congrArg mark h).trans (mark_dat hy))
    cases y <;> first | cases hk | skip
    exact congrArg N.name (nm_inj (S_inj (str_inj (con_inj (con_inj (con_inj (tup_inj h)).2).2).1)))
  | num i =>
    intro y hx hy h
    have hk : (1 : Nat) = y.kind := (mark_dat hx).symm.trans ((congrArg mark h).trans (mark_dat hy))
    cases y <;> first | cases hk | skip
    exact congrArg N.num (num_inj (int_inj (con_inj (con_inj (con_inj (tup_inj h)).2).2).1))
  | univ =>
    intro y hx hy h
    have hk : (2 : Nat) = y.kind := (mark_dat hx).symm.trans ((congrArg mark h).trans (mark_dat hy))
    cases y <;> first | cases hk | skip
    rfl
  | un u x ih =>
    intro y hx hy h
    have hk : (3 : Nat) = y.kind := (mark_dat hx).symm.trans ((congrArg mark h).trans (mark_dat hy))
    cases y <;> first | cases hk | skip
    obtain ⟨e1, e2⟩ := con_inj (con_inj (con_inj (tup_inj h)).2).2
    rw [up_inj (S_inj (str_inj e1)), ih hx.2 hy.2 (con_inj e2).1]
  | bin s l r il ir =>
    intro y hx hy h
    have hk : (4 : Nat) = y.kind := (mark_dat hx).symm.trans ((congrArg mark h).trans (mark_dat hy))
    cases y <;> first | cases hk | skip
    obtain ⟨e1, e2⟩ := con_inj (con_inj (con_inj (tup_inj h)).2).2
    obtain ⟨e2, e3⟩ := con_inj e2
    rw [sg_inj (S_inj (str_inj e1)), il hx.2.2.1 hy.2.2.1 e2, ir hx.2.2.2 hy.2.2.2 (con_inj e3).1]
  | arrow l r il ir =>
    intro y hx hy h
    have hk : (5 : Nat) = y.kind := (mark_dat hx).symm.trans ((congrArg mark h).trans (mark_dat hy))
    cases y <;> first | cases hk | skip
    obtain ⟨e2, e3⟩ := con_inj (con_inj (con_inj (con_inj (con_inj (tup_inj h)).2).2).2).2
    rw [il hx.2.2.1 hy.2.2.1 e2, ir hx.2.2.2 hy.2.2.2 (con_inj e3).1]
  | box b a ib ia =>
    intro y hx hy h
    have hk : (6 : Nat) = y.kind := (mark_dat hx).symm.trans ((congrArg mark h).trans (mark_dat hy))
    cases y <;> first | cases hk | skip
    obtain ⟨e2, e3⟩ := con_inj (con_inj (con_inj (tup_inj h)).2).2
    rw [ib hx.2.2.1 hy.2.2.1 e2, ia hx.2.2.2 hy.2.2.2 (con_inj e3).1]
  | ite c t e ic it ie =>
    intro y hx hy h
    have hk : (7 : Nat) = y.kind := (mark_dat hx).symm.trans ((congrArg mark h).trans (mark_dat hy))
    cases y <;> first | cases hk | skip
    obtain ⟨e1, e2⟩ := con_inj (con_inj (con_inj (tup_inj h)).2).2
    obtain ⟨e2, e3⟩ := con_inj e2
    rw [ic hx.2.2.2.1 hy.2.2.2.1 e1, it hx.2.2.2.2.1 hy.2.2.2.2.1 e2, ie hx.2.2.2.2.2 hy.2.2.2.2.2 (con_inj e3).1]
  | nil =>
    intro y hx hy h
    have hk : (8 : Nat) = y.kind := (mark_dat hx).symm.trans ((congrArg mark h).trans (mark_dat hy))
    cases y <;> first | cases hk | skip
    rfl
  | cons x xs ix ixs =>
    intro y hx hy h
    have hk : (9 : Nat) = y.kind := (mark_dat hx).symm.trans ((congrArg mark h).trans (mark_dat hy))
    cases y <;> first | cases hk | skip
    obtain ⟨_, ds, hds⟩ := row_dt (σ := empty) hx.2.1 rfl rfl
    obtain ⟨_, ds', hds'⟩ := row_dt (σ := empty) hy.2.1 rfl rfl
    rw [dat, dat, hds, hds'] at h
    obtain ⟨e1, e2⟩ := con_inj (tup_inj h)
    rw [ix hx.2.2.1 hy.2.2.1 e1, ixs hx.2.2.2 hy.2.2.2 (by rw [hds, hds']; exact congrArg PyData.tuple e2)]
theorem val_inj {x y : N} (hx : wf x) (hy : wf y) (k : x.isNode ∧ y.isNode) (h : val x = val y) : x = y :=
  dat_inj hx hy (by
    have h1 := dt_val (σ := empty) hx
    have h2 := dt_val (σ := empty) hy
    rw [h] at h1
    exact h1.fn h2)
theorem Gen.node {k t} (g : Gen k t) : t.isNode := by cases g <;> trivial
theorem Gen.wf {k t} (g : Gen k t) : Mine.wf t := by
  induction g with
  | name => trivial
  | num => trivial
  | univ => trivial
  | un u g ih => exact ⟨g.node, ih⟩
  | bin s g h ig ih => exact ⟨g.node, h.node, ig, ih⟩
  | arrow g h ig ih => exact ⟨g.node, h.node, ig, ih⟩
  | box1 g h ig ih => exact ⟨g.node, trivial, ig, h.node, trivial, ih, trivial⟩
  | box2 g h i ig ih ii => exact ⟨g.node, trivial, ig, h.node, trivial, ih, i.node, trivial, ii, trivial⟩
  | ite g h i ig ih ii => exact ⟨g.node, h.node, i.node, ig, ih, ii⟩
theorem pureVs_tup {l : List V} (h : PureV (.tup l)) : PureVs l := by cases h; assumption
theorem pure_val : ∀ {t : N}, wf t → PureV (val t) := by
  intro t
  induction t with
  | name b => intro _; exact .tup (.cons (.str _) (.cons (.int _) (.cons (.str _) .nil)))
  | num b => intro _; exact .tup (.cons (.str _) (.cons (.int _) (.cons (.int _) .nil)))
  | univ => intro _; exact .tup (.cons (.str _) (.cons (.int _) .nil))
  | un u x ih => intro h; rw [val]; exact .tup (.cons (.str _) (.cons (.int _) (.cons (.str _) (.cons (ih h.2) .nil))))
  | bin s l r il ir => intro h; rw [val]; exact .tup (.cons (.str _) (.cons (.int _) (.cons (.str _) (.cons (il h.2.2.1) (.cons (ir h.2.2.2) .nil)))))
  | arrow l r il ir => intro h; rw [val]; exact .tup (.cons (.str _) (.cons (.int _) (.cons (.str _) (.cons (.str _) (.cons (il h.2.2.1) (.cons (ir h.2.2.2) .nil))))))
  | box b a ib ia => intro h; rw [val]; exact .tup (.cons (.str _) (.cons (.int _) (.cons (ib h.2.2.1) (.cons (ia h.2.2.2) .nil))))
  | ite c t e ic it ie => intro h; rw [val]; exact .tup (.cons (.str _) (.cons (.int _) (.cons (ic h.2.2.2.1) (.cons (it h.2.2.2.2.1) (.cons (ie h.2.2.2.2.2) .nil)))))
  | nil => intro _; exact .tup .nil
  | cons x xs ix ixs =>
    intro h
    have h2 := ixs h.2.2.2
    obtain ⟨⟨l, hl⟩, _⟩ := row_dt (σ := empty) h.2.1 rfl rfl
    rw [val, hl]
    rw [hl] at h2
    exact .tup (.cons (ix h.2.2.1) (pureVs_tup h2))
end Mine
end
section
open PySem PySem.W PySem.Calls PyProof.Rows PySem.Spec
set_option maxRecDepth 100000
set_option autoImplicit false
namespace Mine
/-! what a token's text is and is not -/
noncomputable def Tok.isLp : Tok → Bool
  | .lp => true
  | _ => false
noncomputable def Tok.isLb : Tok → Bool
  | .lb => true
  | _ => false
noncomputable def Tok.isUniv : Tok → Bool
  | .univ => true
  | _ => false
noncomputable def Tok.isNum : Tok → Bool
  | .num _ => true
  | _ => false
noncomputable def Tok.isNm : Tok → Bool
  | .nm _ => true
  | _ => false
noncomputable def Tok.isRp : Tok → Bool
  | .rp => true
  | _ => false
noncomputable def Tok.isRb : Tok → Bool
  | .rb => true
  | _ => false
noncomputable def Tok.isComma : Tok → Bool
  | .comma => true
  | _ => false
noncomputable def Tok.isEls : Tok → Bool
  | .els => true
  | _ => false
noncomputable def Tok.isImp : Tok → Bool
  | .sg .imp => true
  | _ => false
noncomputable def Tok.isArrow : Tok → Bool
  | .arrow => true
  | _ => false
theorem fin3 : ∀ k : Fin 3, k = 0 ∨ k = 1 ∨ k = 2 := by decide
noncomputable def Tok.every : List Tok := Sg.all.map .sg ++ (Up.all.map .up ++ [.arrow, .lp, .rp, .lb, .rb, .comma, .els, .nm false, .nm true, .univ, .num 0, .num 1, .num 2])
noncomputable def Tok.place : Tok → Nat
  | .sg s => s.ctorIdx
  | .up u => 15 + u.ctorIdx
  | .arrow => 21 | .lp => 22 | .rp => 23 | .lb => 24 | .rb => 25 | .comma => 26 | .els => 27
  | .nm b => if b then 29 else 28
  | .univ => 30
  | .num k => 31 + k.val
theorem tok_place (t : Tok) : Tok.every[t.place]? = some t := by
  cases t with
  | sg s => cases s <;> rfl
  | up s => cases s <;> rfl
  | nm s => cases s <;> rfl
  | num s => rcases fin3 s with rfl | rfl | rfl <;> rfl
  | _ => rfl
/-- what holds of every word, by trying -/
theorem tok_all {P : Tok → Bool} (h : Tok.every.all P = true) (t : Tok) : P t = true := List.all_eq_true.mp h t (List.mem_of_getElem? (tok_place t))
theorem tok_eq {f g : Tok → Bool} (h : Tok.every.all (fun t => f t == g t) = true) (t : Tok) : f t = g t := eq_of_beq (tok_all h t)
theorem tok_lp (t : Tok) : decide (t.str = ("(" : Str)) = t.isLp := tok_eq (f := fun t => decide (t.str = ("(" : Str))) (g := fun t => t.isLp) (by decide +kernel) t
theorem tok_lb (t : Tok) : decide (t.str = ("[" : Str)) = t.isLb := tok_eq (f := fun t => decide (t.str = ("[" : Str))) (g := fun t => t.isLb) (by decide +kernel) t
theorem tok_rp (t : Tok) : decide (t.str = (")" : Str)) = t.isRp := tok_eq (f := fun t => decide (t.str = (")" : Str))) (g := fun t => t.isRp) (by decide +kernel) t
theorem tok_rb (t : Tok) : decide (t.str = ("]" : Str)) = t.isRb := tok_eq (f := fun t => decide (t.str = ("]" : Str))) (g := fun t => t.isRb) (by decide +kernel) t
theorem tok_comma (t : Tok) : decide (t.str = ("," : Str)) = t.isComma := tok_eq (f := fun t => decide (t.str = ("," : Str))) (g := fun t => t.isComma) (by decide +kernel) t
theorem tok_els (t : Tok) : decide (t.str = ("else" : Str)) = t.isEls := tok_eq (f := fun t => decide (t.str = ("else" : Str))) (g := fun t => t.isEls) (by decide +kernel) t
theorem tok_imp (t : Tok) : decide (t.str = ("=>" : Str)) = t.isImp := tok_eq (f := fun t => decide (t.str = ("=>" : Str))) (g := fun t => t.isImp) (by decide +kernel) t
theorem tok_arrow (t : Tok) : decide (t.str = ("->" : Str)) = t.isArrow := tok_eq (f := fun t => decide (t.str = ("->" : Str))) (g := fun t => t.isArrow) (by decide +kernel) t
theorem tok_univ (t : Tok) : decide (t.str = ("univ" : Str)) = t.isUniv := tok_eq (f := fun t => decide (t.str = ("univ" : Str))) (g := fun t => t.isUniv) (by decide +kernel) t
theorem tok_nil (t : Tok) : decide (t.str = ("" : Str)) = false := tok_eq (f := fun t => decide (t.str = ("" : Str))) (g := fun t => false) (by decide +kernel) t
theorem tok_nn (t : Tok) : (!decide (t.str = ("" : Str))) = true := by rw [tok_nil]; rfl
theorem tok_ab (t : Tok) : ((["a", "b"] : List Str)).contains t.str = t.isNm := tok_eq (f := fun t => ((["a", "b"] : List Str)).contains t.str) (g := fun t => t.isNm) (by decide +kernel) t
theorem tok_ok (t : Tok) : PyData.strOk t.str = true := tok_all (P := fun t => PyData.strOk t.str) (by decide +kernel) t
theorem tok_head (t : Tok) : t.str.cps[0]? = some (t.cps.headD 0) := of_decide_eq_true (tok_all (P := fun t => decide (t.str.cps[0]? = some (t.cps.headD 0))) (by decide +kernel) t)
theorem tok_digit (t : Tok) : (!(Builtin.Str.occurrences ("0123456789" : Str) ⟨#[t.cps.headD 0]⟩ 0 ("0123456789" : Str).length 1).isEmpty) = t.isNum := tok_eq (f := fun t => (!(Builtin.Str.occurrences ("0123456789" : Str) ⟨#[t.cps.headD 0]⟩ 0 ("0123456789" : Str).length 1).isEmpty)) (g := fun t => t.isNum) (by decide +kernel) t
theorem lacks_int : typeLookup (.type "str") "__int__" = pure none := by rw [typeLookup_type, builtinLookup_eq_fast]; kernel_rfl
theorem lacks_index : typeLookup (.type "str") "__index__" = pure none := by rw [typeLookup_type, builtinLookup_eq_fast]; kernel_rfl
theorem lacks_trunc : typeLookup (.type "str") "__trunc__" = pure none := by rw [typeLookup_type, builtinLookup_eq_fast]; kernel_rfl
set_option maxHeartbeats 2000000 in
theorem int_gen (x : Array Nat) (v : Int) (e : (int_private% "readNumeral") 0 10 (List.takeWhile (fun y => y != 0) (if (x.all fun y => decide (y < 128)) = true then x.toList else Unicode.numberText x.toList)) = (int_private% "Numeral.value") v)
    (hl : (List.takeWhile (fun y => y != 0) (if (x.all fun y => decide (y < 128)) = true then x.toList else Unicode.numberText x.toList)).length ≤ 640)
    (hq : ((List.takeWhile (fun y => y != 0) (if (x.all fun y => decide (y < 128)) = true then x.toList else Unicode.numberText x.toList)).length == (if (x.all fun y => decide (y < 128)) = true then x.toList else Unicode.numberText x.toList).length) = true) (u : PySem.Tok) :
    Gives (Builtin.«int.__new__» ⟨[.type "int", .str ⟨x⟩ u], []⟩) (.int v) := .of_wp fun M A E s Q h => by
  obtain ⟨hp, g, d, tk, os⟩ := s
  have f1 := F.conv_sub_int
  have f2 := F.madeHere_int
  have f3 := lacks_int
  have f4 := lacks_index
  have f5 := lacks_trunc
  have f6 : typeOf (.str ⟨x⟩ u) = pure (.type "str") := rfl
  repeat (any_goals (first | assumption | wp_step))
  dsimp only
  rw [if_pos hl]
  repeat (any_goals (first | assumption | wp_step))
  rw [e]
  dsimp only
  rw [if_pos hq]
  repeat (any_goals (first | assumption | wp_step))
  exact ⟨_, rfl, h⟩
section
variable {prog : Program} {w : World} {c : Cx} {σ : AS} {Φ : V → AS → Prop}
theorem call_int_num (k : Fin 3) (h : Φ (.int (10 + (k.val : Int))) σ) : OpL prog w c (fun xs => call (.type "int") xs) [.str (Tok.num k).str] σ Φ := fun s F xs r Q E q => by
  obtain ⟨z, rfl, r1⟩ := r.one
  cases r1 with
  | str _ u =>
  have g : Gives (Builtin.«int.__new__» ⟨[.type "int", .str (Tok.num k).str u], []⟩) (.int (10 + (k.val : Int))) := by
    rcases fin3 k with rfl | rfl | rfl
    · exact int_gen #[49, 48] 10 (by kernel_rfl) (by decide +kernel) (by decide +kernel) u
    · exact int_gen #[49, 49] 11 (by kernel_rfl) (by decide +kernel) (by decide +kernel) u
    · exact int_gen #[49, 50] 12 (by kernel_rfl) (by decide +kernel) (by decide +kernel) u
  exact call_int_1 g.meets (show (Made.int (10 + (k.val : Int))).post _ _ from ⟨rfl, q.here F.ob (.int ..) h⟩)
end
noncomputable def aheadKV : List (Str × V) := [("!", .int 5), ("some", .int 7), ("no", .int 7), ("#", .int 9), ("~", .int 17), ("^", .int 17)]
noncomputable def Tok.ahead : Tok → Option V
  | .up u => some (.int u.lev)
  | _ => none
theorem tok_ahead (t : Tok) : aheadKV.lookup t.str = t.ahead := by
  cases t with
  | sg s => cases s <;> rfl
  | up s => cases s <;> rfl
  | nm s => cases s <;> rfl
  | num s => rcases fin3 s with rfl | rfl | rfl <;> rfl
  | _ => rfl
theorem tok_kind (t : Tok) : (∃ u, t = .up u) ∨ t = .lp ∨ t = .univ ∨ (∃ k, t = .num k) ∨ (∃ b, t = .nm b) ∨ (t.ahead = none ∧ t.isLp = false ∧ t.isUniv = false ∧ t.isNum = false ∧ t.isNm = false ∧ ∀ f s l, operand (f + 1) (t :: s) l = none) := by
  cases t with
  | up u => exact .inl ⟨u, rfl⟩
  | lp => exact .inr (.inl rfl)
  | univ => exact .inr (.inr (.inl rfl))
  | num k => exact .inr (.inr (.inr (.inl ⟨k, rfl⟩)))
  | nm b => exact .inr (.inr (.inr (.inr (.inl ⟨b, rfl⟩))))
  | _ => exact .inr (.inr (.inr (.inr (.inr ⟨rfl, rfl, rfl, rfl, rfl, fun _ _ _ => by simp only [operand]⟩))))
theorem lp_bad {f : Nat} {s : List Tok} {l y w t r} (et : told f s 0 = some (y, w, t :: r)) (h : t.isRp = false) : operand (f + 1) (.lp :: s) l = none := by
  cases t <;> first | (cases h; done) | simp only [operand, et]
theorem els_bad {f : Nat} {s : List Tok} {L x y w t r} (et : told f s 3 = some (y, w, t :: r)) (hw : w ≠ 3) (h : t.isEls = false) : behind (f + 1) x (.sg .imp) L s = some (.bin .imp x y, L, t :: r) := by
  cases t <;> first | (cases h; done) | simp only [behind, et, if_neg hw]
theorem is_rp {t : Tok} (h : t.isRp = true) : t = .rp := by cases t <;> first | rfl | cases h
theorem is_els {t : Tok} (h : t.isEls = true) : t = .els := by cases t <;> first | rfl | cases h
noncomputable def betweenKV : List (Str × V) := [("||", .int 1), ("<=>", .int 2), ("=>", .int 3), ("&&", .int 4), ("=", .int 6), ("in", .int 6), ("!in", .int 6), ("<=", .int 6), ("+", .int 8), ("-", .int 8), ("++", .int 10), ("&", .int 11), ("->", .int 12), ("<:", .int 13), (":>", .int 14), (".", .int 16)]
noncomputable def Tok.levI (t : Tok) : Int := match t.lev with
  | some L => (L : Int)
  | none => -1
theorem tok_between (t : Tok) (h : t.isLb = false) : (betweenKV.lookup t.str).getD (.int (-1)) = .int t.levI := by
  cases t with
  | sg s => cases s <;> rfl
  | up s => cases s <;> rfl
  | nm s => cases s <;> rfl
  | num s => rcases fin3 s with rfl | rfl | rfl <;> rfl
  | lb => cases h
  | _ => rfl
/-! places and counts: each said once -/
theorem ar_pos {x c f : Nat} (h : x + (c + 1) ≤ f) : ∃ g, f = g + 1 := by
  cases f with
  | zero => exact absurd h (Nat.not_succ_le_zero _)
  | succ g => exact ⟨g, rfl⟩
theorem ar_lt {n a b : Nat} (h : n - b < n - a) : a < b := Nat.lt_of_not_le fun q => Nat.not_lt_of_le (Nat.sub_le_sub_left q n) h
theorem ar_le {n a b c f : Nat} (h : n - b ≤ n - a) (hf : 4 * (n - a) + c ≤ f) : 4 * (n - b) + c ≤ f := Nat.le_trans (Nat.add_le_add_right (Nat.mul_le_mul_left 4 h) c) hf
theorem ar_62 {n : Nat} (h : n ≤ 1000) : n < 2 ^ 62 := Nat.lt_of_le_of_lt h (by decide)
theorem ar_63 {i n : Nat} (h : i ≤ n) (hn : n ≤ 1000) : (i : Int) < 2 ^ 63 := Int.ofNat_lt.mpr (Nat.lt_of_le_of_lt (Nat.le_trans h hn) (by decide))
theorem ar_not {a b : Nat} (h : b ≤ a) : decide ((a : Int) < (b : Int)) = false := decide_eq_false (Int.not_lt.mpr (Int.ofNat_le.mpr h))
theorem ar_yes {a b : Nat} (h : a + 1 ≤ b) : decide ((a : Int) < (b : Int)) = true := decide_eq_true (Int.ofNat_lt.mpr h)
theorem ar_neg (n : Nat) : decide ((-1 : Int) < (n : Int)) = true := decide_eq_true (Int.lt_of_lt_of_le (by decide) (Int.natCast_nonneg n))
theorem ar_ne {a : Nat} {k : Nat} (h : a ≠ k) : ((a : Int) == (k : Int)) = false := beq_eq_false_iff_ne.mpr fun e => h (Int.ofNat_inj.mp e)
theorem pred_lt {a n : Nat} (h : a < n) : n = n - 1 + 1 ∧ a ≤ n - 1 := ⟨(Nat.sub_add_cancel (Nat.lt_of_le_of_lt (Nat.zero_le _) h)).symm, Nat.le_sub_one_of_lt h⟩
theorem ar_n {n N i j : Nat} (hn : N - i ≤ n) (h : i < j) (hj : j + 1 ≤ N) : n = n - 1 + 1 ∧ N - (j + 1) ≤ n - 1 := pred_lt (Nat.lt_of_lt_of_le (Nat.sub_lt_sub_left (Nat.lt_trans h hj) (Nat.lt_succ_of_lt h)) hn)
theorem ar_n' {n N i : Nat} (hn : N - i ≤ n) (hj : i + 1 ≤ N) : n = n - 1 + 1 ∧ N - (i + 1) ≤ n - 1 := pred_lt (Nat.lt_of_lt_of_le (Nat.sub_lt_sub_left hj (Nat.lt_succ_self _)) hn)
theorem ar_g {N j c g : Nat} (h : 4 * (N - j) + c ≤ g) (hj : j + 1 ≤ N) : 4 * (N - (j + 1)) + c + 4 ≤ g := by
  have e : N - j = N - (j + 1) + 1 := (Nat.sub_add_cancel (Nat.sub_pos_of_lt hj)).symm
  rw [e, Nat.mul_add, Nat.add_right_comm] at h
  exact h
theorem ar_m {N j k r : Nat} (h : N - k ≤ r) (h11 : N - j = r + 1) : N - k + 1 < N - j + 1 := by rw [h11]; exact Nat.succ_lt_succ (Nat.lt_succ_of_le h)
theorem ar_i {N i j k r : Nat} (hi : i < j) (h : N - k ≤ r) (h11 : N - j = r + 1) : i < k := Nat.lt_trans hi (ar_lt (by rw [h11]; exact Nat.lt_succ_of_le h))
theorem ar_f {N j k r c g : Nat} (hg : 4 * (N - j) + c ≤ g) (h : N - k ≤ r) (h11 : N - j = r + 1) : 4 * (N - k) + c + 4 ≤ g := by
  rw [h11, Nat.mul_add, Nat.add_right_comm] at hg
  exact Nat.le_trans (Nat.add_le_add_right (Nat.add_le_add_right (Nat.mul_le_mul_left 4 h) c) 4) hg
theorem next_drop {ws : List Tok} {i : Nat} {t : Tok} {r : List Tok} (h : ws.drop i = t :: r) : ws.drop (i + 1) = r ∧ i + 1 ≤ ws.length ∧ ws.length - i = r.length + 1 := by
  have h1 := congrArg List.length h
  rw [List.length_drop] at h1
  exact ⟨by rw [← List.drop_drop, h]; rfl, Nat.lt_of_sub_pos (by rw [h1]; exact Nat.succ_pos _), h1⟩
theorem ar_sub {N a b n : Nat} (h : a ≤ b) (hn : N - a ≤ n) : N - b ≤ n := Nat.le_trans (Nat.sub_le_sub_left h N) hn
theorem ar_args {N i j r n a g : Nat} (h11 : N - j = r + 1) (hl : r + 1 < N - i) (hn : N - i ≤ n) (ha : a + (N - i) ≤ N) (hg : 4 * (N - i) + 4 ≤ g) :
    N - (j + 1) < N - i ∧ N - (j + 1) ≤ n ∧ a + 1 + (N - (j + 1)) ≤ N ∧ 4 * (N - (j + 1)) + 5 ≤ g := by
  have e : N - (j + 1) = r := by rw [Nat.sub_succ, h11]; rfl
  rw [e]
  have h1 : r < N - i := Nat.lt_of_succ_lt hl
  refine ⟨h1, Nat.le_trans (Nat.le_of_lt h1) hn, ?_, ?_⟩
  · rw [Nat.add_assoc, Nat.add_comm 1 r]; exact Nat.le_trans (Nat.add_le_add_left h1 a) ha
  · show 4 * (r + 1) + 1 ≤ g
    exact Nat.le_trans (Nat.add_le_add (Nat.mul_le_mul_left 4 h1) (by decide)) hg
/-! the reader's rules: what holds by them holds of all that it reads -/
noncomputable def hd : List Tok → Option Nat
  | t :: _ => t.lev
  | [] => none
noncomputable def Stp (l : Nat) (r : List Tok) : Prop := ∀ L, hd r = some L → L < l
structure Rules (PO PT : List Tok → Nat → N → Nat → List Tok → Prop) (PL : N → Nat → List Tok → Nat → N → Nat → List Tok → Prop) (PB : N → Tok → Nat → List Tok → N → Nat → List Tok → Prop) (PA : List Tok → N → List Tok → Prop) : Prop where
  up : ∀ u s l y w r, l ≤ u.lev → PT s u.lev y w r → PO (.up u :: s) l (.un u y) u.lev r
  lp : ∀ s l x w r, PT s 0 x w (.rp :: r) → PO (.lp :: s) l x 18 r
  univ : ∀ s l, PO (.univ :: s) l .univ 18 s
  num : ∀ k s l, PO (.num k :: s) l (.num k) 18 s
  nm : ∀ k s l, PO (.nm k :: s) l (.name k) 18 s
  told : ∀ s l y w s' x v r, PO s l y w s' → PL y w s' l x v r → PT s l x v r
  stop : ∀ x v s l, Stp l s → PL x v s l x v s
  go : ∀ x v t s l L x' v' s' y u r, t.lev = some L → l ≤ L → ¬ (L = 6 ∧ v = 6) → PB x t L s x' v' s' → PL x' v' s' l y u r → PL x v (t :: s) l y u r
  lb : ∀ x L s a r, PA s a r → PB x .lb L s (.box x a) 15 r
  arrow : ∀ x L s y w r, PT s (L + 1) y w r → PB x .arrow L s (.arrow x y) L r
  imp : ∀ x L s y w r, PT s 3 y w r → PB x (.sg .imp) L s (.bin .imp x y) L r
  els : ∀ x L s y w s' z q r, PT s 3 y w (.els :: s') → w ≠ 3 → PT s' 3 z q r → PB x (.sg .imp) L s (.ite x y z) 3 r
  sg : ∀ x g L s y w r, g ≠ .imp → PT s (L + 1) y w r → PB x (.sg g) L s (.bin g x y) L r
  more : ∀ s x w s' a r, PT s 0 x w (.comma :: s') → PA s' a r → PA s (.cons x a) r
  last : ∀ s x w r, PT s 0 x w (.rb :: r) → PA s (.cons x .nil) r
theorem told_sg (f : Nat) (x : N) (g : Sg) (L : Nat) (s : List Tok) (h : g ≠ .imp) : behind (f + 1) x (.sg g) L s = match told f s (L + 1) with
    | some (y, _, r') => some (.bin g x y, L, r')
    | none => none := by
  cases g <;> first | exact absurd rfl h | (simp only [behind] <;> (cases told f s (L + 1) <;> rfl))
section
variable {PO PT : List Tok → Nat → N → Nat → List Tok → Prop} {PL : N → Nat → List Tok → Nat → N → Nat → List Tok → Prop} {PB : N → Tok → Nat → List Tok → N → Nat → List Tok → Prop} {PA : List Tok → N → List Tok → Prop}
noncomputable def Reads5 (PO PT : List Tok → Nat → N → Nat → List Tok → Prop) (PL : N → Nat → List Tok → Nat → N → Nat → List Tok → Prop) (PB : N → Tok → Nat → List Tok → N → Nat → List Tok → Prop) (PA : List Tok → N → List Tok → Prop) (f : Nat) : Prop :=
  (∀ s l x v r, operand f s l = some (x, v, r) → PO s l x v r) ∧ (∀ s l x v r, told f s l = some (x, v, r) → PT s l x v r) ∧
    (∀ x v s l y u r, loop f x v s l = some (y, u, r) → PL x v s l y u r) ∧ (∀ x t L s y u r, behind f x t L s = some (y, u, r) → PB x t L s y u r) ∧
    (∀ s a r, args f s = some (a, r) → PA s a r)
theorem read_operand (R : Rules PO PT PL PB PA) {f : Nat} (it : ∀ s l x v r, told f s l = some (x, v, r) → PT s l x v r) {s l x v r} (h : operand (f + 1) s l = some (x, v, r)) : PO s l x v r := by
  cases s with
  | nil => simp [operand] at h
  | cons t s =>
    cases t with
    | up u =>
      simp only [operand] at h
      split at h
      · rename_i hl
        split at h
        · rename_i e; cases h; exact R.up _ _ _ _ _ _ hl (it _ _ _ _ _ e)
        · cases h
      · cases h
    | lp =>
      simp only [operand] at h
      split at h
      · rename_i e; cases h; exact R.lp _ _ _ _ _ (it _ _ _ _ _ e)
      · cases h
    | univ => simp only [operand] at h; cases h; exact R.univ _ _
    | num k => simp only [operand] at h; cases h; exact R.num _ _ _
    | nm k => simp only [operand] at h; cases h; exact R.nm _ _ _
    | _ => simp only [operand] at h; cases h
theorem read_behind (R : Rules PO PT PL PB PA) {f : Nat} (it : ∀ s l x v r, told f s l = some (x, v, r) → PT s l x v r) (ia : ∀ s a r, args f s = some (a, r) → PA s a r) {x t L s y u r} (h : behind (f + 1) x t L s = some (y, u, r)) : PB x t L s y u r := by
  cases t with
  | lb =>
    simp only [behind] at h
    split at h
    · rename_i e; cases h; exact R.lb _ _ _ _ _ (ia _ _ _ e)
    · cases h
  | arrow =>
    simp only [behind] at h
    split at h
    · rename_i e; cases h; exact R.arrow _ _ _ _ _ _ (it _ _ _ _ _ e)
    · cases h
  | sg g =>
    by_cases hg : g = .imp
    · subst hg
      simp only [behind] at h
      split at h
      · rename_i e
        have ht := it _ _ _ _ _ e
        split at h
        · cases h; exact R.imp _ _ _ _ _ _ ht
        · rename_i hw
          split at h
          · split at h
            · rename_i e'; cases h; exact R.els _ _ _ _ _ _ _ _ _ ht hw (it _ _ _ _ _ e')
            · cases h
          · cases h; exact R.imp _ _ _ _ _ _ ht
      · cases h
    · rw [told_sg _ _ _ _ _ hg] at h
      split at h
      · rename_i e; cases h; exact R.sg _ _ _ _ _ _ _ hg (it _ _ _ _ _ e)
      · cases h
  | _ => simp only [behind] at h; cases h
theorem read_loop (R : Rules PO PT PL PB PA) {f : Nat} (il : ∀ x v s l y u r, loop f x v s l = some (y, u, r) → PL x v s l y u r) (ib : ∀ x t L s y u r, behind f x t L s = some (y, u, r) → PB x t L s y u r) {x v s l y u r} (h : loop (f + 1) x v s l = some (y, u, r)) : PL x v s l y u r := by
  cases s with
  | nil => rw [loop] at h; cases h; exact R.stop _ _ _ _ nofun
  | cons t s =>
    rw [loop] at h
    split at h
    · rename_i e; cases h; exact R.stop _ _ _ _ fun M hM => by rw [show hd (t :: s) = t.lev from rfl, e] at hM; cases hM
    · rename_i L e
      split at h
      · rename_i hlt; cases h; exact R.stop _ _ _ _ fun M hM => by rw [show hd (t :: s) = t.lev from rfl, e] at hM; cases hM; exact hlt
      · rename_i hge
        split at h
        · cases h
        · rename_i h6
          split at h
          · rename_i eb; exact R.go _ _ _ _ _ _ _ _ _ _ _ _ e (Nat.le_of_not_lt hge) h6 (ib _ _ _ _ _ _ _ eb) (il _ _ _ _ _ _ _ h)
          · cases h
theorem read_args (R : Rules PO PT PL PB PA) {f : Nat} (it : ∀ s l x v r, told f s l = some (x, v, r) → PT s l x v r) (ia : ∀ s a r, args f s = some (a, r) → PA s a r) {s a r} (h : args (f + 1) s = some (a, r)) : PA s a r := by
  rw [args] at h
  split at h
  · rename_i e
    split at h
    · rename_i e'; cases h; exact R.more _ _ _ _ _ _ (it _ _ _ _ _ e) (ia _ _ _ e')
    · cases h
  · rename_i e; cases h; exact R.last _ _ _ _ (it _ _ _ _ _ e)
  · cases h
theorem reader_ind (R : Rules PO PT PL PB PA) : ∀ f : Nat, Reads5 PO PT PL PB PA f := by
  intro f
  induction f with
  | zero =>
    refine ⟨?_, ?_, ?_, ?_, ?_⟩
    all_goals (intros; rename_i h; first | (rw [operand] at h; cases h; done) | (rw [told] at h; cases h; done) | (rw [loop] at h; cases h; done) | (rw [behind] at h; cases h; done) | (rw [args] at h; cases h; done))
  | succ f ih =>
    obtain ⟨io, it, il, ib, ia⟩ := ih
    refine ⟨fun s l x v r h => read_operand R it h, fun s l x v r h => ?_, fun x v s l y u r h => read_loop R il ib h, fun x t L s y u r h => read_behind R it ia h, fun s a r h => read_args R it ia h⟩
    rw [told] at h
    split at h
    · rename_i e; exact R.told _ _ _ _ _ _ _ _ (io _ _ _ _ _ e) (il _ _ _ _ _ _ _ h)
    · cases h
end
/-! the reader goes on -/
theorem reader_len : ∀ f : Nat, Reads5 (fun s _ _ _ r => r.length < s.length) (fun s _ _ _ r => r.length < s.length) (fun _ _ s _ _ _ r => r.length ≤ s.length) (fun _ _ _ s _ _ r => r.length ≤ s.length) (fun s _ r => r.length < s.length) f := reader_ind
  { up := fun _ _ _ _ _ _ _ h => Nat.lt_succ_of_lt h
    lp := fun _ _ _ _ _ h => Nat.lt_succ_of_lt (Nat.lt_of_succ_lt h)
    univ := fun _ _ => Nat.lt_succ_self _
    num := fun _ _ _ => Nat.lt_succ_self _
    nm := fun _ _ _ => Nat.lt_succ_self _
    told := fun _ _ _ _ _ _ _ _ h h' => Nat.lt_of_le_of_lt h' h
    stop := fun _ _ _ _ _ => Nat.le_refl _
    go := fun _ _ _ _ _ _ _ _ _ _ _ _ _ _ _ h h' => Nat.le_succ_of_le (Nat.le_trans h' h)
    lb := fun _ _ _ _ _ h => Nat.le_of_lt h
    arrow := fun _ _ _ _ _ _ h => Nat.le_of_lt h
    imp := fun _ _ _ _ _ _ h => Nat.le_of_lt h
    els := fun _ _ _ _ _ _ _ _ _ h _ h' => Nat.le_of_lt (Nat.lt_trans h' (Nat.lt_of_succ_lt h))
    sg := fun _ _ _ _ _ _ _ _ h => Nat.le_of_lt h
    more := fun _ _ _ _ _ _ h h' => Nat.lt_trans h' (Nat.lt_of_succ_lt h)
    last := fun _ _ _ _ h => Nat.lt_of_succ_lt h }
end Mine
end
section
open PySem PySem.W PySem.Calls PyProof.Rows PySem.Spec
set_option maxRecDepth 100000
set_option autoImplicit false
namespace Mine
/-! the count of opening parentheses -/
noncomputable def lps (s : List Tok) : Nat := s.countP Tok.isLp
theorem lps_nil : lps [] = 0 := rfl
theorem lps_cons (t : Tok) (s : List Tok) : lps (t :: s) = lps s + (if t.isLp then 1 else 0) := by
  unfold lps; rw [List.countP_cons]
theorem lps_app (a b : List Tok) : lps (a ++ b) = lps a + lps b := List.countP_append
theorem toksOf_app (a b : Pcs) : toksOf (a ++ b) = toksOf a ++ toksOf b := by simp [toksOf]
theorem toksOf_tok (t : Tok) (p : Pcs) : toksOf (some t :: p) = t :: toksOf p := rfl
theorem toksOf_gap (p : Pcs) : toksOf (none :: p) = toksOf p := rfl
theorem toksOf_nil : toksOf [] = [] := rfl
noncomputable def ptoks (k : Nat) (x : N) : List Tok := toksOf (par k x (pcs x))
theorem ptoks_eq (k : Nat) (x : N) : ptoks k x = if k ≤ x.lev then toks x else .lp :: (toks x ++ [.rp]) := by
  unfold ptoks par toks
  split
  · rfl
  · rw [toksOf_tok, toksOf_app, toksOf_tok, toksOf_nil]
theorem gapS_toks (s : Sg) (p : Pcs) : toksOf (gapS s ++ p) = toksOf p := by cases s <;> rfl
theorem gapU_toks (s : Up) (p : Pcs) : toksOf (gapU s ++ p) = toksOf p := by cases s <;> rfl
theorem toks_un (u : Up) (x : N) : toks (.un u x) = .up u :: ptoks u.lev x := by
  show toksOf (pcs _) = _
  rw [pcs, toksOf_tok, gapU_toks]; rfl
theorem toks_bin (s : Sg) (l r : N) : toks (.bin s l r) = ptoks s.left l ++ .sg s :: ptoks s.right r := by
  show toksOf (pcs _) = _
  rw [pcs, toksOf_app, gapS_toks, toksOf_tok, gapS_toks]; rfl
theorem toks_arrow (l r : N) : toks (.arrow l r) = ptoks 12 l ++ .arrow :: ptoks 13 r := by
  show toksOf (pcs _) = _
  rw [pcs, toksOf_app, toksOf_gap, toksOf_tok, toksOf_gap]; rfl
theorem toks_box (b a : N) : toks (.box b a) = ptoks 15 b ++ .lb :: (toks a ++ [.rb]) := by
  show toksOf (pcs _) = _
  rw [pcs, toksOf_app, toksOf_tok, toksOf_app, toksOf_tok, toksOf_nil]; rfl
theorem toks_ite (c t e : N) : toks (.ite c t e) = ptoks 4 c ++ .sg .imp :: (ptoks 4 t ++ .els :: ptoks 3 e) := by
  show toksOf (pcs _) = _
  rw [pcs, toksOf_app, toksOf_gap, toksOf_tok, toksOf_gap, toksOf_app, toksOf_gap, toksOf_tok, toksOf_gap]; rfl
theorem toks_cons1 (x : N) : toks (.cons x .nil) = toks x := by
  show toksOf (pcs _) = _
  rw [pcs, toksOf_app]; show toks x ++ [] = _; simp
theorem toks_cons2 (x y ys : N) : toks (.cons x (.cons y ys)) = toks x ++ .comma :: toks (.cons y ys) := by
  show toksOf (pcs _) = _
  rw [pcs, toksOf_app]; rfl
noncomputable def lpn (x : N) : Nat := lps (toks x)
noncomputable def lpar (k : Nat) (x : N) : Nat := lps (ptoks k x)
theorem lpar_eq (k : Nat) (x : N) : lpar k x = lpn x + if k ≤ x.lev then 0 else 1 := by
  unfold lpar lpn
  rw [ptoks_eq]
  split
  · simp
  · simp [lps_cons, lps_app, lps_nil, Tok.isLp]
theorem lpn_un (u : Up) (x : N) : lpn (.un u x) = lpar u.lev x := by
  unfold lpn; rw [toks_un, lps_cons]; simp [Tok.isLp, lpar]
theorem lpn_bin (s : Sg) (l r : N) : lpn (.bin s l r) = lpar s.left l + lpar s.right r := by
  unfold lpn; rw [toks_bin, lps_app, lps_cons]; simp [Tok.isLp, lpar]
theorem lpn_arrow (l r : N) : lpn (.arrow l r) = lpar 12 l + lpar 13 r := by
  unfold lpn; rw [toks_arrow, lps_app, lps_cons]; simp [Tok.isLp, lpar]
theorem lpn_box (l r : N) : lpn (.box l r) = lpar 15 l + lpn r := by
  unfold lpn; rw [toks_box, lps_app, lps_cons, lps_app, lps_cons]; simp [Tok.isLp, lpar, lps_nil]
theorem lpn_ite (c t e : N) : lpn (.ite c t e) = lpar 4 c + (lpar 4 t + lpar 3 e) := by
  unfold lpn; rw [toks_ite, lps_app, lps_cons, lps_app, lps_cons]; simp [Tok.isLp, lpar, lps_nil]
theorem lpn_nil : lpn .nil = 0 := rfl
theorem lpn_c1 (x : N) : lpn (.cons x .nil) = lpn x := by unfold lpn; rw [toks_cons1]
theorem lpn_c2 (x y ys : N) : lpn (.cons x (.cons y ys)) = lpn x + lpn (.cons y ys) := by
  unfold lpn; rw [toks_cons2, lps_app, lps_cons]; simp [Tok.isLp]
noncomputable def Nxt (v : Nat) (r : List Tok) : Prop := ∀ L, hd r = some L → (L ≤ v ∨ v = 15) ∧ (L = 3 → 4 ≤ v)
noncomputable def cost (v : Nat) (x : N) : Nat := lpn x + if v = x.lev then 0 else 1
theorem tok_lev {P : Nat → Bool} (h : Tok.every.all (fun t => match t.lev with | some L => P L | none => true) = true) {t : Tok} {L : Nat} (e : t.lev = some L) : P L = true := by
  have := tok_all (P := fun t => match t.lev with | some L => P L | none => true) h t
  rw [e] at this
  exact this
theorem lev_le {t : Tok} {L : Nat} (h : t.lev = some L) : L ≤ 16 := of_decide_eq_true (tok_lev (P := fun L => decide (L ≤ 16)) (by decide +kernel) h)
theorem hd_le {r : List Tok} {L : Nat} (h : hd r = some L) : L ≤ 16 := by
  cases r with
  | nil => cases h
  | cons t r => exact lev_le h
theorem nxt18 (r : List Tok) : Nxt 18 r := fun L h => ⟨.inl (by have := hd_le h; omega), fun _ => by decide⟩
theorem nxt15 (r : List Tok) : Nxt 15 r := fun L h => ⟨.inr rfl, fun _ => by decide⟩
theorem lpar_cost {k v : Nat} {x : N} (h : k ≤ v) : lpar k x ≤ cost v x := by
  rw [lpar_eq]; unfold cost
  split
  · omega
  · rw [if_neg (by omega)]; omega
theorem cost_own (x : N) : cost x.lev x = lpn x := by simp [cost]
theorem sg_left (s : Sg) : (s.left = s.lev ∧ s.lev ≠ 6 ∧ s.lev ≠ 3 ∧ s.lev ≤ 14) ∨ (s.lev = 6 ∧ s.left = 7) ∨ (s.lev = 3 ∧ s.left = 4) ∨ (s.lev = 16 ∧ s.left = 15) := by
  cases s <;> decide
theorem left_ok {s : Sg} {v : Nat} (h : (s.lev ≤ v ∨ v = 15) ∧ (s.lev = 3 → 4 ≤ v)) (h6 : ¬ (s.lev = 6 ∧ v = 6)) : s.left ≤ v := by
  rcases sg_left s with ⟨e, _, _, h14⟩ | ⟨e, e'⟩ | ⟨e, e'⟩ | ⟨e, e'⟩
  · rw [e]; exact h.1.elim id fun q => q ▸ Nat.le_succ_of_le h14
  · rw [e'] ; rw [e] at h h6; exact h.1.elim (fun q => Nat.lt_of_le_of_ne q fun z => h6 ⟨rfl, z.symm⟩) fun q => q ▸ (by decide)
  · rw [e']; exact h.2 e
  · rw [e']; rw [e] at h; exact h.1.elim Nat.le_of_succ_le fun q => Nat.le_of_eq q.symm
theorem right_ne {s : Sg} (h : s ≠ .imp) : s.right = s.lev + 1 ∧ s.lev ≠ 3 := by
  cases s <;> first | exact absurd rfl h | exact ⟨rfl, by decide⟩
theorem up_ge (u : Up) : 5 ≤ u.lev ∧ u.lev ≤ 17 := by cases u <;> decide
theorem nxt_stp {L : Nat} {r : List Tok} (h : Stp (L + 1) r) (h3 : L ≠ 3) : Nxt L r := fun M hM => by
  have := h M hM
  exact ⟨.inl (by omega), fun _ => by omega⟩
theorem nxt3 {r : List Tok} (h : Stp 3 r) : Nxt 3 r := fun M hM => by
  have := h M hM
  exact ⟨.inl (by omega), fun _ => by omega⟩
/-- what the words read hold -/
noncomputable def CO (s : List Tok) (l : Nat) (x : N) (v : Nat) (r : List Tok) : Prop := l ≤ 17 → l ≤ v ∧ Nxt v r ∧ cost v x + lps r ≤ lps s
noncomputable def CT (s : List Tok) (l : Nat) (x : N) (v : Nat) (r : List Tok) : Prop := l ≤ 17 → l ≤ v ∧ Stp l r ∧ cost v x + lps r ≤ lps s
noncomputable def CL (x : N) (v : Nat) (s : List Tok) (l : Nat) (y : N) (u : Nat) (r : List Tok) : Prop := l ≤ 17 → l ≤ v → Nxt v s → l ≤ u ∧ Stp l r ∧ cost u y + lps r ≤ cost v x + lps s
noncomputable def CB (x : N) (t : Tok) (L : Nat) (s : List Tok) (y : N) (u : Nat) (r : List Tok) : Prop := t.lev = some L → ∀ v, Nxt v (t :: s) → ¬ (L = 6 ∧ v = 6) → u = L ∧ Nxt u r ∧ cost u y + lps r ≤ cost v x + lps s
noncomputable def CA (s : List Tok) (a : N) (r : List Tok) : Prop := (∃ x xs, a = .cons x xs) ∧ lpn a + lps r ≤ lps s
theorem lps_off {t : Tok} {s : List Tok} (h : t.isLp = false) : lps (t :: s) = lps s := by rw [lps_cons, h]; rfl
theorem lps_lp (s : List Tok) : lps (.lp :: s) = lps s + 1 := lps_cons _ _
theorem cost_is {v : Nat} {x : N} (h : v = x.lev) : cost v x = lpn x := by rw [h, cost_own]
theorem cost_ge (v : Nat) (x : N) : lpn x ≤ cost v x := Nat.le_add_right _ _
theorem cost_le (v : Nat) (x : N) : cost v x ≤ lpn x + 1 := by unfold cost; split <;> simp
theorem leaf_cost {t : Tok} {s : List Tok} {l : Nat} {y : N} (hy : lpn y = 0) (hl : 18 = y.lev) (ht : t.isLp = false) : CO (t :: s) l y 18 s := fun h =>
  ⟨Nat.le_succ_of_le h, nxt18 _, by rw [lps_off ht, cost_is hl, hy, Nat.zero_add]; exact Nat.le_refl _⟩
theorem add_mid {a b c d e f g : Nat} (h1 : a ≤ b) (h2 : c ≤ d) (h3 : d + e ≤ g) (hf : f = a + c) : f + e ≤ b + g := by
  subst hf
  rw [Nat.add_assoc]
  exact Nat.add_le_add h1 (Nat.le_trans (Nat.add_le_add_right h2 e) h3)
/-- two parts around a sign -/
theorem two_cost {x y z : N} {u v w L k m : Nat} {t : Tok} {s r : List Tok} (hu : u = L) (hz : L = z.lev) (hp : lpn z = lpar k x + lpar m y) (hk : k ≤ v) (hm : m ≤ w) (hn : Nxt u r) (h : cost w y + lps r ≤ lps s) : u = L ∧ Nxt u r ∧ cost u z + lps r ≤ cost v x + lps s :=
  ⟨hu, hn, by rw [cost_is (hu.trans hz)]; exact add_mid (lpar_cost hk) (lpar_cost hm) h hp⟩
theorem reader_cost : ∀ f : Nat, Reads5 CO CT CL CB CA f := reader_ind
  { up := fun u s l y w r hl h _ => by
      obtain ⟨h1, h2, h3⟩ := h (up_ge u).2
      refine ⟨hl, fun M hM => ⟨.inl (Nat.le_of_lt (h2 M hM)), fun _ => Nat.le_of_succ_le (up_ge u).1⟩, ?_⟩
      rw [lps_off rfl, cost_is (v := u.lev) (x := .un u y) rfl, lpn_un]
      exact Nat.le_trans (Nat.add_le_add_right (lpar_cost h1) _) h3
    lp := fun s l x w r h hl => by
      obtain ⟨h1, h2, h3⟩ := h (by decide)
      refine ⟨Nat.le_succ_of_le hl, nxt18 _, ?_⟩
      rw [lps_off rfl] at h3
      rw [lps_lp]
      exact Nat.le_trans (Nat.add_le_add_right (Nat.le_trans (cost_le _ _) (Nat.succ_le_succ (cost_ge w x))) _) (by rw [Nat.succ_add]; exact Nat.succ_le_succ h3)
    univ := fun _ _ => leaf_cost rfl rfl rfl
    num := fun _ _ _ => leaf_cost rfl rfl rfl
    nm := fun _ _ _ => leaf_cost rfl rfl rfl
    told := fun s l y w s' x v r ho hl h => by
      obtain ⟨h1, h2, h3⟩ := ho h
      obtain ⟨h4, h5, h6⟩ := hl h h1 h2
      exact ⟨h4, h5, Nat.le_trans h6 h3⟩
    stop := fun x v s l h _ hv _ => ⟨hv, h, Nat.le_refl _⟩
    go := fun x v t s l L x' v' s' y u r e hL h6 hb hl h hv hn => by
      obtain ⟨h1, h2, h3⟩ := hb e v hn h6
      obtain ⟨h4, h5, h7⟩ := hl h (h1 ▸ hL) h2
      refine ⟨h4, h5, Nat.le_trans h7 (Nat.le_trans h3 (Nat.add_le_add_left ?_ _))⟩
      rw [lps_cons]; exact Nat.le_add_right _ _
    lb := fun x L s a r h ht v hn h6 => by
      obtain rfl : 15 = L := by cases ht; rfl
      refine ⟨rfl, nxt15 _, ?_⟩
      rw [cost_is (v := 15) (x := .box x a) rfl, lpn_box]
      have h4 : (15 ≤ v ∨ v = 15) := (hn 15 rfl).1
      exact Nat.le_trans (Nat.le_of_eq (Nat.add_assoc _ _ _)) (Nat.add_le_add (lpar_cost (h4.elim id fun q => Nat.le_of_eq q.symm)) h.2)
    arrow := fun x L s y w r h ht v hn h6 => by
      obtain rfl : 12 = L := by cases ht; rfl
      obtain ⟨h1, h2, h3⟩ := h (by decide)
      exact two_cost (z := .arrow x y) (t := .arrow) rfl rfl (lpn_arrow x y) ((hn 12 rfl).1.elim id fun q => by rw [q]; decide) h1 (nxt_stp h2 (by decide)) h3
    imp := fun x L s y w r h ht v hn h6 => by
      obtain rfl : 3 = L := by cases ht; rfl
      obtain ⟨h1, h2, h3⟩ := h (by decide)
      exact two_cost (z := .bin .imp x y) (t := .sg .imp) rfl rfl (lpn_bin .imp x y) ((hn 3 rfl).2 rfl) h1 (nxt3 h2) h3
    els := fun x L s y w s' z q r h hw h' ht v hn h6 => by
      obtain rfl : 3 = L := by cases ht; rfl
      obtain ⟨h1, h2, h3⟩ := h (by decide)
      obtain ⟨g1, g2, g3⟩ := h' (by decide)
      rw [lps_off rfl] at h3
      refine ⟨rfl, nxt3 g2, ?_⟩
      rw [cost_is (v := 3) (x := .ite x y z) rfl, lpn_ite]
      exact add_mid (lpar_cost ((hn 3 rfl).2 rfl)) (Nat.add_le_add (lpar_cost (Nat.lt_of_le_of_ne h1 (Ne.symm hw))) (lpar_cost g1)) (Nat.le_trans (Nat.le_of_eq (Nat.add_assoc _ _ _)) (Nat.le_trans (Nat.add_le_add_left g3 _) h3)) rfl
    sg := fun x g L s y w r hg h ht v hn h6 => by
      obtain rfl : g.lev = L := by cases ht; rfl
      obtain ⟨e1, e2⟩ := right_ne hg
      obtain ⟨h1, h2, h3⟩ := h (Nat.succ_le_succ (lev_le ht))
      rw [← e1] at h1
      exact two_cost (z := .bin g x y) (t := .sg g) rfl rfl (lpn_bin g x y) (left_ok (hn _ ht) h6) h1 (nxt_stp h2 e2) h3
    more := fun s x w s' a r h h' => by
      obtain ⟨h1, h2, h3⟩ := h (by decide)
      obtain ⟨⟨y, ys, rfl⟩, h5⟩ := h'
      refine ⟨⟨_, _, rfl⟩, ?_⟩
      rw [lps_off rfl] at h3
      rw [lpn_c2]
      exact Nat.le_trans (Nat.le_of_eq (Nat.add_assoc _ _ _)) (Nat.le_trans (Nat.add_le_add (cost_ge w x) h5) h3)
    last := fun s x w r h => by
      obtain ⟨h1, h2, h3⟩ := h (by decide)
      refine ⟨⟨_, _, rfl⟩, ?_⟩
      rw [lps_off rfl] at h3
      rw [lpn_c1]
      exact Nat.le_trans (Nat.add_le_add_right (cost_ge w x) _) h3 }
theorem readt_cost {s : List Tok} {x : N} (h : readt s = some x) : lpn x ≤ lps s := by
  unfold readt at h
  split at h
  · rename_i e
    cases h
    exact Nat.le_trans (cost_ge _ _) ((reader_cost _).2.1 _ _ _ _ _ e (by decide)).2.2
  · cases h
end Mine
end
section
open PySem PySem.W PySem.Calls PyProof.Rows PySem.Spec
set_option maxRecDepth 100000
set_option autoImplicit false
namespace Mine
/-! the reader reads what the printer prints -/
noncomputable def Fits (v : Nat) (r : List Tok) : Prop := (∀ L, hd r = some L → (L ≤ v ∨ v = 15) ∧ (v = 3 → L < 3)) ∧ (∀ r', r = .els :: r' → 4 ≤ v)
noncomputable def pl (k : Nat) (x : N) : Nat := if k ≤ x.lev then x.lev else 18
theorem N.lev_le (x : N) : x.lev ≤ 18 := by
  cases x with
  | un u x => have := up_ge u; simp [N.lev]; omega
  | bin s l r => cases s <;> simp [N.lev, Sg.lev]
  | _ => simp [N.lev]
theorem pl_ge {k : Nat} (x : N) (hk : k ≤ 18) : k ≤ pl k x := by unfold pl; split <;> omega
theorem lev_not {t : Tok} {L : Nat} (h : t.lev = some L) : L ≠ 5 ∧ L ≠ 7 ∧ L ≠ 9 ∧ L ≠ 17 ∧ 1 ≤ L ∧ L ≤ 16 := of_decide_eq_true (tok_lev (P := fun L => decide (L ≠ 5 ∧ L ≠ 7 ∧ L ≠ 9 ∧ L ≠ 17 ∧ 1 ≤ L ∧ L ≤ 16)) (by decide +kernel) h)
theorem hd_not {r : List Tok} {L : Nat} (h : hd r = some L) : L ≠ 5 ∧ L ≠ 7 ∧ L ≠ 9 ∧ L ≠ 17 ∧ 1 ≤ L ∧ L ≤ 16 := by
  cases r with
  | nil => cases h
  | cons t r => exact lev_not h
theorem lp_nil {g lev least : Nat} {x : N} (h : 0 < g) : loop g x lev [] least = some (x, lev, []) := by
  obtain ⟨g, rfl⟩ : ∃ g', g = g' + 1 := ⟨g - 1, by omega⟩
  rw [loop]
theorem lp_stop {g lev least : Nat} {x : N} {r : List Tok} (h : 0 < g) (hs : Stp least r) : loop g x lev r least = some (x, lev, r) := by
  obtain ⟨g, rfl⟩ : ∃ g', g = g' + 1 := ⟨g - 1, by omega⟩
  cases r with
  | nil => rw [loop]
  | cons t r =>
    rw [loop]
    cases e : t.lev with
    | none => rfl
    | some L => simp only [if_pos (hs L e)]
theorem lp_go {g lev least L : Nat} {x y : N} {lev' : Nat} {t : Tok} {r r' : List Tok} (ht : t.lev = some L) (h1 : least ≤ L) (h2 : ¬ (L = 6 ∧ lev = 6)) (hb : behind g x t L r = some (y, lev', r')) : loop (g + 1) x lev (t :: r) least = loop g y lev' r' least := by
  rw [loop, ht]
  simp only [if_neg (show ¬ L < least by omega), if_neg h2, hb]
noncomputable def P (x : N) : Prop := ∀ least rest f, least ≤ x.lev → least ≠ 16 → Fits x.lev rest → 4 * ((toks x).length + rest.length) + 4 ≤ f → ∃ g, 4 * rest.length + 3 ≤ g ∧ told f (toks x ++ rest) least = loop g x x.lev rest least
noncomputable def Q (k : Nat) (x : N) : Prop := ∀ least rest f, least ≤ pl k x → least ≠ 16 → Fits (pl k x) rest → 4 * ((ptoks k x).length + rest.length) + 4 ≤ f → ∃ g, 4 * rest.length + 3 ≤ g ∧ told f (ptoks k x ++ rest) least = loop g x (pl k x) rest least
theorem fits_none {v : Nat} {t : Tok} {r : List Tok} (h : t.lev = none) (he : t ≠ .els) : Fits v (t :: r) :=
  ⟨(fun L e => by rw [show hd (t :: r) = t.lev from rfl, h] at e; cases e), (fun r' e => by cases e; exact absurd rfl he)⟩
theorem stp_none {v : Nat} {t : Tok} {r : List Tok} (h : t.lev = none) : Stp v (t :: r) := fun L e => by
  rw [show hd (t :: r) = t.lev from rfl, h] at e; cases e
theorem told_leaf {f least : Nat} {t : Tok} {x : N} {r : List Tok} {v : Nat} {r' : List Tok} (h : operand f (t :: r) least = some (x, v, r')) : told (f + 1) (t :: r) least = loop f x v r' least := by
  rw [told, h]
theorem P.par {x : N} (h : P x) (k : Nat) : Q k x := by
  intro least rest f hl h16 hf hlen
  by_cases hk : k ≤ x.lev
  · have e1 : pl k x = x.lev := if_pos hk
    have e2 : ptoks k x = toks x := by rw [ptoks_eq, if_pos hk]
    rw [e1] at hl hf ⊢
    rw [e2] at hlen ⊢
    exact h least rest f hl h16 hf hlen
  · have e1 : pl k x = 18 := if_neg hk
    have e2 : ptoks k x = .lp :: (toks x ++ [.rp]) := by rw [ptoks_eq, if_neg hk]
    rw [e1] at hl hf ⊢
    rw [e2] at hlen ⊢
    obtain ⟨f, rfl⟩ : ∃ f', f = f' + 2 := ⟨f - 2, by omega⟩
    simp only [List.length_cons, List.length_append, List.length_nil] at hlen
    obtain ⟨g, hg, e⟩ := h 0 (.rp :: rest) f (by omega) (by decide) (fits_none rfl (by simp)) (by simp only [List.length_cons]; omega)
    rw [lp_stop (by omega) (stp_none rfl)] at e
    refine ⟨f + 1, by omega, ?_⟩
    rw [List.cons_append, List.append_assoc]
    refine told_leaf ?_
    simp only [operand]
    rw [show [Tok.rp] ++ rest = .rp :: rest from rfl, e]
theorem Q.full {k : Nat} {x : N} (h : Q k x) {least f : Nat} {rest : List Tok} (hl : least ≤ pl k x) (h16 : least ≠ 16) (hs : Stp least rest) (hf : Fits (pl k x) rest) (hlen : 4 * ((ptoks k x).length + rest.length) + 4 ≤ f) :
    told f (ptoks k x ++ rest) least = some (x, pl k x, rest) := by
  obtain ⟨g, hg, e⟩ := h least rest f hl h16 hf hlen
  rw [e, lp_stop (by omega) hs]
theorem pl0 (x : N) : pl 0 x = x.lev := by unfold pl; rw [if_pos (Nat.zero_le _)]
theorem ptoks0 (x : N) : ptoks 0 x = toks x := by rw [ptoks_eq, if_pos (Nat.zero_le _)]
theorem P.full0 {x : N} (h : P x) {f : Nat} {t : Tok} {rest : List Tok} (ht : t.lev = none) (he : t ≠ .els) (hlen : 4 * ((toks x).length + (t :: rest).length) + 4 ≤ f) :
    told f (toks x ++ t :: rest) 0 = some (x, x.lev, t :: rest) := by
  have := (h.par 0).full (least := 0) (f := f) (rest := t :: rest) (Nat.zero_le _) (by decide) (stp_none ht) (fits_none ht he) (by rw [ptoks0]; exact hlen)
  rwa [ptoks0, pl0] at this
noncomputable def PA (a : N) : Prop := ∀ f rest, 4 * ((toks a).length + rest.length) + 9 ≤ f → args f (toks a ++ .rb :: rest) = some (a, rest)
theorem left_le {s : Sg} {least : Nat} (h : least ≤ s.lev) (h16 : least ≠ 16) : least ≤ s.left := by
  rcases sg_left s with ⟨e, _⟩ | ⟨e, e'⟩ | ⟨e, e'⟩ | ⟨e, e'⟩
  · rw [e]; exact h
  · rw [e']; rw [e] at h; exact Nat.le_succ_of_le h
  · rw [e']; rw [e] at h; exact Nat.le_succ_of_le h
  · rw [e']; rw [e] at h; exact Nat.le_of_lt_succ (Nat.lt_of_le_of_ne h h16)
theorem left_le18 (s : Sg) : s.left ≤ 18 ∧ s.right ≤ 17 ∧ s.lev ≠ 15 ∧ s.lev + 1 ≠ 16 ∧ s.right ≠ 16 := by cases s <;> decide
theorem fits_sg {s : Sg} {v : Nat} {r : List Tok} (h : s.left ≤ v) (hv : v ≤ 18) : Fits v (.sg s :: r) := by
  refine ⟨fun L e => ?_, fun r' e => by cases e⟩
  obtain rfl : s.lev = L := Option.some.inj e
  rcases sg_left s with ⟨e, _, h3, _⟩ | ⟨e, e'⟩ | ⟨e, e'⟩ | ⟨e, e'⟩
  · rw [e] at h; exact ⟨.inl h, fun z => Nat.lt_of_le_of_ne (z ▸ h) h3⟩
  · rw [e'] at h; rw [e]; exact ⟨.inl (Nat.le_of_succ_le h), fun z => absurd (z ▸ h) (by decide)⟩
  · rw [e'] at h; rw [e]; exact ⟨.inl (Nat.le_of_succ_le h), fun z => absurd (z ▸ h) (by decide)⟩
  · rw [e'] at h; rw [e]; exact ⟨(Nat.eq_or_lt_of_le h).symm.imp id Eq.symm, fun z => absurd (z ▸ h) (by decide)⟩
theorem pl_le (k : Nat) (x : N) : pl k x ≤ 18 := by unfold pl; split; exact N.lev_le x; exact Nat.le_refl _
theorem six_left {s : Sg} {v : Nat} (h : s.left ≤ v) : ¬ (s.lev = 6 ∧ v = 6) := fun ⟨e, z⟩ => by
  subst z
  rcases sg_left s with ⟨_, h6, _⟩ | ⟨_, e'⟩ | ⟨e', _⟩ | ⟨e', _⟩
  · exact h6 e
  · rw [e'] at h; exact absurd h (by decide)
  · rw [e] at e'; cases e'
  · rw [e] at e'; cases e'
theorem up_not (u : Up) : u.lev ≠ 15 ∧ u.lev ≠ 16 ∧ (u.lev = 5 ∨ u.lev = 7 ∨ u.lev = 9 ∨ u.lev = 17) := by cases u <;> decide
noncomputable def nz : N → Prop
  | .un _ x => nz x
  | .bin _ l r => nz l ∧ nz r
  | .arrow l r => nz l ∧ nz r
  | .box b a => a ≠ .nil ∧ nz b ∧ nz a
  | .ite c t e => nz c ∧ nz t ∧ nz e
  | .cons x xs => nz x ∧ nz xs
  | _ => True
theorem Gen.nz {k : Nat} {t : N} (g : Gen k t) : Mine.nz t := by
  induction g with
  | name => trivial
  | num => trivial
  | univ => trivial
  | un u g ih => exact ih
  | bin s g h ig ih => exact ⟨ig, ih⟩
  | arrow g h ig ih => exact ⟨ig, ih⟩
  | box1 g h ig ih => exact ⟨nofun, ig, ih, trivial⟩
  | box2 g h i ig ih ii => exact ⟨nofun, ig, ih, ii, trivial⟩
  | ite g h i ig ih ii => exact ⟨ig, ih, ii⟩
theorem ge2 {x f : Nat} (h : x + 2 ≤ f) : ∃ g, f = g + 2 := ⟨f - 2, by omega⟩
theorem ge1 {x f : Nat} (h : x + 1 ≤ f) : ∃ g, f = g + 1 := ⟨f - 1, by omega⟩
theorem fu_un {a b f : Nat} (h : 4 * (a + 1 + b) + 4 ≤ f + 2) : 4 * (a + b) + 4 ≤ f ∧ 4 * b + 3 ≤ f + 1 := by omega
theorem fu_b1 {a b c f : Nat} (h : 4 * (a + (b + 1) + c) + 4 ≤ f) : 4 * (a + (b + c + 1)) + 4 ≤ f := by omega
theorem fu_b2 {b c g : Nat} (h : 4 * (b + c + 1) + 3 ≤ g + 2) : 4 * c + 3 ≤ g + 1 ∧ 4 * (b + c) + 4 ≤ g := by omega
theorem fu_x1 {a b c f : Nat} (h : 4 * (a + (b + (0 + 1) + 1) + c) + 4 ≤ f) : 4 * (a + (b + (0 + 1 + c) + 1)) + 4 ≤ f := by omega
theorem fu_x2 {b c g : Nat} (h : 4 * (b + (0 + 1 + c) + 1) + 3 ≤ g + 2) : 4 * c + 3 ≤ g + 1 ∧ 4 * (b + c) + 9 ≤ g + 5 := by omega
theorem fits_of {v w : Nat} {r : List Tok} (hf : Fits v r) (h15 : v ≠ 15) (hw : v + 1 ≤ w) : Fits w r ∧ Stp (v + 1) r := by
  have st : Stp (v + 1) r := fun L e => Nat.lt_succ_of_le ((hf.1 L e).1.resolve_right h15)
  exact ⟨⟨fun L e => ⟨.inl (Nat.le_of_lt (Nat.lt_of_lt_of_le (st L e) hw)), fun h3 => by have := st L e; omega⟩, fun r' e => Nat.le_trans (hf.2 r' e) (Nat.le_of_succ_le hw)⟩, st⟩
theorem fits_3 {w : Nat} {r : List Tok} (hf : Fits 3 r) (hw : 3 ≤ w) : Fits w r ∧ Stp 3 r :=
  ⟨⟨fun L e => ⟨.inl (Nat.le_trans (Nat.le_of_lt ((hf.1 L e).2 rfl)) hw), fun _ => (hf.1 L e).2 rfl⟩, fun r' e => absurd (hf.2 r' e) (by decide)⟩, fun L e => (hf.1 L e).2 rfl⟩
theorem fits_un {u : Up} {w : Nat} {r : List Tok} (hf : Fits u.lev r) (hw : u.lev ≤ w) : Fits w r ∧ Stp u.lev r := by
  have hu := up_ge u
  have hn := up_not u
  have st : Stp u.lev r := fun L e => by
    obtain ⟨h5, h7, h9, h17, _⟩ := hd_not e
    refine Nat.lt_of_le_of_ne ((hf.1 L e).1.resolve_right hn.1) fun z => ?_
    rcases hn.2.2 with q | q | q | q
    · exact h5 (z.trans q)
    · exact h7 (z.trans q)
    · exact h9 (z.trans q)
    · exact h17 (z.trans q)
  have h4 : 4 ≤ w := Nat.le_trans (Nat.le_of_succ_le hu.1) hw
  exact ⟨⟨fun L e => ⟨.inl (Nat.le_of_lt (Nat.lt_of_lt_of_le (st L e) hw)), fun h3 => absurd (h3 ▸ h4) (by decide)⟩, fun _ _ => h4⟩, st⟩
theorem printed : ∀ x : N, wf x → nz x → (x.isNode → P x) ∧ (x.isRow → x ≠ .nil → PA x) := by
  intro x
  have leaf : ∀ (x : N) (t : Tok), toks x = [t] → x.lev = 18 → (∀ f r l, operand (f + 1) (t :: r) l = some (x, 18, r)) → P x := by
    intro x t h1 h2 h3 least rest f hl h16 hf hlen
    obtain ⟨f, rfl⟩ := ge2 hlen
    refine ⟨f + 1, by rw [h1] at hlen; exact (fu_un (a := 0) hlen).2, ?_⟩
    rw [h1, h2]
    exact told_leaf (h3 f rest least)
  induction x with
  | name b => exact fun _ _ => ⟨fun _ => leaf _ (.nm b) rfl rfl fun f r l => by simp only [operand], fun h => h.elim⟩
  | num b => exact fun _ _ => ⟨fun _ => leaf _ (.num b) rfl rfl fun f r l => by simp only [operand], fun h => h.elim⟩
  | univ => exact fun _ _ => ⟨fun _ => leaf _ .univ rfl rfl fun f r l => by simp only [operand], fun h => h.elim⟩
  | un u x ih =>
    refine fun hw hz => ⟨fun _ => ?_, fun h => h.elim⟩
    intro least rest f hl h16 hf hlen
    have q := ((ih hw.2 hz).1 hw.1).par u.lev
    have hp := pl_ge x (show u.lev ≤ 18 from Nat.le_trans (up_ge u).2 (by decide))
    obtain ⟨f, rfl⟩ := ge2 hlen
    rw [toks_un, List.length_cons] at hlen
    obtain ⟨l1, l2⟩ := fu_un hlen
    obtain ⟨ft, hs⟩ := fits_un (u := u) hf hp
    have e := q.full (least := u.lev) (f := f) (rest := rest) hp (up_not u).2.1 hs ft l1
    refine ⟨f + 1, l2, ?_⟩
    rw [toks_un, List.cons_append]
    refine told_leaf ?_
    simp only [operand, if_pos (show least ≤ u.lev from hl), e]
    rfl
  | bin s l r il ir =>
    refine fun hw hz => ⟨fun _ => ?_, fun h => h.elim⟩
    intro least rest f hl h16 hf hlen
    have ql := ((il hw.2.2.1 hz.1).1 hw.1).par s.left
    have qr := ((ir hw.2.2.2 hz.2).1 hw.2.1).par s.right
    obtain ⟨c1, c2, c3, c4, c5⟩ := left_le18 s
    have hpl := pl_ge l c1
    have hpr := pl_ge r (show s.right ≤ 18 from Nat.le_succ_of_le c2)
    simp only [N.lev] at hl hf
    rw [toks_bin, List.length_append, List.length_cons] at hlen
    rw [toks_bin, List.append_assoc, List.cons_append]
    obtain ⟨g, hg, e⟩ := ql least (.sg s :: (ptoks s.right r ++ rest)) f (Nat.le_trans (left_le hl h16) hpl) h16 (fits_sg hpl (pl_le _ _)) (by simp only [List.length_append, List.length_cons]; exact fu_b1 hlen)
    simp only [List.length_append, List.length_cons] at hg
    obtain ⟨g, rfl⟩ := ge2 hg
    obtain ⟨l1, l2⟩ := fu_b2 hg
    refine ⟨g + 1, l1, ?_⟩
    rw [e]
    refine lp_go (L := s.lev) rfl hl (six_left hpl) ?_
    by_cases hs : s = .imp
    · subst hs
      obtain ⟨ft, st⟩ := fits_3 hf hpr
      have er := qr.full (least := 3) (f := g) (rest := rest) hpr (by decide) st ft l2
      simp only [behind, er]
      by_cases h3 : pl Sg.imp.right r = 3
      · rw [if_pos h3]; rfl
      · rw [if_neg h3]
        cases rest with
        | nil => rfl
        | cons t rest =>
          cases t <;> first | rfl | exact absurd (hf.2 _ rfl) (by decide)
    · obtain ⟨e1, e2⟩ := right_ne hs
      obtain ⟨ft, st⟩ := fits_of hf c3 (by rw [← e1]; exact hpr)
      have er := qr.full (least := s.lev + 1) (f := g) (rest := rest) (by rw [← e1]; exact hpr) c4 st ft l2
      rw [told_sg _ _ _ _ _ hs, er]
      rfl
  | arrow l r il ir =>
    refine fun hw hz => ⟨fun _ => ?_, fun h => h.elim⟩
    intro least rest f hl h16 hf hlen
    have ql := ((il hw.2.2.1 hz.1).1 hw.1).par 12
    have qr := ((ir hw.2.2.2 hz.2).1 hw.2.1).par 13
    have hpl := pl_ge (k := 12) l (by decide)
    have hpr := pl_ge (k := 13) r (by decide)
    simp only [N.lev] at hl hf
    rw [toks_arrow, List.length_append, List.length_cons] at hlen
    rw [toks_arrow, List.append_assoc, List.cons_append]
    obtain ⟨g, hg, e⟩ := ql least (.arrow :: (ptoks 13 r ++ rest)) f (Nat.le_trans hl hpl) h16 ⟨fun L e => by cases e; exact ⟨.inl hpl, fun h => absurd (h ▸ hpl) (by decide)⟩, fun r' e => by cases e⟩ (by simp only [List.length_append, List.length_cons]; exact fu_b1 hlen)
    simp only [List.length_append, List.length_cons] at hg
    obtain ⟨g, rfl⟩ := ge2 hg
    obtain ⟨l1, l2⟩ := fu_b2 hg
    refine ⟨g + 1, l1, ?_⟩
    rw [e]
    refine lp_go (L := 12) rfl hl (fun h => absurd h.1 (by decide)) ?_
    obtain ⟨ft, st⟩ := fits_of hf (by decide) hpr
    have er := qr.full (least := 13) (f := g) (rest := rest) hpr (by decide) st ft l2
    simp only [behind, er]
    rfl
  | box b a ib ia =>
    refine fun hw hz => ⟨fun _ => ?_, fun h => h.elim⟩
    intro least rest f hl h16 hf hlen
    have ql := ((ib hw.2.2.1 hz.2.1).1 hw.1).par 15
    have hpl := pl_ge (k := 15) b (by decide)
    simp only [N.lev] at hl hf
    rw [toks_box, List.length_append, List.length_cons, List.length_append] at hlen
    rw [toks_box, List.append_assoc, List.cons_append, List.append_assoc]
    have pa := (ia hw.2.2.2 hz.2.2).2 hw.2.1 hz.1
    obtain ⟨g, hg, e⟩ := ql least (.lb :: (toks a ++ ([.rb] ++ rest))) f (Nat.le_trans hl hpl) h16 ⟨fun L e => by cases e; exact ⟨.inl hpl, fun h => absurd (h ▸ hpl) (by decide)⟩, fun r' e => by cases e⟩ (by simp only [List.length_append, List.length_cons, List.length_nil] at *; exact fu_x1 hlen)
    simp only [List.length_append, List.length_cons, List.length_nil] at hg
    obtain ⟨g, rfl⟩ := ge2 hg
    obtain ⟨l1, l2⟩ := fu_x2 hg
    refine ⟨g + 1, l1, ?_⟩
    rw [e]
    refine lp_go (L := 15) rfl hl (fun h => absurd h.1 (by decide)) ?_
    have ea := pa g rest (by omega)
    rw [show [Tok.rb] ++ rest = .rb :: rest from rfl]
    simp only [behind, ea]
    rfl
  | ite c t e ic it ie =>
    refine fun hw hz => ⟨fun _ => ?_, fun h => h.elim⟩
    intro least rest f hl h16 hf hlen
    have qc := ((ic hw.2.2.2.1 hz.1).1 hw.1).par 4
    have qt := ((it hw.2.2.2.2.1 hz.2.1).1 hw.2.1).par 4
    have qe := ((ie hw.2.2.2.2.2 hz.2.2).1 hw.2.2.1).par 3
    have hpc := pl_ge (k := 4) c (by decide)
    have hpt := pl_ge (k := 4) t (by decide)
    have hpe := pl_ge (k := 3) e (by decide)
    simp only [N.lev] at hl hf
    rw [toks_ite, List.length_append, List.length_cons, List.length_append, List.length_cons] at hlen
    rw [toks_ite, List.append_assoc, List.cons_append, List.append_assoc, List.cons_append]
    obtain ⟨g, hg, e1⟩ := qc least (.sg .imp :: (ptoks 4 t ++ .els :: (ptoks 3 e ++ rest))) f (by omega) h16 (fits_sg hpc (pl_le _ _)) (by simp only [List.length_append, List.length_cons]; omega)
    simp only [List.length_append, List.length_cons] at hg
    obtain ⟨g, rfl⟩ : ∃ g', g = g' + 2 := ⟨g - 2, by omega⟩
    refine ⟨g + 1, by omega, ?_⟩
    rw [e1]
    refine lp_go (L := 3) rfl hl (by omega) ?_
    have et := qt.full (least := 3) (f := g) (rest := .els :: (ptoks 3 e ++ rest)) (by omega) (by decide) (stp_none rfl) ⟨(fun L e => by cases e), fun _ _ => hpt⟩ (by simp only [List.length_append, List.length_cons]; omega)
    have st : Stp 3 rest := fun L e => (hf.1 L e).2 rfl
    have ee := qe.full (least := 3) (f := g) (rest := rest) hpe (by decide) st ⟨fun L e => ⟨.inl (by have := st L e; omega), fun _ => st L e⟩, fun r' e => absurd (hf.2 r' e) (by decide)⟩ (by omega)
    simp only [behind, et, if_neg (show ¬ pl 4 t = 3 by omega), ee]
    rfl
  | nil => exact fun _ _ => ⟨fun h => h.elim, fun _ h => absurd rfl h⟩
  | cons x xs ix ixs =>
    refine fun hw hz => ⟨fun h => h.elim, fun _ _ => ?_⟩
    have px := (ix hw.2.2.1 hz.1).1 hw.1
    intro f rest hlen
    obtain ⟨f, rfl⟩ : ∃ f', f = f' + 1 := ⟨f - 1, by omega⟩
    cases xs with
    | nil =>
      rw [toks_cons1] at hlen ⊢
      have := px.full0 (f := f) (t := .rb) (rest := rest) rfl (by simp) (by simp only [List.length_cons]; omega)
      simp only [args, this]
    | cons y ys =>
      have pxs := (ixs hw.2.2.2 hz.2).2 hw.2.1 (by simp)
      rw [toks_cons2, List.length_append, List.length_cons] at hlen
      rw [toks_cons2, List.append_assoc, List.cons_append]
      have := px.full0 (f := f) (t := .comma) (rest := toks (.cons y ys) ++ .rb :: rest) rfl (by simp) (by simp only [List.length_cons, List.length_append]; omega)
      have e2 := pxs f rest (by omega)
      simp only [args, this, e2]
    | _ => exact hw.2.1.elim
theorem read_back {x : N} (h : wf x) (hz : nz x) (hn : x.isNode) : readt (toks x) = some x := by
  obtain ⟨g, hg, e⟩ := ((printed x h hz).1 hn) 0 [] (fuel (toks x)) (Nat.zero_le _) (by decide) ⟨(fun L e => by cases e), (fun r e => by cases e)⟩ (by simp [fuel])
  rw [List.append_nil] at e
  unfold readt
  rw [e, lp_nil (by omega)]
theorem no_less {x : N} {s : List Tok} (h : lps s < lpn x) : readt s ≠ some x := fun e => by
  have := readt_cost e
  omega
end Mine
end
section
open PySem PySem.W PySem.Calls PyProof.Rows PySem.Spec
set_option maxRecDepth 100000
set_option autoImplicit false
namespace Mine
/-! words of a text -/
noncomputable def isW (c : Nat) : Bool := (decide (97 ≤ c) && decide (c ≤ 122)) || (decide (48 ≤ c) && decide (c ≤ 57))
noncomputable def wlen (m : List Nat) : Nat := (m.takeWhile isW).length
noncomputable def tokL : List (List Nat) := [[60, 61, 62], [33, 105, 110], [124, 124], [61, 62], [38, 38], [60, 61], [43, 43], [45, 62], [60, 58], [58, 62], [61], [43], [45], [38], [46], [33], [35], [126], [94], [40], [41], [91], [93], [44]]
noncomputable def nin (m : List Nat) : Bool := decide (m.take 3 = [33, 105, 110]) && !decide ((m.drop 3).take 1 = [32])
noncomputable def wordL (m : List Nat) : List Nat := if nin m then [33] else if 0 < wlen m then m.take (wlen m) else ((tokL.filter fun q => decide (m.take q.length = q)).head?).getD []
/-- what may stand behind a word -/
noncomputable def behindOk (t : Tok) (c : Option Nat) : Prop := match t with
  | .sg .in_ => c = some 32
  | .sg .dot => True
  | .sg _ => c = some 32
  | .arrow => c = some 32
  | .up .bang => c ≠ some 105
  | .up .some_ => c = some 32
  | .up .no_ => c = some 32
  | .up _ => True
  | .nm _ => ∀ x, c = some x → isW x = false
  | .univ => ∀ x, c = some x → isW x = false
  | .num _ => ∀ x, c = some x → isW x = false
  | .els => c = some 32
  | _ => True
theorem wlen_nil : wlen [] = 0 := rfl
theorem wlen_cons (c : Nat) (m : List Nat) : wlen (c :: m) = if isW c then wlen m + 1 else 0 := by
  unfold wlen
  rw [List.takeWhile_cons]
  split <;> simp
theorem wlen_off {r : List Nat} (h : ∀ x, r.head? = some x → isW x = false) : wlen r = 0 := by
  cases r with
  | nil => rfl
  | cons c r => rw [wlen_cons, h c rfl]; simp
theorem word_plain (a : List Nat) (r : List Nat) (ha : a.all isW = true) (h0 : a ≠ []) (h : ∀ x, r.head? = some x → isW x = false) : wordL (a ++ r) = a := by
  have e : ∀ a : List Nat, a.all isW = true → wlen (a ++ r) = a.length := by
    intro a
    induction a with
    | nil => intro _; exact wlen_off h
    | cons c a ih =>
      intro ha
      simp only [List.all_cons, Bool.and_eq_true] at ha
      rw [List.cons_append, wlen_cons, if_pos ha.1, ih ha.2]; rfl
  unfold wordL
  have hn : nin (a ++ r) = false := by
    cases a with
    | nil => exact absurd rfl h0
    | cons c a =>
      simp only [List.all_cons, Bool.and_eq_true] at ha
      have : c ≠ 33 := by rintro rfl; exact absurd ha.1 (by decide)
      simp [nin, this]
  rw [hn, e a ha]
  have : 0 < a.length := List.length_pos_iff.mpr h0
  simp [this]
theorem word_ok (t : Tok) (r : List Nat) (h : behindOk t r.head?) : wordL (t.cps ++ r) = t.cps := by
  have b32 : r.head? = some 32 → ∀ x, r.head? = some x → isW x = false := fun e x q => by rw [e] at q; cases q; decide
  have get : r.head? = some 32 → ∃ r', r = 32 :: r' := fun e => by
    cases r with
    | nil => cases e
    | cons c r => cases e; exact ⟨r, rfl⟩
  cases t with
  | sg s =>
    cases s
    case in_ => exact word_plain _ _ (by decide) (by decide) (b32 h)
    case dot => kernel_rfl
    all_goals
      obtain ⟨r', rfl⟩ := get h
      kernel_rfl
  | up u =>
    cases u
    case bang =>
      have h : r.head? ≠ some 105 := h
      cases r with
      | nil => decide
      | cons c r =>
        have : c ≠ 105 := fun e => h (by rw [e]; rfl)
        simp [wordL, nin, tokL, Tok.cps, Up.cps, wlen_cons, isW, this]
    case some_ => exact word_plain _ _ (by decide) (by decide) (b32 h)
    case no_ => exact word_plain _ _ (by decide) (by decide) (b32 h)
    all_goals kernel_rfl
  | arrow =>
    obtain ⟨r', rfl⟩ := get h
    kernel_rfl
  | nm b => exact word_plain _ _ (by cases b <;> decide) (by cases b <;> decide) h
  | univ => exact word_plain _ _ (by decide) (by decide) h
  | num k => exact word_plain _ _ (by rcases fin3 k with rfl | rfl | rfl <;> decide) (by simp [Tok.cps]) h
  | els => exact word_plain _ _ (by decide) (by decide) (b32 h)
  | _ => kernel_rfl
/-! the words of a printed text stand apart -/
noncomputable def OKp : Pcs → Prop
  | [] => True
  | none :: q => OKp q
  | some t :: q => behindOk t (render q).head? ∧ OKp q
/-- the first sign of what stands behind -/
noncomputable def Off (q : Pcs) : Prop := ∀ x, (render q).head? = some x → isW x = false
theorem off_gap (q : Pcs) : Off (none :: q) := fun x e => by cases e; decide
theorem off_tok {t : Tok} {q : Pcs} (h : ∀ c, t.cps.head? = some c → isW c = false) (h0 : t.cps ≠ []) : Off (some t :: q) := fun x e => by
  rw [render_tok] at e
  cases ht : t.cps with
  | nil => exact absurd ht h0
  | cons c cs => rw [ht] at e h; cases e; exact h _ rfl
theorem Tok.ne (t : Tok) : t.cps ≠ [] := fun e => absurd (tok_all (P := fun t => !t.cps.isEmpty) (by decide +kernel) t) (by rw [e]; decide)
noncomputable def fst (q : Pcs) : Option Nat := (render q).head?
theorem fst_tok (t : Tok) (q : Pcs) : fst (some t :: q) = t.cps.head? := by
  unfold fst
  rw [render_tok]
  cases h : t.cps with
  | nil => exact absurd h t.ne
  | cons c cs => rfl
theorem fst_par {x : N} {q : Pcs} (h : fst (pcs x ++ q) ≠ some 105) (k : Nat) : fst (par k x (pcs x) ++ q) ≠ some 105 := by
  unfold par
  split
  · exact h
  · rw [List.cons_append, fst_tok]; decide
theorem fst_pcs : ∀ (x : N), wf x → x.isNode → ∀ q, fst (pcs x ++ q) ≠ some 105 := by
  intro x
  induction x with
  | name b => exact fun _ _ q => by rw [pcs, List.cons_append, fst_tok]; cases b <;> decide
  | num k => exact fun _ _ q => by rw [pcs, List.cons_append, fst_tok]; simp [Tok.cps]
  | univ => exact fun _ _ q => by rw [pcs, List.cons_append, fst_tok]; decide
  | un u x ih => exact fun _ _ q => by rw [pcs, List.cons_append, fst_tok]; cases u <;> decide
  | bin s l r il ir => exact fun hw _ q => by rw [pcs, List.append_assoc]; exact fst_par (il hw.2.2.1 hw.1 _) _
  | arrow l r il ir => exact fun hw _ q => by rw [pcs, List.append_assoc]; exact fst_par (il hw.2.2.1 hw.1 _) _
  | box b a ib ia => exact fun hw _ q => by rw [pcs, List.append_assoc]; exact fst_par (ib hw.2.2.1 hw.1 _) _
  | ite c t e ic it ie => exact fun hw _ q => by rw [pcs, List.append_assoc]; exact fst_par (ic hw.2.2.2.1 hw.1 _) _
  | nil => exact fun _ h => h.elim
  | cons x xs ix ixs => exact fun _ h => h.elim
noncomputable def Apa (p : Pcs) : Prop := ∀ q, Off q → OKp q → OKp (p ++ q)
theorem apa_par {x : N} (h : Apa (pcs x)) (k : Nat) : Apa (par k x (pcs x)) := by
  intro q h1 h2
  unfold par
  split
  · exact h q h1 h2
  · rw [List.cons_append, List.append_assoc]
    exact ⟨trivial, h _ (off_tok (by decide) (by decide)) ⟨trivial, h2⟩⟩
theorem off_nil : Off [] := fun x e => by cases e
theorem apart_pcs : ∀ (x : N), wf x → (x.isNode → Apa (pcs x)) ∧ (x.isRow → Apa (pcs x)) := by
  intro x
  induction x with
  | name b => exact fun _ => ⟨fun _ q h1 h2 => ⟨h1, h2⟩, fun h => h.elim⟩
  | num k => exact fun _ => ⟨fun _ q h1 h2 => ⟨h1, h2⟩, fun h => h.elim⟩
  | univ => exact fun _ => ⟨fun _ q h1 h2 => ⟨h1, h2⟩, fun h => h.elim⟩
  | un u x ih =>
    refine fun hw => ⟨fun _ q h1 h2 => ?_, fun h => h.elim⟩
    have := apa_par ((ih hw.2).1 hw.1) u.lev q h1 h2
    rw [pcs, List.cons_append, List.append_assoc]
    cases u <;> first
      | exact ⟨fst_par (fst_pcs x hw.2 hw.1 q) _, this⟩
      | exact ⟨rfl, this⟩
      | exact ⟨trivial, this⟩
  | bin s l r il ir =>
    refine fun hw => ⟨fun _ q h1 h2 => ?_, fun h => h.elim⟩
    have hr := apa_par ((ir hw.2.2.2).1 hw.2.1) s.right q h1 h2
    have hl := apa_par ((il hw.2.2.1).1 hw.1) s.left
    rw [pcs, List.append_assoc]
    rw [List.append_assoc, List.cons_append, List.append_assoc]
    cases s
    case dot => exact hl _ (off_tok (by decide) (by decide)) ⟨trivial, hr⟩
    all_goals exact hl _ (off_gap _) ⟨rfl, hr⟩
  | arrow l r il ir =>
    refine fun hw => ⟨fun _ q h1 h2 => ?_, fun h => h.elim⟩
    have hr := apa_par ((ir hw.2.2.2).1 hw.2.1) 13 q h1 h2
    have hl := apa_par ((il hw.2.2.1).1 hw.1) 12
    rw [pcs, List.append_assoc]
    exact hl _ (off_gap _) ⟨rfl, hr⟩
  | box b a ib ia =>
    refine fun hw => ⟨fun _ q h1 h2 => ?_, fun h => h.elim⟩
    have ha := (ia hw.2.2.2).2 hw.2.1 (some .rb :: q) (off_tok (by decide) (by decide)) ⟨trivial, h2⟩
    have hb := apa_par ((ib hw.2.2.1).1 hw.1) 15
    rw [pcs, List.append_assoc, List.cons_append, List.append_assoc]
    exact hb _ (off_tok (by decide) (by decide)) ⟨trivial, ha⟩
  | ite c t e ic it ie =>
    refine fun hw => ⟨fun _ q h1 h2 => ?_, fun h => h.elim⟩
    have he := apa_par ((ie hw.2.2.2.2.2).1 hw.2.2.1) 3 q h1 h2
    have ht := apa_par ((it hw.2.2.2.2.1).1 hw.2.1) 4
    have hc := apa_par ((ic hw.2.2.2.1).1 hw.1) 4
    rw [pcs, List.append_assoc]
    refine hc _ (off_gap _) ⟨rfl, ?_⟩
    show OKp ((par 4 t (pcs t) ++ none :: some .els :: none :: par 3 e (pcs e)) ++ q)
    rw [List.append_assoc]
    exact ht _ (off_gap _) ⟨rfl, he⟩
  | nil => exact fun _ => ⟨fun h => h.elim, fun _ q h1 h2 => h2⟩
  | cons x xs ix ixs =>
    refine fun hw => ⟨fun h => h.elim, fun _ q h1 h2 => ?_⟩
    have hx := (ix hw.2.2.1).1 hw.1
    rw [pcs, List.append_assoc]
    cases xs with
    | nil => exact hx _ h1 h2
    | cons y ys =>
      have hxs := (ixs hw.2.2.2).2 hw.2.1 q h1 h2
      exact hx _ (off_tok (by decide) (by decide)) ⟨trivial, hxs⟩
    | _ => exact hw.2.1.elim
theorem ok_pcs {x : N} (hw : wf x) (hn : x.isNode) : OKp (pcs x) := by
  have := (apart_pcs x hw).1 hn [] off_nil trivial
  rwa [List.append_nil] at this
/-! signs and lengths -/
theorem tok_small (t : Tok) : ∀ c ∈ t.cps, c < 128 := fun c hc => of_decide_eq_true (List.all_eq_true.mp (tok_all (P := fun t => t.cps.all fun c => decide (c < 128)) (by decide +kernel) t) c hc)
theorem render_small (p : Pcs) : ∀ c ∈ render p, c < 128 := by
  intro c hc
  obtain ⟨o, _, ho⟩ := List.mem_flatMap.mp hc
  cases o with
  | none => have : c = 32 := by simpa [pcps] using ho
            omega
  | some t => exact tok_small t c ho
theorem tok_head32 (t : Tok) : ∃ c cs, t.cps = c :: cs ∧ c ≠ 32 := by
  have h : t.cps.headD 32 ≠ 32 := of_decide_eq_true (tok_all (P := fun t => decide (t.cps.headD 32 ≠ 32)) (by decide +kernel) t)
  cases e : t.cps with
  | nil => rw [e] at h; exact absurd rfl h
  | cons c cs => rw [e] at h; exact ⟨c, cs, rfl, h⟩
/-! how long a printed text is -/
noncomputable def lnP : Nat → Nat
  | 0 => 1
  | k + 1 => 3 * lnP k + 12
theorem par_len (k : Nat) (x : N) : (par k x (pcs x)).length ≤ (pcs x).length + 2 := by
  unfold par
  split
  · exact Nat.le_add_right _ 2
  · rw [List.length_cons, List.length_append]; exact Nat.le_refl _
theorem ln_ge (k : Nat) : 1 ≤ lnP k := by cases k <;> simp [lnP]
/-- a node of three parts, with at most six pieces between them -/
theorem ln3 {k m a b c : Nat} {x y z : Nat} (hx : a ≤ x + 2) (hy : b ≤ y + 2) (hz : c ≤ z + 2) (h1 : x ≤ lnP k) (h2 : y ≤ lnP k) (h3 : z ≤ lnP k) (hm : m ≤ a + b + c + 6) : m ≤ lnP (k + 1) := by
  show m ≤ 3 * lnP k + 12
  omega
theorem gap_le (s : Sg) : (gapS s).length ≤ 1 := by cases s <;> decide
theorem gapU_le (u : Up) : (gapU u).length ≤ 1 := by cases u <;> decide
theorem pcs_len {k : Nat} {t : N} (g : Gen k t) : (pcs t).length ≤ lnP k := by
  induction g with
  | name b => exact ln_ge _
  | num b => exact ln_ge _
  | univ => exact ln_ge _
  | @un k x u g ih =>
    refine ln3 (par_len u.lev x) (Nat.zero_le _) (Nat.zero_le _) ih (ln_ge k) (ln_ge k) (a := (par u.lev x (pcs x)).length) (b := 0) (c := 0) ?_
    rw [pcs, List.length_cons, List.length_append]
    have := gapU_le u
    generalize (par u.lev x (pcs x)).length = a
    omega
  | @bin k l r s g h ig ih =>
    refine ln3 (par_len s.left l) (par_len s.right r) (Nat.zero_le _) ig ih (ln_ge k) (c := 0) ?_
    rw [pcs, List.length_append, List.length_append, List.length_cons, List.length_append]
    have := gap_le s
    generalize (par s.left l (pcs l)).length = a
    generalize (par s.right r (pcs r)).length = b
    omega
  | @arrow k l r g h ig ih =>
    refine ln3 (par_len 12 l) (par_len 13 r) (Nat.zero_le _) ig ih (ln_ge k) (c := 0) ?_
    rw [pcs, List.length_append]
    simp only [List.length_cons]
    generalize (par 12 l (pcs l)).length = a
    generalize (par 13 r (pcs r)).length = b
    omega
  | @box1 k b x g h ig ih =>
    refine ln3 (par_len 15 b) (Nat.le_add_right _ 2) (Nat.zero_le _) ig ih (ln_ge k) (c := 0) ?_
    rw [pcs, List.length_append, List.length_cons, List.length_append, pcs, List.length_append]
    show _ + (_ + 0 + 1 + 1) ≤ _
    generalize (par 15 b (pcs b)).length = a
    omega
  | @box2 k b x y g h i ig ih ii =>
    refine ln3 (par_len 15 b) (Nat.le_add_right _ 2) (Nat.le_add_right _ 2) ig ih ii ?_
    rw [pcs, List.length_append, List.length_cons, List.length_append, pcs, List.length_append]
    show _ + (_ + ((pcs (.cons y .nil)).length + 1 + 1) + 1 + 1) ≤ _
    rw [pcs, List.length_append]
    show _ + (_ + (_ + 0 + 1 + 1) + 1 + 1) ≤ _
    generalize (par 15 b (pcs b)).length = a
    omega
  | @ite k c t e g h i ig ih ii =>
    refine ln3 (par_len 4 c) (par_len 4 t) (par_len 3 e) ig ih ii ?_
    rw [pcs, List.length_append]
    simp only [List.length_cons, List.length_append]
    generalize (par 4 c (pcs c)).length = a
    generalize (par 4 t (pcs t)).length = b
    generalize (par 3 e (pcs e)).length = d
    omega
theorem tok_len4 : ∀ o : Option Tok, (pcps o).length ≤ 4
  | none => by decide
  | some t => of_decide_eq_true (tok_all (P := fun t => decide (t.cps.length ≤ 4)) (by decide +kernel) t)
theorem render_len : ∀ p : Pcs, (render p).length ≤ 4 * p.length
  | [] => Nat.le_refl _
  | o :: p => by
    have h1 := render_len p
    have h2 := tok_len4 o
    have : render (o :: p) = pcps o ++ render p := rfl
    rw [this, List.length_append, List.length_cons]
    omega
theorem toksOf_len (p : Pcs) : (toksOf p).length ≤ p.length := List.length_filterMap_le _ _
end Mine
end
section
open PySem PySem.W PySem.Calls PyProof.Rows PySem.Spec
set_option maxRecDepth 100000
set_option autoImplicit false
namespace Mine
theorem toks_len {k : Nat} {t : N} (g : Gen k t) : (toks t).length ≤ lnP k := Nat.le_trans (toksOf_len (pcs t)) (pcs_len g)
/-! pairs of parentheses -/
noncomputable def pairsA : List Tok → Nat → List Nat → List (Nat × Nat) → Option (List (Nat × Nat))
  | [], _, _, acc => some acc
  | t :: r, i, st, acc => if t.isLp then pairsA r (i + 1) (i :: st) acc else if t.isRp then (match st with
    | b :: st' => pairsA r (i + 1) st' (acc ++ [(b, i)])
    | [] => none) else pairsA r (i + 1) st acc
theorem pairsA_cons (t : Tok) (r : List Tok) (i : Nat) (st : List Nat) (acc : List (Nat × Nat)) : pairsA (t :: r) i st acc = if t.isLp then pairsA r (i + 1) (i :: st) acc else if t.isRp then (match st with
    | b :: st' => pairsA r (i + 1) st' (acc ++ [(b, i)])
    | [] => none) else pairsA r (i + 1) st acc := by rw [pairsA.eq_def]
noncomputable def Bal (s : List Tok) : Prop := ∀ rest i st acc, ∃ acc', pairsA (s ++ rest) i st acc = pairsA rest (i + s.length) st (acc ++ acc')
theorem bal_nil : Bal [] := fun rest i st acc => ⟨[], by simp⟩
theorem bal_app {a b : List Tok} (ha : Bal a) (hb : Bal b) : Bal (a ++ b) := fun rest i st acc => by
  obtain ⟨x, hx⟩ := ha (b ++ rest) i st acc
  obtain ⟨y, hy⟩ := hb rest (i + a.length) st (acc ++ x)
  exact ⟨x ++ y, by rw [List.append_assoc, hx, hy, List.length_append, List.append_assoc, Nat.add_assoc]⟩
theorem bal_cons {t : Tok} {a : List Tok} (h1 : t.isLp = false) (h2 : t.isRp = false) (ha : Bal a) : Bal (t :: a) := fun rest i st acc => by
  obtain ⟨x, hx⟩ := ha rest (i + 1) st acc
  refine ⟨x, ?_⟩
  rw [List.cons_append, pairsA_cons, h1, h2]
  simp only [Bool.false_eq_true, if_false]
  rw [hx, List.length_cons]
  congr 1; omega
theorem bal_par {a : List Tok} (ha : Bal a) : Bal (.lp :: (a ++ [.rp])) := fun rest i st acc => by
  obtain ⟨x, hx⟩ := ha (.rp :: rest) (i + 1) (i :: st) acc
  refine ⟨x ++ [(i, i + 1 + a.length)], ?_⟩
  rw [List.cons_append, pairsA_cons, List.append_assoc]
  simp only [Tok.isLp, if_true]
  rw [show [Tok.rp] ++ rest = .rp :: rest from rfl, hx, pairsA_cons]
  simp only [Tok.isLp, Tok.isRp, if_true, Bool.false_eq_true, if_false, List.append_assoc, List.length_cons, List.length_append, List.length_nil]
  congr 1; omega
theorem bal_ptoks {x : N} (h : Bal (toks x)) (k : Nat) : Bal (ptoks k x) := by
  rw [ptoks_eq]
  split
  · exact h
  · exact bal_par h
theorem bal_toks {k : Nat} {t : N} (g : Gen k t) : Bal (toks t) := by
  induction g with
  | name b => exact bal_cons rfl rfl bal_nil
  | num b => exact bal_cons rfl rfl bal_nil
  | univ => exact bal_cons rfl rfl bal_nil
  | un u g ih => rw [toks_un]; exact bal_cons rfl rfl (bal_ptoks ih _)
  | bin s g h ig ih => rw [toks_bin]; exact bal_app (bal_ptoks ig _) (bal_cons rfl rfl (bal_ptoks ih _))
  | arrow g h ig ih => rw [toks_arrow]; exact bal_app (bal_ptoks ig _) (bal_cons rfl rfl (bal_ptoks ih _))
  | box1 g h ig ih => rw [toks_box, toks_cons1]; exact bal_app (bal_ptoks ig _) (bal_cons rfl rfl (bal_app ih (bal_cons rfl rfl bal_nil)))
  | box2 g h i ig ih ii => rw [toks_box, toks_cons2, toks_cons1]; exact bal_app (bal_ptoks ig _) (bal_cons rfl rfl (bal_app (bal_app ih (bal_cons rfl rfl ii)) (bal_cons rfl rfl bal_nil)))
  | ite g h i ig ih ii => rw [toks_ite]; exact bal_app (bal_ptoks ig _) (bal_cons rfl rfl (bal_app (bal_ptoks ih _) (bal_cons rfl rfl (bal_ptoks ii _))))
noncomputable def PairOk (ws : List Tok) (p : Nat × Nat) : Prop := p.1 < p.2 ∧ p.2 < ws.length ∧ ws[p.1]? = some .lp
theorem pairsA_ok (ws : List Tok) : ∀ (s : List Tok) (i : Nat) (st : List Nat) (acc res : List (Nat × Nat)), ws.drop i = s → (∀ b ∈ st, b < i ∧ ws[b]? = some .lp) → (∀ p ∈ acc, PairOk ws p) → pairsA s i st acc = some res → ∀ p ∈ res, PairOk ws p := by
  intro s
  induction s with
  | nil => intro i st acc res _ _ ha e; cases e; exact ha
  | cons t s ih =>
    intro i st acc res hd hs ha e
    have hlt : i < ws.length := by
      have := congrArg List.length hd
      simp at this; omega
    have hn : ws.drop (i + 1) = s := by rw [← List.drop_drop, hd]; rfl
    have hi : ws[i]? = some t := by
      have : (ws.drop i)[0]? = some t := by rw [hd]; rfl
      rwa [List.getElem?_drop] at this
    rw [pairsA_cons] at e
    cases hl : t.isLp with
    | true =>
      rw [hl] at e
      simp only [if_true] at e
      refine ih (i + 1) _ _ _ hn ?_ ha e
      intro b hb
      rcases List.mem_cons.mp hb with rfl | hb
      · refine ⟨Nat.lt_succ_self _, ?_⟩
        rw [hi]
        cases t <;> first | rfl | cases hl
      · exact ⟨Nat.lt_succ_of_lt (hs b hb).1, (hs b hb).2⟩
    | false =>
      rw [hl] at e
      simp only [Bool.false_eq_true, if_false] at e
      cases hr : t.isRp with
      | true =>
        rw [hr] at e
        simp only [if_true] at e
        cases st with
        | nil => cases e
        | cons b st =>
          refine ih (i + 1) _ _ _ hn (fun c hc => ⟨Nat.lt_succ_of_lt (hs c (.tail _ hc)).1, (hs c (.tail _ hc)).2⟩) ?_ e
          intro p hp
          rcases List.mem_append.mp hp with hp | hp
          · exact ha p hp
          · obtain rfl : p = (b, i) := by simpa using hp
            exact ⟨(hs b (.head _)).1, hlt, (hs b (.head _)).2⟩
      | false =>
        rw [hr] at e
        simp only [Bool.false_eq_true, if_false] at e
        exact ih (i + 1) _ _ _ hn (fun c hc => ⟨Nat.lt_succ_of_lt (hs c hc).1, (hs c hc).2⟩) ha e
theorem pairs_of {k : Nat} {t : N} (g : Gen k t) : ∃ res, pairsA (toks t) 0 [] [] = some res ∧ ∀ p ∈ res, PairOk (toks t) p := by
  obtain ⟨res, h⟩ := bal_toks g [] 0 [] []
  rw [List.append_nil] at h
  rw [show pairsA [] (0 + (toks t).length) [] ([] ++ res) = some res by simp [pairsA]] at h
  exact ⟨res, h, pairsA_ok (toks t) (toks t) 0 [] [] res (by simp) nofun nofun h⟩
noncomputable def gone (ws : List Tok) (b e : Nat) : List Tok := ws.take b ++ (ws.drop (b + 1)).take (e - (b + 1)) ++ ws.drop (e + 1)
theorem gone_less {ws : List Tok} {p : Nat × Nat} (h : PairOk ws p) : lps (gone ws p.1 p.2) < lps ws ∧ (gone ws p.1 p.2).length ≤ ws.length := by
  obtain ⟨b, e⟩ := p
  obtain ⟨h1, h2, h3⟩ := h
  simp only at h1 h2 h3
  have e1 : ws.drop b = .lp :: ws.drop (b + 1) := by
    have hb : b < ws.length := by omega
    rw [List.drop_eq_getElem_cons hb]
    rw [(List.getElem?_eq_some_iff.mp h3).2]
  have e2 : ws = ws.take b ++ .lp :: ws.drop (b + 1) := by rw [← e1, List.take_append_drop]
  have e3 : ws.drop (b + 1) = (ws.drop (b + 1)).take (e - (b + 1)) ++ ws.drop e := by
    conv => lhs; rw [← List.take_append_drop (e - (b + 1)) (ws.drop (b + 1))]
    rw [List.drop_drop]
    congr 2; omega
  have e4 : ws.drop e = ws[e] :: ws.drop (e + 1) := List.drop_eq_getElem_cons h2
  show lps (gone ws b e) < lps ws ∧ (gone ws b e).length ≤ ws.length
  unfold gone
  constructor
  · have : lps ws = lps (ws.take b) + (lps ((ws.drop (b + 1)).take (e - (b + 1))) + (lps (ws.drop (e + 1)) + (if ws[e].isLp then 1 else 0)) + 1) := by
      conv => lhs; rw [e2, lps_app, lps_cons, e3, lps_app, e4, lps_cons]
      rfl
    rw [this, lps_app, lps_app, Nat.add_assoc]
    exact Nat.add_lt_add_left (Nat.lt_succ_of_le (Nat.add_le_add_left (Nat.le_add_right _ _) _)) _
  · have : ws.length = (ws.take b).length + (((ws.drop (b + 1)).take (e - (b + 1))).length + ((ws.drop (e + 1)).length + 1) + 1) := by
      conv => lhs; rw [e2, List.length_append, List.length_cons, e3, List.length_append, e4, List.length_cons]
    rw [this, List.length_append, List.length_append, Nat.add_assoc]
    exact Nat.add_le_add_left (Nat.le_succ_of_le (Nat.add_le_add_left (Nat.le_succ _) _)) _
end Mine
end
section
open PySem PySem.W PySem.Calls PyProof.Rows PySem.Spec
set_option maxRecDepth 100000
set_option autoImplicit false
namespace Mine
noncomputable def Gd (x : N) : Prop := x.isNode ∧ wf x
theorem reader_wf : ∀ f : Nat, Reads5 (fun _ _ x _ _ => Gd x) (fun _ _ x _ _ => Gd x) (fun x _ _ _ y _ _ => Gd x → Gd y) (fun x _ _ _ y _ _ => Gd x → Gd y) (fun _ a _ => a.isRow ∧ wf a) f := reader_ind
  { up := fun _ _ _ _ _ _ _ h => ⟨trivial, h⟩
    lp := fun _ _ _ _ _ h => h
    univ := fun _ _ => ⟨trivial, trivial⟩
    num := fun _ _ _ => ⟨trivial, trivial⟩
    nm := fun _ _ _ => ⟨trivial, trivial⟩
    told := fun _ _ _ _ _ _ _ _ h h' => h' h
    stop := fun _ _ _ _ _ h => h
    go := fun _ _ _ _ _ _ _ _ _ _ _ _ _ _ _ h h' x => h' (h x)
    lb := fun _ _ _ _ _ h x => ⟨trivial, x.1, h.1, x.2, h.2⟩
    arrow := fun _ _ _ _ _ _ h x => ⟨trivial, x.1, h.1, x.2, h.2⟩
    imp := fun _ _ _ _ _ _ h x => ⟨trivial, x.1, h.1, x.2, h.2⟩
    els := fun _ _ _ _ _ _ _ _ _ h _ h' x => ⟨trivial, x.1, h.1, h'.1, x.2, h.2, h'.2⟩
    sg := fun _ _ _ _ _ _ _ _ h x => ⟨trivial, x.1, h.1, x.2, h.2⟩
    more := fun _ _ _ _ _ _ h h' => ⟨trivial, h.1, h'.1, h.2, h'.2⟩
    last := fun _ _ _ _ h => ⟨trivial, h.1, trivial, h.2, trivial⟩ }
theorem readt_wf {s : List Tok} {x : N} (h : readt s = some x) : x.isNode ∧ wf x := by
  unfold readt at h
  split at h
  · rename_i e
    cases h
    exact (reader_wf _).2.1 _ _ _ _ _ e
  · cases h
/-! the depth of the data -/
theorem ok_mono : ∀ (n : Nat) (d : PyData), plain n d = true → plain (n + 1) d = true := by
  intro n
  induction n with
  | zero => intro d h; cases d <;> first | exact h | (simp [plain] at h) | rfl
  | succ n ih =>
    intro d h
    cases d with
    | tuple ds => simp only [plain, List.all_eq_true] at h ⊢; exact fun x hx => ih x (h x hx)
    | list ds => simp only [plain, List.all_eq_true] at h ⊢; exact fun x hx => ih x (h x hx)
    | _ => first | exact h | rfl | (simp [plain] at h)
theorem ok_le {n m : Nat} {d : PyData} (h : n ≤ m) (e : plain n d = true) : plain m d = true := by
  obtain ⟨k, rfl⟩ := Nat.exists_eq_add_of_le h
  clear h
  induction k with
  | zero => exact e
  | succ k ih => exact ok_mono _ _ ih
theorem ok_str0 {n : Nat} {x : Str} (h : PyData.strOk x = true) : plain n (.str x) = true := by cases n <;> exact h
theorem ok_int0 {n : Nat} {i : Int} : plain n (.int i) = true := by cases n <;> rfl
theorem up_ok (u : Up) : PyData.strOk u.str = true := by cases u <;> decide +kernel
theorem sg_ok (u : Sg) : PyData.strOk u.str = true := by cases u <;> decide +kernel
theorem nm_ok (u : Bool) : PyData.strOk (S (nmCps u)) = true := by cases u <;> decide +kernel
theorem ok_tup {n : Nat} {ds : List PyData} (h : ∀ d ∈ ds, plain n d = true) : plain (n + 1) (.tuple ds) = true := by
  simpa only [plain, List.all_eq_true] using h
theorem ok_row {n : Nat} {d : PyData} (h : plain (n + 1) d = true) : ∀ x ∈ untupD d, plain n x = true := by
  cases d with
  | tuple ds => simpa only [plain, List.all_eq_true, untupD] using h
  | _ => exact nofun
theorem ok_dat : ∀ x : N, ∃ n, plain (n + 1) (dat x) = true := by
  have lit : ∀ {n : Nat} {x : Str}, PyData.strOk x = true → plain n (.str x) = true := ok_str0
  intro x
  induction x with
  | name b => exact ⟨0, ok_tup (by simp [plain, nm_ok]; decide +kernel)⟩
  | num b => exact ⟨0, ok_tup (by simp [plain]; decide +kernel)⟩
  | univ => exact ⟨0, ok_tup (by simp [plain]; decide +kernel)⟩
  | un u x ih =>
    obtain ⟨n, h⟩ := ih
    refine ⟨n + 1, ok_tup ?_⟩
    intro d hd
    rcases (by simpa using hd : d = _ ∨ d = _ ∨ d = _ ∨ d = _) with rfl | rfl | rfl | rfl
    · exact lit (by decide +kernel)
    · exact ok_int0
    · exact lit (up_ok u)
    · exact h
  | bin s l r il ir =>
    obtain ⟨n, h⟩ := il
    obtain ⟨m, k⟩ := ir
    refine ⟨max n m + 1, ok_tup ?_⟩
    intro d hd
    rcases (by simpa using hd : d = _ ∨ d = _ ∨ d = _ ∨ d = _ ∨ d = _) with rfl | rfl | rfl | rfl | rfl
    · exact lit (by decide +kernel)
    · exact ok_int0
    · exact lit (sg_ok s)
    · exact ok_le (by omega) h
    · exact ok_le (by omega) k
  | arrow l r il ir =>
    obtain ⟨n, h⟩ := il
    obtain ⟨m, k⟩ := ir
    refine ⟨max n m + 1, ok_tup ?_⟩
    intro d hd
    rcases (by simpa using hd : d = _ ∨ d = _ ∨ d = _ ∨ d = _ ∨ d = _) with rfl | rfl | rfl | rfl | rfl
    · exact lit (by decide +kernel)
    · exact ok_int0
    · exact lit (by decide +kernel)
    · exact ok_le (by omega) h
    · exact ok_le (by omega) k
  | box b a ib ia =>
    obtain ⟨n, h⟩ := ib
    obtain ⟨m, k⟩ := ia
    refine ⟨max n m + 1, ok_tup ?_⟩
    intro d hd
    rcases (by simpa using hd : d = _ ∨ d = _ ∨ d = _ ∨ d = _) with rfl | rfl | rfl | rfl
    · exact lit (by decide +kernel)
    · exact ok_int0
    · exact ok_le (by omega) h
    · exact ok_le (by omega) k
  | ite c t e ic it ie =>
    obtain ⟨n, h⟩ := ic
    obtain ⟨m, k⟩ := it
    obtain ⟨o, j⟩ := ie
    refine ⟨max n (max m o) + 1, ok_tup ?_⟩
    intro d hd
    rcases (by simpa using hd : d = _ ∨ d = _ ∨ d = _ ∨ d = _ ∨ d = _) with rfl | rfl | rfl | rfl | rfl
    · exact lit (by decide +kernel)
    · exact ok_int0
    · exact ok_le (by omega) h
    · exact ok_le (by omega) k
    · exact ok_le (by omega) j
  | nil => exact ⟨0, by rw [dat]; exact ok_tup nofun⟩
  | cons x xs ix ixs =>
    obtain ⟨n, h⟩ := ix
    obtain ⟨m, k⟩ := ixs
    refine ⟨max n m + 1, ?_⟩
    rw [dat]
    refine ok_tup ?_
    intro d hd
    rcases List.mem_cons.mp hd with rfl | hd
    · exact ok_le (by omega) h
    · exact ok_le (by omega) (ok_row (ok_le (Nat.le_refl _) k) d hd)
theorem ok_gen {k : Nat} {t : N} (g : Gen k t) : plain (2 * k + 1) (dat t) = true := by
  have lit : ∀ {n : Nat} {x : Str}, PyData.strOk x = true → plain n (.str x) = true := ok_str0
  induction g with
  | name b => exact ok_tup (by intro d hd; rcases (by simpa using hd : d = _ ∨ d = _ ∨ d = _) with rfl | rfl | rfl; exact lit (by decide +kernel); exact ok_int0; exact lit (nm_ok b))
  | num b => exact ok_tup (by intro d hd; rcases (by simpa using hd : d = _ ∨ d = _ ∨ d = _) with rfl | rfl | rfl; exact lit (by decide +kernel); exact ok_int0; exact ok_int0)
  | univ => exact ok_tup (by intro d hd; rcases (by simpa using hd : d = _ ∨ d = _) with rfl | rfl; exact lit (by decide +kernel); exact ok_int0)
  | @un k x u g h =>
    refine ok_tup ?_
    intro d hd
    rcases (by simpa using hd : d = _ ∨ d = _ ∨ d = _ ∨ d = _) with rfl | rfl | rfl | rfl
    · exact lit (by decide +kernel)
    · exact ok_int0
    · exact lit (up_ok u)
    · exact ok_le (by omega) h
  | @bin k l r s g g' h h' =>
    refine ok_tup ?_
    intro d hd
    rcases (by simpa using hd : d = _ ∨ d = _ ∨ d = _ ∨ d = _ ∨ d = _) with rfl | rfl | rfl | rfl | rfl
    · exact lit (by decide +kernel)
    · exact ok_int0
    · exact lit (sg_ok s)
    · exact ok_le (by omega) h
    · exact ok_le (by omega) h'
  | @arrow k l r g g' h h' =>
    refine ok_tup ?_
    intro d hd
    rcases (by simpa using hd : d = _ ∨ d = _ ∨ d = _ ∨ d = _ ∨ d = _) with rfl | rfl | rfl | rfl | rfl
    · exact lit (by decide +kernel)
    · exact ok_int0
    · exact lit (by decide +kernel)
    · exact ok_le (by omega) h
    · exact ok_le (by omega) h'
  | @box1 k b x g g' h h' =>
    refine ok_tup ?_
    intro d hd
    rcases (by simpa using hd : d = _ ∨ d = _ ∨ d = _ ∨ d = _) with rfl | rfl | rfl | rfl
    · exact lit (by decide +kernel)
    · exact ok_int0
    · exact ok_le (by omega) h
    · rw [dat]
      refine ok_tup ?_
      intro d hd
      obtain rfl : d = dat x := by simpa [dat, untupD] using hd
      exact h'
  | @box2 k b x y g g' g'' h h' h'' =>
    refine ok_tup ?_
    intro d hd
    rcases (by simpa using hd : d = _ ∨ d = _ ∨ d = _ ∨ d = _) with rfl | rfl | rfl | rfl
    · exact lit (by decide +kernel)
    · exact ok_int0
    · exact ok_le (by omega) h
    · rw [dat]
      refine ok_tup ?_
      intro d hd
      rcases (by simpa [dat, untupD] using hd : d = dat x ∨ d = dat y) with rfl | rfl
      · exact h'
      · exact h''
  | @ite k c t e g g' g'' h h' h'' =>
    refine ok_tup ?_
    intro d hd
    rcases (by simpa using hd : d = _ ∨ d = _ ∨ d = _ ∨ d = _ ∨ d = _) with rfl | rfl | rfl | rfl | rfl
    · exact lit (by decide +kernel)
    · exact ok_int0
    · exact ok_le (by omega) h
    · exact ok_le (by omega) h'
    · exact ok_le (by omega) h''
noncomputable def readD : Option N → PyData
  | some x => dat x
  | none => .none
theorem readD_ok {s : List Tok} : ∃ n, plain n (readD (readt s)) = true := by
  cases h : readt s with
  | none => exact ⟨0, rfl⟩
  | some x => obtain ⟨n, h⟩ := ok_dat x; exact ⟨n + 1, h⟩
theorem readD_ne {s : List Tok} {k : Nat} {t : N} (g : Gen k t) (h : readt s ≠ some t) : readD (readt s) ≠ dat t := by
  cases e : readt s with
  | none => intro q; cases g <;> (rw [readD] at q; cases q)
  | some x =>
    intro q
    have := readt_wf e
    exact h (by rw [e, dat_inj this.2 g.wf q])
end Mine
end
section
open PySem PySem.W PySem.Calls PyProof.Rows PySem.Spec
set_option maxRecDepth 100000
set_option maxHeartbeats 4000000
set_option autoImplicit false
namespace Mine
local macro_rules
  | `(tactic| tm_at "mine expr") => `(tactic| (first | (tm_at "mine e1") | (tm_at "mine e2") | (tm_at "mine e3") | fail))
local macro_rules
  | `(tactic| tm_at "mine op") => `(tactic| (first | (tm_at "mine o1") | (tm_at "mine o2") | fail))
local macro_rules
  | `(tactic| tm_at "mine stmt") => `(tactic| (first | (tm_at "mine s1") | (tm_at "mine s2") | (tm_at "mine s3") | fail))
local macro_rules
  | `(tactic| tm_at "mine dict") => `(tactic| (first | with_reducible refine evPr_nil ?_ | with_reducible refine evPr_cons ?_))
local macro_rules
  | `(tactic| tm_at "mine num") => `(tactic| (first | with_reducible refine br_t (by first | (simp; done) | (simp; omega)) ?_ | with_reducible refine br_f (by first | (simp; done) | (simp; omega)) ?_ | fail))
local macro_rules
  | `(tactic| tm_at "mine tok") => `(tactic| (first | with_reducible refine br_t ((tok_lp _).trans (by with_unfolding_all exact rfl)) ?_ | with_reducible refine br_f ((tok_lp _).trans (by with_unfolding_all exact rfl)) ?_ | with_reducible refine br_t ((tok_univ _).trans (by with_unfolding_all exact rfl)) ?_ | with_reducible refine br_f ((tok_univ _).trans (by with_unfolding_all exact rfl)) ?_ | with_reducible refine br_f (tok_nil _) ?_ | with_reducible refine br_t (tok_nn _) ?_ | with_reducible refine br_t ((tok_ab _).trans (by with_unfolding_all exact rfl)) ?_ | with_reducible refine br_f ((tok_ab _).trans (by with_unfolding_all exact rfl)) ?_ | with_reducible refine br_t ((tok_digit _).trans (by with_unfolding_all exact rfl)) ?_ | with_reducible refine br_f ((tok_digit _).trans (by with_unfolding_all exact rfl)) ?_ | with_reducible refine br_t ((tok_lb _).trans (by with_unfolding_all exact rfl)) ?_ | with_reducible refine br_f ((tok_lb _).trans (by with_unfolding_all exact rfl)) ?_ | with_reducible refine br_t ((tok_imp _).trans (by with_unfolding_all exact rfl)) ?_ | with_reducible refine br_f ((tok_imp _).trans (by with_unfolding_all exact rfl)) ?_ | with_reducible refine br_t ((tok_arrow _).trans (by with_unfolding_all exact rfl)) ?_ | with_reducible refine br_f ((tok_arrow _).trans (by with_unfolding_all exact rfl)) ?_ | with_reducible refine br_t (by decide +kernel) ?_ | with_reducible refine br_f (by decide +kernel) ?_ | fail))
local macro_rules
  | `(tactic| tm_at "mine slice") => `(tactic| (first | with_reducible refine ev_Slice ?_ | with_reducible refine evO_some ?_ | with_reducible refine evO_none ?_ | with_reducible refine int_ok ?_))
local macro_rules
  | `(tactic| tm_at "mine inq") => `(tactic| (refine op_in_strs (xs := ["quant", "let"]) (by assumption) ?_ (by decide +kernel) (by decide +kernel)))
local macro_rules
  | `(tactic| tm_at "mine inn") => `(tactic| (refine op_in_strs (xs := ["name", "num"]) (by assumption) ?_ (by decide +kernel) (by decide +kernel)))
local macro_rules
  | `(tactic| tm_at "mine ini") => `(tactic| (refine op_in_strs (xs := ["none", "univ", "iden"]) (by assumption) ?_ (by decide +kernel) (by decide +kernel)))
local macro_rules
  | `(tactic| tm_at "mine inm") => `(tactic| (refine op_in_strs (xs := ["some", "no", "lone", "one", "set"]) (by assumption) ?_ (by decide +kernel) (by decide +kernel)))
local macro_rules
  | `(tactic| tm_at "mine pick") => `(tactic| (first | with_reducible refine br_t (by decide +kernel) ?_ | with_reducible refine br_f (by decide +kernel) ?_ | fail))
local macro_rules
  | `(tactic| tm_at "mine stepk") => `(tactic| (first | (tm_at "mine e1") | (tm_at "mine pick") | (tm_at "mine s1") | (tm_at "mine e2") | (tm_at "mine o1") | (tm_at "mine s2") | (tm_at "mine e3") | (tm_at "mine o2") | (tm_at "mine s3") | fail))
local macro_rules
  | `(tactic| tm_at "mine tf") => `(tactic| (with_reducible first | exact tf_law_told | exact tf_law_node | exact tf_law_draw | exact tf_put | exact tf_node_text | exact tf_one_text | exact tf_two_text | exact tf_arrow_text | exact tf_level_of | exact tf_level_of_one | exact tf_level_of_two | exact tf_law_operand | exact tf_law_arguments | exact tf_law_behind | exact tf_law_ahead | exact tf_law_between | exact tf_law_signs | exact tf_law_tokens | exact tf_law_word_at | exact tf_law_words | exact tf_law_read | exact tf_law_pairs))
local macro_rules
  | `(tactic| tm_at "mine tb") => `(tactic| (with_reducible first | exact tb_len | exact tb_abs | exact tb_sum | exact tb_range | exact tb_str | exact tb_tuple | exact tb_int))
local macro_rules
  | `(tactic| tm_at "mine tv") => `(tactic| (with_reducible first | exact tv_MULTS | exact tv_LOOSE | exact tv_ARROW | exact tv_COMPARED | exact tv_MULT | exact tv_TIMES | exact tv_BOX | exact tv_WHOLE))
local macro_rules
  | `(tactic| tm_at "mine e1") => `(tactic| (first | with_reducible refine ev_Name (by with_unfolding_all exact rfl) (by kernel_rfl) (by with_unfolding_all exact rfl) ?_ | with_reducible refine evL_cons (by with_unfolding_all exact rfl) ?_ | with_reducible refine evT_Compare ?_ | with_reducible refine ev_str ?_ | with_reducible refine ev_int ?_ | fail))
local macro_rules
  | `(tactic| tm_at "mine s1") => `(tactic| (first | with_reducible refine ex_cons ?_ | with_reducible refine ex_If ?_ | with_reducible refine ex_Assign (by with_unfolding_all exact rfl) (by with_unfolding_all exact rfl) (by with_unfolding_all exact rfl) (by with_unfolding_all exact rfl) ?_ | fail))
local macro_rules
  | `(tactic| tm_at "mine e2") => `(tactic| (first | with_reducible refine ev_Call (by assumption) (by (tm_at "mine tf")) (by kernel_rfl) (by kernel_rfl) (by with_unfolding_all exact rfl) ?_ | with_reducible refine ev_Slice ?_ | (with_reducible refine ev_Sub ?_) | with_reducible refine ev_BinOp ?_ | with_reducible refine ev_Tuple ?_ | with_reducible refine evL_nil ?_ | with_reducible refine ev_IfExp ?_ | fail))
local macro_rules
  | `(tactic| tm_at "mine o1") => `(tactic| (first | with_reducible refine sub_tup (by with_unfolding_all exact rfl) (by decide) (by decide) (by with_unfolding_all exact rfl) ?_ | with_reducible refine sz_tup (by first | exact len_ok (by with_unfolding_all exact rfl) | simp [sizeLine]) ?_ | with_reducible refine ex_bool ?_ | with_reducible refine op_eq_str ?_ | fail))
local macro_rules
  | `(tactic| tm_at "mine s2") => `(tactic| (first | with_reducible refine go_on ?_ | with_reducible refine ex_Return ?_ | with_reducible refine stop_ret ?_ | fail))
local macro_rules
  | `(tactic| tm_at "mine e3") => `(tactic| (first | with_reducible refine ev_none ?_ | with_reducible refine ev_Global (by assumption) (by (tm_at "mine tv")) (by kernel_rfl) (by kernel_rfl) ?_ | with_reducible refine ev_CallB (by assumption) (by (tm_at "mine tb")) (by kernel_rfl) (by with_unfolding_all exact rfl) (by kernel_rfl) (by with_unfolding_all exact rfl) ?_ | with_reducible refine evT_BoolOp ?_ | with_reducible refine evA_or ?_ | with_reducible refine evA_and ?_ | with_reducible refine evA_or_nil ?_ | with_reducible refine evA_and_nil ?_ | with_reducible refine ev_Compare ?_ | with_reducible refine evT_Not ?_ | with_reducible refine ev_bool ?_ | with_reducible refine ev_List ?_ | with_reducible refine ev_UnaryOp ?_ | with_reducible refine ev_Call0 (by assumption) (by (tm_at "mine tf")) (by kernel_rfl) (by kernel_rfl) ?_ | fail))
local macro_rules
  | `(tactic| tm_at "mine o2") => `(tactic| (first | with_reducible refine sz_list (by first | exact len_ok (by with_unfolding_all exact rfl) | simp [sizeLine]) ?_ | with_reducible refine op_ne_str ?_ | with_reducible refine op_eq_int ?_ | with_reducible refine op_lt_int ?_ | with_reducible refine op_gt_int ?_ | with_reducible refine op_ge_int ?_ | with_reducible refine op_add_int ?_ | with_reducible refine op_sub_int ?_ | with_reducible refine op_neg_int ?_ | with_reducible refine op_is_none ?_ | with_reducible refine op_isNot_none ?_ | fail))
local macro_rules
  | `(tactic| tm_at "mine s3") => `(tactic| (first | with_reducible refine ex_nil ?_ | with_reducible refine ex_Assign2 (by assumption) (by with_unfolding_all exact rfl) (by with_unfolding_all exact rfl) (by with_unfolding_all exact rfl) (by with_unfolding_all exact rfl) (by with_unfolding_all exact rfl) ?_ | with_reducible refine pair_ok ?_ | with_reducible refine ex_Continue ?_ | with_reducible refine stop_cont ?_ | fail))
local macro_rules
  | `(tactic| tm_at "mine step") => `(tactic| (first | (tm_at "mine e1") | (tm_at "mine s1") | (tm_at "mine e2") | (tm_at "mine o1") | (tm_at "mine s2") | (tm_at "mine e3") | (tm_at "mine o2") | (tm_at "mine s3") | fail))
section
variable {prog : Program} {w : World} {d : Nat} {σ : AS} {Φ : V → AS → Prop}
theorem con_level_of_one (u : Up) (h : Φ (.int u.lev) σ) : Con prog w TT (d + 1) "level_of_one" (fnI 10) [.str u.str] σ Φ := by
  refine con_fn (names := ["sign"]) (bind_1 fun _ _ _ _ => rfl) fun A h₀ L a cd O => ?_
  cases u
  all_goals refine ex_cons ?_
  all_goals repeat' (first | (tm_at "mine stepk") | refine op_in_strs (xs := ["some", "no", "lone", "one", "set"]) O ?_ (by decide +kernel) (by decide +kernel) | refine op_in_strs (xs := ["#", "-"]) O ?_ (by decide +kernel) (by decide +kernel) | fail)
  all_goals exact done h
end
section
variable {prog : Program} {w : World} {d : Nat} {σ : AS} {Φ : V → AS → Prop}
noncomputable def rowsS : List (List Str) := [["||"], ["<=>"], ["=>"], ["&&"], [], ["=", "!=", "in", "!in", "<", ">", "<=", ">="], [], ["+", "-"], [], ["++"], ["&"], [], ["<:"], [":>"], [], ["."]]
noncomputable def rowsP (x : Str) : V → Bool
  | .int i => (rowsS.getD i.toNat []).contains x
  | _ => false
noncomputable def rowsV : V := .tup (rowsS.map fun r => .tup (r.map V.str))
theorem con_level_of_two (s : Sg) (h : Φ (.int s.lev) σ) : Con prog w TT (d + 1) "level_of_two" (fnI 9) [.str s.str] σ Φ := by
  refine con_fnC (names := ["sign"]) (bind_1 fun _ _ _ _ => rfl) fun A h₀ L a cd O => ?_
  refine ex_cons ?_
  with_reducible refine ex_AssignCellX (by with_unfolding_all exact rfl) (by with_unfolding_all exact rfl) (by with_unfolding_all exact rfl) (by with_unfolding_all exact rfl) (by with_unfolding_all exact rfl) ?_ ?_ (by with_unfolding_all exact rfl) ?_
  · exact Nat.lt_succ_of_lt (Nat.lt_succ_self L)
  · show [L + 1 + 1, L + 1].Nodup
    simp
  all_goals repeat' (first | (tm_at "mine step") | fail)
  with_reducible refine ev_CompRange (ρc := [("rows", rowsV), ("sign", .str s.str)]) (p' := rowsP s.str) (g := id) O (by with_unfolding_all exact rfl) (by with_unfolding_all exact rfl) ⟨by decide, (by with_unfolding_all exact rfl), by decide, (by with_unfolding_all exact rfl)⟩ (closureFor_of (by with_unfolding_all exact rfl)) ?_ ?_ (by with_unfolding_all exact rfl) (by intro _; with_unfolding_all exact rfl)
  · exact caps_of (all_two ⟨rfl, rfl, .inl rfl, rfl⟩ ⟨rfl, rfl, .inl rfl, rfl⟩) (all_two rfl rfl)
  repeat (first | (tm_at "mine expr") | fail)
  refine call_len_tup (by decide) ?_
  refine ⟨16, rfl, by decide, ⟨by decide, ?_, ?_, ?_, ?_, ?_⟩, ?_⟩
  · exact pureVs_of fun x hx => by obtain ⟨i, _, rfl⟩ := List.mem_map.mp hx; exact .int _
  · exact test_flat fun x hx => by obtain ⟨i, _, rfl⟩ := List.mem_map.mp hx; trivial
  · exact fun x hx _ => by obtain ⟨i, _, rfl⟩ := List.mem_map.mp hx; trivial
  · intro C y hy
    obtain ⟨i, hi, rfl⟩ := List.mem_map.mp hy
    have hi' : i < 16 := by simpa using hi
    have mk : ∀ {sc cl C}, sc.kind = .function → Ok TT (cxC (cxFC A "level_of_two" (fnI 9).scope h₀ L a cd) sc cl C) d := fun hk => ok_cxC O hk
    show EvT _ _ _ _ _ _ _
    repeat' (first | (tm_at "mine step") | fail)
    unfold rowsV
    with_reducible refine sub_tup (x := .tup ((rowsS.getD i []).map V.str)) (by with_unfolding_all exact rfl) (by omega) (by omega) ?_ ?_
    · have : ((i : Int)).toNat = i := by omega
      rw [this, List.getElem?_map, List.getD_eq_getElem?_getD, List.getElem?_eq_getElem (by exact hi')]
      rfl
    refine op_in_strs (xs := rowsS.getD i []) (mk rfl) ?_ (by cases s <;> decide +kernel) ?_
    · exact ⟨_, rfl, by simp [rowsP]⟩
    · have q : ∀ j : Fin 16, (rowsS.getD j.val []).all PyData.strOk = true := by decide +kernel
      exact q ⟨i, hi'⟩
  · intro C y hy hp
    repeat' (first | (tm_at "mine step") | fail)
    rfl
  intro D hD
  repeat' (first | (tm_at "mine step") | fail)
  refine sub_list (x := .int (s.lev - 1)) (by with_unfolding_all exact rfl) (if_pos rfl) (by omega) (by omega) ?_ ?_
  · cases s <;> rfl
  repeat' (first | (tm_at "mine step") | fail)
  refine ⟨σ, sub_new hD, ?_⟩
  show Φ (.int ((s.lev : Int) - 1 + 1)) σ
  rw [Int.sub_add_cancel]
  exact h
end
section
variable {prog : Program} {w : World} {d : Nat} {σ : AS} {Φ : V → AS → Prop}
theorem con_level_of (t : N) (hn : t.isNode) (h : Φ (.int t.lev) σ) : Con prog w TT (d + 2) "level_of" (fnI 11) [val t] σ Φ := by
  refine con_fn (names := ["node"]) (bind_1 fun _ _ _ _ => rfl) fun A h₀ L a cd O => ?_
  cases t
  case nil => exact hn.elim
  case cons => exact hn.elim
  all_goals unfold val
  all_goals refine ex_cons ?_
  all_goals repeat' (first | (tm_at "mine stepk") | (tm_at "mine inq") | with_reducible refine con_level_of_one _ ?_ | with_reducible refine con_level_of_two _ ?_ | (tm_at "mine dict") | fail)
  case un => exact done h
  case bin => exact done h
  all_goals with_reducible refine ev_Method PySem.F.plainAttrs_dict PySem.F.slot_dict_get PySem.F.type_dict_get (by with_unfolding_all exact rfl) (by with_unfolding_all exact rfl) (by with_unfolding_all exact rfl) (by with_unfolding_all decide) ?_
  all_goals with_reducible refine ev_Dict O ?_ (by with_unfolding_all exact rfl) (by with_unfolding_all exact rfl) (by simp) (by with_unfolding_all decide)
  all_goals repeat' (first | (tm_at "mine step") | (tm_at "mine dict") | fail)
  all_goals refine ⟨by decide, by decide, fun a hn hm => ⟨ty_dict upd_same, ?_⟩⟩
  all_goals repeat' (first | (tm_at "mine step") | fail)
  all_goals refine meth_get upd_same hm ?_
  all_goals repeat' (first | (tm_at "mine step") | fail)
  all_goals exact ⟨σ, sub_new (by assumption), h⟩
end
section
variable {prog : Program} {w : World} {d : Nat} {σ : AS} {Φ : V → AS → Prop}
noncomputable abbrev Text (prog : Program) (w : World) (d : Nat) (x : N) : Prop := ∀ (σ : AS) (Φ : V → AS → Prop), Φ (.str (S (text x))) σ → Con prog w TT d "node_text" (fnI 20) [val x] σ Φ
theorem ptext (k : Nat) (x : N) : render (par k x (pcs x)) = if k ≤ x.lev then text x else [40] ++ text x ++ [41] := by
  unfold par text
  split
  · rfl
  · simp [render, pcps, Tok.cps]
theorem con_put {x : N} {k : Nat} (hn : x.isNode) (ht : Text prog w (d + 2) x) (hz : (text x).length ≤ 10000) (h : Φ (.str (S (render (par k x (pcs x))))) σ) : Con prog w TT (d + 3) "put" (fnI 12) [val x, .int k] σ Φ := by
  rw [ptext] at h
  refine con_fn (names := ["node", "least"]) (bind_2 fun _ _ _ _ _ => rfl) fun A h₀ L a cd O => ?_
  refine ex_cons ?_
  repeat' (first | (tm_at "mine step") | fail)
  refine ht _ _ ?_
  repeat' (first | (tm_at "mine step") | (with_reducible refine con_level_of _ hn ?_) | fail)
  by_cases hk : k ≤ x.lev
  · rw [if_pos hk] at h
    refine br_t (by simpa using hk) ?_
    repeat' (first | (tm_at "mine step") | fail)
    exact done h
  · rw [if_neg hk] at h
    refine br_f (by simpa using hk) ?_
    simp only [← S_append, ← lit_lp, ← lit_rp] at h
    repeat' (first | (tm_at "mine step") | with_reducible refine op_add_str ?_ ?_ | fail)
    · rw [lit_lp, S_append]; exact size_S (by simp; omega)
    · rw [lit_lp, lit_rp, S_append, S_append]; exact size_S (by simp; omega)
    exact done h
theorem con_putI {x : N} {k : Nat} {i : Int} (hn : x.isNode) (ht : Text prog w (d + 2) x) (e : i = (k : Int)) (hz : (text x).length ≤ 10000) (h : Φ (.str (S (render (par k x (pcs x))))) σ) : Con prog w TT (d + 3) "put" (fnI 12) [val x, .int i] σ Φ := e ▸ con_put hn ht hz h
theorem plen (k : Nat) (x : N) : (text x).length ≤ (render (par k x (pcs x))).length := by
  rw [ptext]
  split
  · exact Nat.le_refl _
  · simp; omega
theorem text_un (u : Up) (x : N) : text (.un u x) = u.cps ++ (render (gapU u) ++ render (par u.lev x (pcs x))) := by
  show render (pcs (.un u x)) = _
  rw [pcs, render_tok, render_app]; rfl
theorem pre_fits {a b : Str} {n : Nat} (h : (a ++ b).length ≤ n) : a.length ≤ n := Nat.le_trans (by rw [len_app]; exact Nat.le_add_right _ _) h
theorem fits_S {a : Str} {l : List Nat} (e : a = S l) (h : l.length ≤ 9100) : a.length ≤ sizeLine := e ▸ size_S (Nat.le_trans h (by decide))
theorem up_kind (u : Up) : (u.lev = 7 ∧ gapU u = [none] ∧ (["some", "no", "lone", "one", "set"] : List Str).contains u.str = true) ∨ (gapU u = [] ∧ (["some", "no", "lone", "one", "set"] : List Str).contains u.str = false) := by
  cases u <;> first | exact .inl ⟨rfl, rfl, by decide +kernel⟩ | exact .inr ⟨rfl, by decide +kernel⟩
theorem up_more (u : Up) : (!decide (u.str = ("-" : Str))) = true ∧ PyData.strOk u.str = true := by cases u <;> exact ⟨by decide +kernel, by decide +kernel⟩
theorem con_one_text {u : Up} {x : N} (hn : x.isNode) (ht : Text prog w (d + 2) x) (hz : (text (.un u x)).length ≤ 9000) (h : Φ (.str (S (text (.un u x)))) σ) : Con prog w TT (d + 4) "one_text" (fnI 14) [val (.un u x)] σ Φ := by
  rw [text_un] at hz h
  have hp := plen u.lev x
  have hzx : (text x).length ≤ 10000 := by simp at hz; omega
  obtain ⟨m1, m2⟩ := up_more u
  unfold val
  refine con_fn (names := ["node"]) (bind_1 fun _ _ _ _ => rfl) fun A h₀ L a cd O => ?_
  refine ex_cons ?_
  have close : ∀ {g : Str} {p : List Nat}, g = S p → render (gapU u) = p → (u.str ++ g ++ S (render (par u.lev x (pcs x)))).length ≤ sizeLine ∧ ∃ σ₂, Sub σ₂ σ ∧ Φ (Fl.ret (.str (u.str ++ g ++ S (render (par u.lev x (pcs x)))))).val σ₂ := by
    rintro g p rfl rfl
    have e : u.str ++ S (render (gapU u)) ++ S (render (par u.lev x (pcs x))) = S (u.cps ++ (render (gapU u) ++ render (par u.lev x (pcs x)))) := by
      simp only [Up.str, S_append, List.append_assoc]
    exact ⟨fits_S e (by omega), σ, fun _ _ z => z, cast_str e.symm h⟩
  rcases up_kind u with ⟨_, e2, e3⟩ | ⟨e2, e3⟩
  · obtain ⟨H, fin⟩ := close lit_sp (by rw [e2]; rfl)
    have H1 := pre_fits H
    have H2 := pre_fits H1
    try have H3 := pre_fits H2
    repeat' (first | (tm_at "mine step") | refine op_in_strs (xs := ["some", "no", "lone", "one", "set"]) O ?_ m2 (by decide +kernel) | with_reducible refine br_t e3 ?_ | with_reducible refine br_t m1 ?_ | with_reducible refine con_level_of_one _ ?_ | with_reducible refine con_put hn ht hzx ?_ | with_reducible refine op_add_str ?_ ?_ | fail)
    all_goals first | with_reducible exact fin | with_reducible exact H | with_reducible exact H1
  · obtain ⟨H, fin⟩ := close lit_no (by rw [e2]; rfl)
    have H1 := pre_fits H
    have H2 := pre_fits H1
    try have H3 := pre_fits H2
    repeat' (first | (tm_at "mine step") | refine op_in_strs (xs := ["some", "no", "lone", "one", "set"]) O ?_ m2 (by decide +kernel) | with_reducible refine br_f e3 ?_ | with_reducible refine br_t m1 ?_ | with_reducible refine con_level_of_one _ ?_ | with_reducible refine con_put hn ht hzx ?_ | with_reducible refine op_add_str ?_ ?_ | fail)
    all_goals first | with_reducible exact fin | with_reducible exact H | with_reducible exact H1
theorem text_bin (s : Sg) (l r : N) : text (.bin s l r) = render (par s.left l (pcs l)) ++ (render (gapS s) ++ (s.cps ++ (render (gapS s) ++ render (par s.right r (pcs r))))) := by
  show render (pcs (.bin s l r)) = _
  rw [pcs, render_app, render_app, render_tok, render_app]; rfl
theorem sg_kind (s : Sg) : (s = .imp ∨ s = .dot) ∨ (decide (s.str = ("=>" : Str)) = false ∧ decide (s.str = ("." : Str)) = false ∧ gapS s = [none] ∧ s.right = s.lev + 1 ∧ s.left = if s.lev = 6 then 7 else s.lev) := by
  cases s <;> first | exact .inl (.inl rfl) | exact .inl (.inr rfl) | exact .inr ⟨by decide +kernel, by decide +kernel, rfl, rfl, rfl⟩
set_option maxHeartbeats 4000000 in
theorem con_two_text {s : Sg} {l r : N} (hl : l.isNode) (hr : r.isNode) (tl : Text prog w (d + 2) l) (tr : Text prog w (d + 2) r) (hz : (text (.bin s l r)).length ≤ 9000) (h : Φ (.str (S (text (.bin s l r)))) σ) : Con prog w TT (d + 4) "two_text" (fnI 13) [val (.bin s l r)] σ Φ := by
  rw [text_bin] at hz h
  have hzl : (text l).length ≤ 10000 := by have := plen s.left l; simp at hz; omega
  have hzr : (text r).length ≤ 10000 := by have := plen s.right r; simp at hz; omega
  unfold val
  refine con_fn (names := ["node"]) (bind_1 fun _ _ _ _ => rfl) fun A h₀ L a cd O => ?_
  refine ex_cons ?_
  generalize hL : s.left = kl at *
  generalize hR : s.right = kr at *
  generalize hX : render (par kl l (pcs l)) = X at *
  generalize hY : render (par kr r (pcs r)) = Y at *
  have close : ∀ {g : Str} {p : List Nat}, g = S p → render (gapS s) = p → (S X ++ g ++ s.str ++ g ++ S Y).length ≤ sizeLine ∧ ∃ σ₂, Sub σ₂ σ ∧ Φ (Fl.ret (.str (S X ++ g ++ s.str ++ g ++ S Y))).val σ₂ := by
    rintro g p rfl rfl
    have e : S X ++ S (render (gapS s)) ++ s.str ++ S (render (gapS s)) ++ S Y = S (X ++ (render (gapS s) ++ (s.cps ++ (render (gapS s) ++ Y)))) := by
      simp only [Sg.str, S_append, List.append_assoc]
    exact ⟨fits_S e (by omega), σ, fun _ _ z => z, cast_str e.symm h⟩
  have step_l : ∀ {i : Int} {Ψ : V → AS → Prop}, i = (kl : Int) → Ψ (.str (S X)) σ → Con prog w TT (d + 3) "put" (fnI 12) [val l, .int i] σ Ψ := fun e q => con_putI (k := kl) hl tl e hzl (by rw [hX]; exact q)
  have step_r : ∀ {i : Int} {Ψ : V → AS → Prop}, i = (kr : Int) → Ψ (.str (S Y)) σ → Con prog w TT (d + 3) "put" (fnI 12) [val r, .int i] σ Ψ := fun e q => con_putI (k := kr) hr tr e hzr (by rw [hY]; exact q)
  clear hz h tl tr
  rcases sg_kind s with (rfl | rfl) | ⟨e1, e2, e3, e4, e5⟩
  · obtain ⟨H, fin⟩ := close lit_sp rfl
    have H1 := pre_fits H
    have H2 := pre_fits H1
    try have H3 := pre_fits H2
    repeat' (first | (tm_at "mine stepk") | with_reducible refine con_level_of_two _ ?_ | with_reducible refine step_l (by rw [← hL]; decide) ?_ | with_reducible refine step_r (by rw [← hR]; decide) ?_ | with_reducible refine op_add_str ?_ ?_ | fail)
    all_goals first | with_reducible exact fin | with_reducible exact H | with_reducible exact H1 | with_reducible exact H2 | with_reducible exact H3
  · obtain ⟨H, fin⟩ := close lit_no rfl
    have H1 := pre_fits H
    have H2 := pre_fits H1
    try have H3 := pre_fits H2
    repeat' (first | (tm_at "mine stepk") | with_reducible refine con_level_of_two _ ?_ | with_reducible refine step_l (by rw [← hL]; decide) ?_ | with_reducible refine step_r (by rw [← hR]; decide) ?_ | with_reducible refine op_add_str ?_ ?_ | fail)
    all_goals first | with_reducible exact fin | with_reducible exact H | with_reducible exact H1 | with_reducible exact H2 | with_reducible exact H3
  · obtain ⟨H, fin⟩ := close lit_sp (by rw [e3]; rfl)
    have H1 := pre_fits H
    have H2 := pre_fits H1
    try have H3 := pre_fits H2
    have hr1 : ((s.lev : Int) + 1) = (kr : Int) := by rw [← hR, e4]; rfl
    by_cases h6 : s.lev = 6
    · have e6 : ((s.lev : Int) == 6) = true := by rw [h6]; rfl
      have hl1 : ((s.lev : Int) + 1) = (kl : Int) := by rw [← hL, e5, if_pos h6, h6]; rfl
      repeat' (first | (tm_at "mine step") | with_reducible refine br_f e1 ?_ | with_reducible refine br_f e2 ?_ | with_reducible refine br_t e6 ?_ | with_reducible refine br_t rfl ?_ | with_reducible refine con_level_of_two _ ?_ | with_reducible refine step_l hl1 ?_ | with_reducible refine step_r hr1 ?_ | with_reducible refine op_add_str ?_ ?_ | fail)
      all_goals first | with_reducible exact fin | with_reducible exact H | with_reducible exact H1 | with_reducible exact H2 | with_reducible exact H3
    · have e6 : ((s.lev : Int) == 6) = false := beq_eq_false_iff_ne.mpr (by omega)
      have hl1 : (s.lev : Int) = (kl : Int) := by rw [← hL, e5, if_neg h6]
      repeat' (first | (tm_at "mine step") | with_reducible refine br_f e1 ?_ | with_reducible refine br_f e2 ?_ | with_reducible refine br_f e6 ?_ | with_reducible refine br_f rfl ?_ | with_reducible refine con_level_of_two _ ?_ | with_reducible refine step_l hl1 ?_ | with_reducible refine step_r hr1 ?_ | with_reducible refine op_add_str ?_ ?_ | fail)
      all_goals first | with_reducible exact fin | with_reducible exact H | with_reducible exact H1 | with_reducible exact H2 | with_reducible exact H3
theorem text_arrow (l r : N) : text (.arrow l r) = render (par 12 l (pcs l)) ++ ([32, 45, 62, 32] ++ render (par 13 r (pcs r))) := by
  show render (pcs (.arrow l r)) = _
  rw [pcs, render_app, render_gap, render_tok, render_gap]; rfl
theorem con_arrow_text {l r : N} (hl : l.isNode) (hr : r.isNode) (tl : Text prog w (d + 2) l) (tr : Text prog w (d + 2) r) (hz : (text (.arrow l r)).length ≤ 9000) (h : Φ (.str (S (text (.arrow l r)))) σ) : Con prog w TT (d + 4) "arrow_text" (fnI 15) [val (.arrow l r)] σ Φ := by
  rw [text_arrow] at hz h
  have hzl : (text l).length ≤ 10000 := by have := plen 12 l; simp at hz; omega
  have hzr : (text r).length ≤ 10000 := by have := plen 13 r; simp at hz; omega
  unfold val
  refine con_fn (names := ["node"]) (bind_1 fun _ _ _ _ => rfl) fun A h₀ L a cd O => ?_
  refine ex_cons ?_
  have e : S (render (par 12 l (pcs l))) ++ ("" : Str) ++ (" -> " : Str) ++ ("" : Str) ++ S (render (par 13 r (pcs r))) = S (render (par 12 l (pcs l)) ++ ([32, 45, 62, 32] ++ render (par 13 r (pcs r)))) := by
    rw [lit_no, lit_ar]; simp only [S_append, List.append_assoc, List.nil_append]
  have H := fits_S e (by omega)
  have H1 := pre_fits H
  have H2 := pre_fits H1
  have H3 := pre_fits H2
  have fin : ∃ σ₂, Sub σ₂ σ ∧ Φ (Fl.ret (.str (S (render (par 12 l (pcs l))) ++ ("" : Str) ++ (" -> " : Str) ++ ("" : Str) ++ S (render (par 13 r (pcs r)))))).val σ₂ := ⟨σ, fun _ _ z => z, cast_str e.symm h⟩
  repeat' (first | (tm_at "mine stepk") | with_reducible refine con_putI (k := 12) hl tl (by decide) hzl ?_ | with_reducible refine con_putI (k := 13) hr tr (by decide) hzr ?_ | with_reducible refine op_add_str ?_ ?_ | fail)
  all_goals first | with_reducible exact fin | with_reducible exact H | with_reducible exact H1 | with_reducible exact H2 | with_reducible exact H3
end
section
variable {prog : Program} {w : World} {d : Nat} {σ : AS} {Φ : V → AS → Prop}
theorem text_ite (c t e : N) : text (.ite c t e) = render (par 4 c (pcs c)) ++ ([32, 61, 62, 32] ++ (render (par 4 t (pcs t)) ++ ([32, 101, 108, 115, 101, 32] ++ render (par 3 e (pcs e))))) := by
  show render (pcs (.ite c t e)) = _
  rw [pcs, render_app, render_gap, render_tok, render_gap, render_app, render_gap, render_tok, render_gap]; rfl
theorem text_box (b a : N) : text (.box b a) = render (par 15 b (pcs b)) ++ ([91] ++ (text a ++ [93])) := by
  show render (pcs (.box b a)) = _
  rw [pcs, render_app, render_tok, render_app, render_tok, render_nil]; rfl
theorem text_c1 (x : N) : text (.cons x .nil) = text x := by
  show render (pcs (.cons x .nil)) = _
  rw [pcs, render_app]; show text x ++ [] = _; simp
theorem text_c2 (x y : N) : text (.cons x (.cons y .nil)) = text x ++ ([44, 32] ++ text y) := by
  show render (pcs (.cons x (.cons y .nil))) = _
  have e : sepc (.cons y .nil) (pcs (.cons y .nil)) = some .comma :: none :: pcs (.cons y .nil) := rfl
  rw [pcs, render_app, e, render_tok, render_gap]
  rw [show render (pcs (.cons y .nil)) = text y from text_c1 y]; rfl
theorem join1 (s a : Str) : Txt.join s [a] = a := by
  show Builtin.Str.glued s [a] = a
  rfl
theorem join2 (s a b : Str) : Txt.join s [a, b] = a ++ s ++ b := by
  show Builtin.Str.glued s [a, b] = _
  rfl
theorem Text.mono {x : N} {d' : Nat} (h : Text prog w d x) (hd : d ≤ d') : Text prog w d' x := fun σ Φ q => (h σ Φ q).mono hd
open Classical in
noncomputable def g2 (x y : N) (v : V) : V := .str (S (if v = val x then text x else text y))
theorem g2_flat (x y : N) (v : V) : Flat (g2 x y v) := trivial
theorem g2_l (x y : N) : g2 x y (val x) = .str (S (text x)) := by rw [g2, if_pos rfl]
theorem g2_r {x y : N} (hx : wf x ∧ x.isNode) (hy : wf y ∧ y.isNode) : g2 x y (val y) = .str (S (text y)) := by
  rw [g2]
  split
  · rename_i e
    rw [val_inj hy.1 hx.1 ⟨hy.2, hx.2⟩ e]
  · rfl
theorem le_l (a b : List Nat) : a.length ≤ (a ++ b).length := (List.sublist_append_left a b).length_le
theorem le_r (a b : List Nat) : b.length ≤ (a ++ b).length := (List.sublist_append_right a b).length_le
theorem three {k d : Nat} (h : 3 * (k + 1) ≤ d) : ∃ d', d = d' + 3 ∧ 3 * k ≤ d' := ⟨d - 3, by omega, by omega⟩
theorem le_un (u : Up) (x : N) : (text x).length ≤ (text (.un u x)).length := by
  rw [text_un]; exact Nat.le_trans (plen u.lev x) (Nat.le_trans (le_r _ _) (le_r _ _))
theorem le_bin (s : Sg) (l r : N) : (text l).length ≤ (text (.bin s l r)).length ∧ (text r).length ≤ (text (.bin s l r)).length := by
  rw [text_bin]
  exact ⟨Nat.le_trans (plen s.left l) (le_l _ _), Nat.le_trans (plen s.right r) (Nat.le_trans (le_r _ _) (Nat.le_trans (le_r _ _) (Nat.le_trans (le_r _ _) (le_r _ _))))⟩
theorem le_arrow (l r : N) : (text l).length ≤ (text (.arrow l r)).length ∧ (text r).length ≤ (text (.arrow l r)).length := by
  rw [text_arrow]
  exact ⟨Nat.le_trans (plen 12 l) (le_l _ _), Nat.le_trans (plen 13 r) (Nat.le_trans (le_r _ _) (le_r _ _))⟩
theorem le_ite (c t e : N) : (text c).length ≤ (text (.ite c t e)).length ∧ (text t).length ≤ (text (.ite c t e)).length ∧ (text e).length ≤ (text (.ite c t e)).length := by
  rw [text_ite]
  exact ⟨Nat.le_trans (plen 4 c) (le_l _ _), Nat.le_trans (plen 4 t) (Nat.le_trans (le_l _ _) (Nat.le_trans (le_r _ _) (le_r _ _))), Nat.le_trans (plen 3 e) (Nat.le_trans (le_r _ _) (Nat.le_trans (le_r _ _) (Nat.le_trans (le_r _ _) (le_r _ _))))⟩
theorem le_box (b a : N) : (text b).length ≤ (text (.box b a)).length ∧ (text a).length ≤ (text (.box b a)).length := by
  rw [text_box]
  exact ⟨Nat.le_trans (plen 15 b) (le_l _ _), Nat.le_trans (le_l _ _) (Nat.le_trans (le_r _ _) (le_r _ _))⟩
theorem le_c2 (x y : N) : (text x).length ≤ (text (.cons x (.cons y .nil))).length ∧ (text y).length ≤ (text (.cons x (.cons y .nil))).length := by
  rw [text_c2]; exact ⟨le_l _ _, Nat.le_trans (le_r _ _) (le_r _ _)⟩
theorem fits_text {a : Str} {t : N} (e : a = S (text t)) (h : (text t).length ≤ 9000) : a.length ≤ sizeLine := fits_S e (Nat.le_trans h (by decide))
theorem join_ok (xs : List (List Nat)) (h : ∀ x ∈ xs, x.length ≤ 9000) (hl : xs.length ≤ 2) : ((xs.map S).map (·.length)).sum + (xs.map S).length * (", " : Str).length ≤ 16777216 := by
  rw [lit_cm, S_length]
  match xs, hl with
  | [], _ => decide
  | [a], _ => have := h a (by simp); simp [S_length]; omega
  | [a, b], _ => have := h a (by simp); have := h b (by simp); simp [S_length]; omega
set_option maxHeartbeats 4000000 in
theorem con_node_text {k : Nat} {t : N} (g : Gen k t) : ∀ {d : Nat}, 3 * k ≤ d → (text t).length ≤ 9000 → Text prog w (d + 5) t := by
  induction g with
  | name b =>
    intro d hd hz σ Φ h
    refine con_fn (names := ["node"]) (bind_1 fun _ _ _ _ => rfl) fun A h₀ L a cd O => ?_
    refine ex_cons ?_
    unfold val
    all_goals repeat' (first | (tm_at "mine stepk") | (tm_at "mine inn") | with_reducible refine call_str_str ?_ | fail)
    exact done (cast_str (by simp [text, pcs, render, pcps, Tok.cps]) h)
  | num b =>
    intro d hd hz σ Φ h
    refine con_fn (names := ["node"]) (bind_1 fun _ _ _ _ => rfl) fun A h₀ L a cd O => ?_
    refine ex_cons ?_
    unfold val
    all_goals repeat' (first | (tm_at "mine stepk") | (tm_at "mine inn") | fail)
    have hb : b = 0 ∨ b = 1 ∨ b = 2 := by omega
    refine call_str_int ?_ ?_
    · rcases hb with rfl | rfl | rfl <;> decide
    all_goals repeat' (first | (tm_at "mine step") | fail)
    exact done (cast_str (by rcases hb with rfl | rfl | rfl <;> decide +kernel) h)
  | univ =>
    intro d hd hz σ Φ h
    refine con_fn (names := ["node"]) (bind_1 fun _ _ _ _ => rfl) fun A h₀ L a cd O => ?_
    refine ex_cons ?_
    unfold val
    all_goals repeat' (first | (tm_at "mine stepk") | (tm_at "mine inn") | (tm_at "mine ini") | fail)
    exact done (cast_str (by decide +kernel) h)
  | @un k x u g ih =>
    intro d hd hz σ Φ h
    obtain ⟨d, rfl, hk⟩ := three hd
    have tx := ih hk (Nat.le_trans (le_un u x) hz)
    refine con_fn (names := ["node"]) (bind_1 fun _ _ _ _ => rfl) fun A h₀ L a cd O => ?_
    refine ex_cons ?_
    unfold val
    all_goals repeat' (first | (tm_at "mine stepk") | (tm_at "mine inn") | (tm_at "mine ini") | fail)
    refine con_one_text (u := u) (x := x) (d := d + 3) g.node tx hz ?_
    all_goals repeat' (first | (tm_at "mine step") | fail)
    exact done h
  | @bin k l r s gl gr il ir =>
    intro d hd hz σ Φ h
    obtain ⟨d, rfl, hk⟩ := three hd
    have tl := il hk (Nat.le_trans (le_bin s l r).1 hz)
    have tr := ir hk (Nat.le_trans (le_bin s l r).2 hz)
    refine con_fn (names := ["node"]) (bind_1 fun _ _ _ _ => rfl) fun A h₀ L a cd O => ?_
    refine ex_cons ?_
    unfold val
    all_goals repeat' (first | (tm_at "mine stepk") | (tm_at "mine inn") | (tm_at "mine ini") | fail)
    refine con_two_text (s := s) (l := l) (r := r) (d := d + 3) gl.node gr.node tl tr hz ?_
    all_goals repeat' (first | (tm_at "mine step") | fail)
    exact done h
  | @arrow k l r gl gr il ir =>
    intro d hd hz σ Φ h
    obtain ⟨d, rfl, hk⟩ := three hd
    have tl := il hk (Nat.le_trans (le_arrow l r).1 hz)
    have tr := ir hk (Nat.le_trans (le_arrow l r).2 hz)
    refine con_fn (names := ["node"]) (bind_1 fun _ _ _ _ => rfl) fun A h₀ L a cd O => ?_
    refine ex_cons ?_
    unfold val
    all_goals repeat' (first | (tm_at "mine stepk") | (tm_at "mine inn") | (tm_at "mine ini") | fail)
    refine con_arrow_text (l := l) (r := r) (d := d + 3) gl.node gr.node tl tr hz ?_
    all_goals repeat' (first | (tm_at "mine step") | fail)
    exact done h
  | @ite k c t e gc gt ge ic it ie =>
    intro d hd hz σ Φ h
    obtain ⟨d, rfl, hk⟩ := three hd
    obtain ⟨zc, zt, ze⟩ := le_ite c t e
    have zc := Nat.le_trans zc hz
    have zt := Nat.le_trans zt hz
    have ze := Nat.le_trans ze hz
    have big : ∀ {n : Nat}, n ≤ 9000 → n ≤ 10000 := fun h => Nat.le_trans h (by decide)
    have tc := (ic hk zc).mono (Nat.le_succ _)
    have tt := (it hk zt).mono (Nat.le_succ _)
    have te := (ie hk ze).mono (Nat.le_succ _)
    have eq : S (render (par 4 c (pcs c))) ++ (" => " : Str) ++ S (render (par 4 t (pcs t))) ++ (" else " : Str) ++ S (render (par 3 e (pcs e))) = S (text (.ite c t e)) := by
      rw [text_ite, lit_imp, lit_els]; simp only [S_append, List.append_assoc]
    have H := fits_text eq hz
    have H1 := pre_fits H
    have H2 := pre_fits H1
    have H3 := pre_fits H2
    have fin : ∃ σ₂, Sub σ₂ σ ∧ Φ (Fl.ret (.str (S (render (par 4 c (pcs c))) ++ (" => " : Str) ++ S (render (par 4 t (pcs t))) ++ (" else " : Str) ++ S (render (par 3 e (pcs e)))))).val σ₂ := ⟨σ, fun _ _ z => z, cast_str eq.symm h⟩
    have zc := big zc
    have zt := big zt
    have ze := big ze
    refine con_fn (names := ["node"]) (bind_1 fun _ _ _ _ => rfl) fun A h₀ L a cd O => ?_
    refine ex_cons ?_
    unfold val
    all_goals repeat' (first | (tm_at "mine stepk") | (tm_at "mine inn") | (tm_at "mine ini") | with_reducible refine con_putI (k := 4) gc.node tc (by decide) zc ?_ | with_reducible refine con_putI (k := 4) gt.node tt (by decide) zt ?_ | with_reducible refine con_putI (k := 3) ge.node te (by decide) ze ?_ | with_reducible refine op_add_str ?_ ?_ | fail)
    all_goals first | with_reducible exact fin | with_reducible exact H | with_reducible exact H1 | with_reducible exact H2 | with_reducible exact H3
  | @box1 k b x gb gx ib ix =>
    intro d hd hz σ Φ h
    obtain ⟨d, rfl, hk⟩ := three hd
    obtain ⟨zb, za⟩ := le_box b (.cons x .nil)
    have zb := Nat.le_trans zb hz
    have za := Nat.le_trans za hz
    have zx : (text x).length ≤ 9000 := by rw [text_c1] at za; exact za
    have tb := (ib hk zb).mono (Nat.le_succ _)
    have tx := (ix hk zx).mono (Nat.le_add_right _ 2)
    have hj := join_ok [text x] (by simp only [List.mem_singleton, forall_eq]; exact zx) (Nat.le_succ 1)
    have zb : (text b).length ≤ 10000 := Nat.le_trans zb (by decide)
    have eq : S (render (par 15 b (pcs b))) ++ ("[" : Str) ++ Txt.join (", " : Str) [S (text x)] ++ ("]" : Str) = S (text (.box b (.cons x .nil))) := by
      rw [text_box, text_c1, join1, lit_lb, lit_rb]; simp only [S_append, List.append_assoc]
    have H := fits_text eq hz
    have H1 := pre_fits H
    have H2 := pre_fits H1
    have fin : ∀ {σ' : AS}, Sub σ σ' → ∃ σ₂, Sub σ₂ σ' ∧ Φ (Fl.ret (.str (S (render (par 15 b (pcs b))) ++ ("[" : Str) ++ Txt.join (", " : Str) [S (text x)] ++ ("]" : Str)))).val σ₂ := fun s => ⟨σ, s, cast_str eq.symm h⟩
    refine con_fn (names := ["node"]) (bind_1 fun _ _ _ _ => rfl) fun A h₀ L a cd O => ?_
    refine ex_cons ?_
    unfold val
    all_goals repeat' (first | (tm_at "mine stepk") | (tm_at "mine inn") | (tm_at "mine ini") | with_reducible refine con_putI (k := 15) gb.node tb (by decide) zb ?_ | with_reducible refine op_add_str ?_ ?_ | with_reducible exact H2 | fail)
    with_reducible refine ev_Method PySem.F.plainAttrs_str PySem.F.slot_str_join PySem.F.type_str_join (by with_unfolding_all exact rfl) (by with_unfolding_all exact rfl) (by with_unfolding_all exact rfl) (by with_unfolding_all decide) ?_
    all_goals repeat' (first | (tm_at "mine step") | fail)
    refine ⟨ty_str, ?_⟩
    all_goals repeat' (first | (tm_at "mine step") | fail)
    with_reducible refine ev_Comp (ρc := []) (p' := fun _ => true) (g := fun _ => .str (S (text x))) O ⟨by decide, (by with_unfolding_all exact rfl), by decide, (by with_unfolding_all exact rfl)⟩ (closureFor_of (by with_unfolding_all exact rfl)) ?_ ?_ (by intro _; with_unfolding_all exact rfl)
    · exact caps_of nofun nofun
    all_goals repeat' (first | (tm_at "mine step") | fail)
    refine ⟨[val x], .inr rfl, ⟨by simp [sizeLine], ?_, ⟨fun _ => true, fun _ _ _ _ _ => rfl⟩, fun _ _ _ => trivial, fun _ _ _ => rfl, ?_⟩, fun D hD => ?_⟩
    · exact .cons (pure_val gx.wf) .nil
    · intro C z hz _
      have mk : ∀ {sc cl C}, sc.kind = .function → Ok TT (cxC (cxF A "node_text" (fnI 20).scope h₀ L a cd) sc cl C) (d + 3 + 4) := fun hk => ok_cxC O hk
      with_reducible refine ev_Call (mk rfl) (by with_unfolding_all exact rfl) (by with_unfolding_all decide) (by with_unfolding_all exact rfl) (by with_unfolding_all exact rfl) ?_
      all_goals repeat' (first | (tm_at "mine step") | fail)
      obtain rfl : z = val x := by simpa using hz
      exact tx _ _ rfl
    all_goals repeat' (first | (tm_at "mine step") | fail)
    refine meth_join (ys := [S (text x)]) ?_ hj ?_
    · rw [upd_same]; rfl
    all_goals repeat' (first | (tm_at "mine step") | with_reducible refine op_add_str ?_ ?_ | fail)
    all_goals first | with_reducible exact H | with_reducible exact H1 | exact fin (sub_new hD)
  | @box2 k b x y gb gx gy ib ix iy =>
    intro d hd hz σ Φ h
    obtain ⟨d, rfl, hk⟩ := three hd
    obtain ⟨zb, za⟩ := le_box b (.cons x (.cons y .nil))
    have zb := Nat.le_trans zb hz
    have za := Nat.le_trans za hz
    have zx := Nat.le_trans (le_c2 x y).1 za
    have zy := Nat.le_trans (le_c2 x y).2 za
    have tb := (ib hk zb).mono (Nat.le_succ _)
    have tx := (ix hk zx).mono (Nat.le_add_right _ 2)
    have ty := (iy hk zy).mono (Nat.le_add_right _ 2)
    have hj := join_ok [text x, text y] (by simp only [List.mem_cons, List.not_mem_nil, or_false, forall_eq_or_imp, forall_eq]; exact ⟨zx, zy⟩) (Nat.le_refl 2)
    have zb : (text b).length ≤ 10000 := Nat.le_trans zb (by decide)
    have eq : S (render (par 15 b (pcs b))) ++ ("[" : Str) ++ Txt.join (", " : Str) [S (text x), S (text y)] ++ ("]" : Str) = S (text (.box b (.cons x (.cons y .nil)))) := by
      rw [text_box, text_c2, join2, lit_lb, lit_rb, lit_cm]; simp only [S_append, List.append_assoc]
    have H := fits_text eq hz
    have H1 := pre_fits H
    have H2 := pre_fits H1
    have fin : ∀ {σ' : AS}, Sub σ σ' → ∃ σ₂, Sub σ₂ σ' ∧ Φ (Fl.ret (.str (S (render (par 15 b (pcs b))) ++ ("[" : Str) ++ Txt.join (", " : Str) [S (text x), S (text y)] ++ ("]" : Str)))).val σ₂ := fun s => ⟨σ, s, cast_str eq.symm h⟩
    refine con_fn (names := ["node"]) (bind_1 fun _ _ _ _ => rfl) fun A h₀ L a cd O => ?_
    refine ex_cons ?_
    unfold val
    all_goals repeat' (first | (tm_at "mine stepk") | (tm_at "mine inn") | (tm_at "mine ini") | with_reducible refine con_putI (k := 15) gb.node tb (by decide) zb ?_ | with_reducible refine op_add_str ?_ ?_ | with_reducible exact H2 | fail)
    with_reducible refine ev_Method PySem.F.plainAttrs_str PySem.F.slot_str_join PySem.F.type_str_join (by with_unfolding_all exact rfl) (by with_unfolding_all exact rfl) (by with_unfolding_all exact rfl) (by with_unfolding_all decide) ?_
    all_goals repeat' (first | (tm_at "mine step") | fail)
    refine ⟨ty_str, ?_⟩
    all_goals repeat' (first | (tm_at "mine step") | fail)
    with_reducible refine ev_Comp (ρc := []) (p' := fun _ => true) (g := g2 x y) O ⟨by decide, (by with_unfolding_all exact rfl), by decide, (by with_unfolding_all exact rfl)⟩ (closureFor_of (by with_unfolding_all exact rfl)) ?_ ?_ (by intro _; with_unfolding_all exact rfl)
    · exact caps_of nofun nofun
    all_goals repeat' (first | (tm_at "mine step") | fail)
    refine ⟨[val x, val y], .inr rfl, ⟨by simp [sizeLine], ?_, ⟨fun _ => true, fun _ _ _ _ _ => rfl⟩, fun _ _ _ => trivial, fun _ _ _ => rfl, ?_⟩, fun D hD => ?_⟩
    · exact .cons (pure_val gx.wf) (.cons (pure_val gy.wf) .nil)
    · intro C z hz _
      have mk : ∀ {sc cl C}, sc.kind = .function → Ok TT (cxC (cxF A "node_text" (fnI 20).scope h₀ L a cd) sc cl C) (d + 3 + 4) := fun hk => ok_cxC O hk
      with_reducible refine ev_Call (mk rfl) (by with_unfolding_all exact rfl) (by with_unfolding_all decide) (by with_unfolding_all exact rfl) (by with_unfolding_all exact rfl) ?_
      all_goals repeat' (first | (tm_at "mine step") | fail)
      rcases List.mem_cons.mp hz with rfl | hz
      · exact tx _ _ (g2_l x y).symm
      · obtain rfl : z = val y := by simpa using hz
        exact ty _ _ (g2_r ⟨gx.wf, gx.node⟩ ⟨gy.wf, gy.node⟩).symm
    all_goals repeat' (first | (tm_at "mine step") | fail)
    refine meth_join (ys := [S (text x), S (text y)]) ?_ hj ?_
    · rw [upd_same]; simp [g2_l, g2_r ⟨gx.wf, gx.node⟩ ⟨gy.wf, gy.node⟩]
    all_goals repeat' (first | (tm_at "mine step") | with_reducible refine op_add_str ?_ ?_ | fail)
    all_goals first | with_reducible exact H | with_reducible exact H1 | exact fin (sub_new hD)
end
section
variable {prog : Program} {w : World} {d : Nat} {σ : AS} {Φ : V → AS → Prop}
noncomputable abbrev FD (ca : Addr) (k : Nat) (b l : Int) : AO := .dict [("cells", .obj ca), ("count", .int k), ("blend", .int b), ("left", .int l)]
theorem mod_nat {x : Int} {many : Nat} (hb : 0 < many) : ∃ m : Nat, m < many ∧ x.fmod many = m := by
  have h1 := Int.fmod_nonneg_of_pos x (b := (many : Int)) (by omega)
  have h2 := Int.fmod_lt_of_pos x (b := (many : Int)) (by omega)
  exact ⟨(x.fmod many).toNat, by omega, by omega⟩
theorem con_draw {fa ca : Addr} {k many : Nat} {b l : Int} {is : List Int} (hf : σ fa = some (FD ca k b l)) (hc : σ ca = some (.list (is.map V.int))) (hne : ca ≠ fa) (hlen : is.length ≤ 64) (hk : k ≤ 10000) (hb : 0 < many)
    (h : ∀ m : Nat, m < many → Φ (.int m) (upd σ fa (FD ca (k + 1) b l))) : Con prog w TT (d + 1) "_law_draw" (fnI 26) [.obj fa, .int many] σ Φ := by
  refine con_fn (names := ["feed", "many"]) (bind_2 fun _ _ _ _ _ => rfl) fun A h₀ L a cd O => ?_
  refine ex_cons ?_
  repeat' (first | (tm_at "mine step") | with_reducible refine sub_dict (by with_unfolding_all exact rfl) hf (by with_unfolding_all exact rfl) ?_ | fail)
  with_reducible refine ex_AssignSub (by with_unfolding_all exact rfl) ?_
  repeat' (first | (tm_at "mine step") | fail)
  refine set_dictX hf (by with_unfolding_all exact rfl) (by simp [sizeLine]) (kvs' := [("cells", .obj ca), ("count", .int ((k : Int) + 1)), ("blend", .int b), ("left", .int l)]) (by with_unfolding_all exact rfl) ?_
  have hc' : (upd σ fa (FD ca (k + 1) b l)) ca = some (.list (is.map V.int)) := (upd_other hne).trans hc
  have hf' : (upd σ fa (FD ca (k + 1) b l)) fa = some (FD ca (k + 1) b l) := upd_same
  have ek : ((k : Int) + 1) = ((k + 1 : Nat) : Int) := by omega
  rw [ek]
  repeat' (first | (tm_at "mine step") | with_reducible refine sub_dict (by with_unfolding_all exact rfl) hf' (by with_unfolding_all exact rfl) ?_ | with_reducible refine call_len_list' hc' (by simp; omega) ?_ | fail)
  refine ⟨fun hk => ?_, fun _ => ?_⟩
  · have hk' : k < is.length := by simpa using hk
    repeat' (first | (tm_at "mine step") | with_reducible refine sub_dict (by with_unfolding_all exact rfl) hf' (by with_unfolding_all exact rfl) ?_ | fail)
    refine sub_list (x := .int is[k]) (by with_unfolding_all exact rfl) hc' (by omega) (by omega) (by simp [hk']) ?_
    repeat' (first | (tm_at "mine step") | refine call_abs ?_ | fail)
    refine op_mod_int (by omega) ?_
    obtain ⟨m, h1, h2⟩ := mod_nat (x := if is[k] < 0 then -is[k] else is[k]) hb
    rw [h2]
    repeat' (first | (tm_at "mine step") | fail)
    exact done (h m h1)
  · repeat' (first | (tm_at "mine step") | with_reducible refine sub_dict (by with_unfolding_all exact rfl) hf' (by with_unfolding_all exact rfl) ?_ | fail)
    repeat' (first | (tm_at "mine step") | with_reducible refine op_mul_int (.of_left (by decide)) ?_ | with_reducible refine op_mul_int (mulOk_k ‹_›) ?_ | with_reducible refine op_mod_int (by decide) ?_ | fail)
    refine op_mod_int (by omega) ?_
    obtain ⟨m, h1, h2⟩ := mod_nat (x := (7 * b + 31 * (k : Int) * k + 13 * k + 5).fmod 97) hb
    rw [h2]
    repeat' (first | (tm_at "mine step") | fail)
    exact done (h m h1)
end
section
variable {prog : Program} {w : World} {d : Nat} {σ : AS} {Φ : V → AS → Prop}
noncomputable def Ext (r : Addr) (σ σ' : AS) : Prop := ∀ a o, a ≠ r → σ a = some o → σ' a = some o
theorem Ext.refl {r : Addr} : Ext r σ σ := fun _ _ _ e => e
theorem Ext.trans {r : Addr} {a b c : AS} (h : Ext r a b) (k : Ext r b c) : Ext r a c := fun x o n e => k x o n (h x o n e)
theorem Ext.set {r : Addr} {a b : AS} {o : AO} (h : Ext r a b) : Ext r a (upd b r o) := fun x p n e => (upd_other n).trans (h x p n e)
theorem Ext.new {r D : Addr} {a b : AS} {o : AO} (h : Ext r a b) (hD : b D = none) : Ext r a (upd b D o) := fun x p n e => by
  have := h x p n e
  rw [upd_other]
  · exact this
  · rintro rfl; rw [hD] at this; cases this
theorem Ext.put {r D : Addr} {a b : AS} {o : AO} (h : Ext r a b) (hD : a D = none) : Ext r a (upd b D o) := fun x p n e => by
  rw [upd_other]
  · exact h x p n e
  · rintro rfl; rw [hD] at e; cases e
theorem SubL.skip {ρ : Loc} {x : Str} {v : V} (h : ρ.lookup x = none) : SubL ρ ((x, v) :: ρ) := fun y u e => by
  rw [List.lookup_cons]
  cases hb : y == x with
  | true => have : y = x := by simpa using hb
            rw [this, h] at e; cases e
  | false => exact e
theorem con_signs (h : ∀ D, σ D = none → Φ (.obj D) (upd σ D (.list (Sg.all.map fun s => .str s.str)))) : Con prog w TT (d + 1) "_law_signs" (fnI 24) [] σ Φ := by
  refine con_fn (names := []) (bind_0 fun _ _ _ => rfl) fun A h₀ L a cd O => ?_
  refine ex_cons ?_
  repeat' (first | (tm_at "mine step") | fail)
  intro D hD
  repeat' (first | (tm_at "mine step") | fail)
  exact done (h D hD)
noncomputable def DR : Nat → Nat
  | 0 => 3
  | n + 1 => 3 * DR n + 3
noncomputable abbrev NodeC (prog : Program) (w : World) (d n : Nat) (fa ca : Addr) (is : List Int) (b : Int) : Prop := ∀ (σ : AS) (k : Nat) (l i : Int) (Φ : V → AS → Prop), i = (n : Int) → σ fa = some (FD ca k b l) → σ ca = some (.list (is.map V.int)) → k + DR n ≤ 10000 →
  (∀ t kk ll σ', Gen n t → kk ≤ k + DR n → Ext fa σ σ' → σ' fa = some (FD ca kk b ll) → Φ (val t) σ') → Con prog w TT d "_law_node" (fnI 27) [.obj fa, .int i] σ Φ
theorem up_at {q : Nat} (h : q < 6) : ∃ u : Up, (([.str "!", .str "some", .str "no", .str "#", .str "~", .str "^"] : List V))[q]? = some (.str u.str) := by
  have e : ([.str "!", .str "some", .str "no", .str "#", .str "~", .str "^"] : List V) = Up.all.map fun u => V.str u.str := by kernel_rfl
  have h : q < Up.all.length := h
  exact ⟨Up.all[q], by rw [e, List.getElem?_map, List.getElem?_eq_getElem h]; rfl⟩
theorem sg_at {q : Nat} (h : q < 15) : ∃ s : Sg, (Sg.all.map fun s => V.str s.str)[q]? = some (.str s.str) := by
  have : q < Sg.all.length := h
  exact ⟨Sg.all[q], by rw [List.getElem?_map, List.getElem?_eq_getElem this]; rfl⟩
/-- how far the count of draws may have come: `j` parts are made -/
noncomputable def Up2 (k D j kk : Nat) : Prop := kk ≤ k + 2 + j * D
theorem up2_0 {k D k₂ : Nat} (h : k₂ ≤ k + 1) : Up2 k D 0 (k₂ + 1) := by unfold Up2; omega
theorem up2_00 {k D k₂ : Nat} (h : k₂ ≤ k + 1) : Up2 k D 0 k₂ := by unfold Up2; omega
theorem up2_s {k D j kk k' : Nat} (h : Up2 k D j kk) (h' : k' ≤ kk + D) : Up2 k D (j + 1) k' := by
  unfold Up2 at *; rw [Nat.succ_mul]; omega
theorem up2_b {k D k₂ k' : Nat} (h : k₂ ≤ k + 1) (h' : k' ≤ k₂ + D) : Up2 k D 1 (k' + 1) := by unfold Up2; omega
theorem up2_end {k D j kk : Nat} (h : Up2 k D j kk) (hj : j ≤ 3) : kk ≤ k + (3 * D + 3) := by
  have := Nat.mul_le_mul_right D hj
  unfold Up2 at h; omega
theorem up2_fit {k D j kk : Nat} (hk : k + (3 * D + 3) ≤ 10000) (h : Up2 k D j kk) (hj : j ≤ 2) : kk + D ≤ 10000 := Nat.le_trans (up2_end (up2_s h (Nat.le_refl _)) (Nat.succ_le_succ hj)) hk
theorem up2_draw {k D k₂ : Nat} (hk : k + (3 * D + 3) ≤ 10000) (h : k₂ ≤ k + 1) : k₂ ≤ 10000 := by omega
theorem up2_draw' {k D k₂ k' : Nat} (hk : k + (3 * D + 3) ≤ 10000) (h : k₂ ≤ k + 1) (h' : k' ≤ k₂ + D) : k' ≤ 10000 := by omega
theorem DR_ge (n : Nat) : 3 ≤ DR n := by cases n <;> simp [DR]
theorem leaf_fit {k k₂ n : Nat} (h : k₂ ≤ k + 1) (h0 : n = 0 → k₂ = k) : k₂ + 2 ≤ k + DR n := by
  cases n with
  | zero => rw [h0 rfl]; show k + 2 ≤ k + 3; omega
  | succ n => show k₂ + 2 ≤ k + (3 * DR n + 3); omega
theorem nat_lt63 {q n : Nat} (h : q < n) (hn : n ≤ 1000) : (q : Int) < 2 ^ 63 := by omega
theorem four : ∀ q : Nat, q < 4 → q = 0 ∨ q = 1 ∨ q = 2 ∨ q = 3 := by decide
theorem pred_int (n : Nat) : (((n + 1 : Nat) : Int) - 1) = (n : Int) := by omega
theorem pred_of {m n : Nat} (h : 0 < n) : ∃ n', n = n' + 1 := ⟨n - 1, by omega⟩
set_option maxHeartbeats 4000000 in
theorem con_node_step {fa ca : Addr} {is : List Int} {b : Int} (hne : ca ≠ fa) (hlen : is.length ≤ 64) (n : Nat) (ih : ∀ n', n = n' + 1 → NodeC prog w (d + 1) n' fa ca is b) : NodeC prog w (d + 2) n fa ca is b := by
    intro σ k l i Φ hi hf hc hk h
    subst hi
    refine con_fn (names := ["feed", "deep"]) (bind_2 fun _ _ _ _ _ => rfl) fun A h₀ L a cd O => ?_
    refine ex_cons ?_
    with_reducible refine ex_AssignSub (by with_unfolding_all exact rfl) ?_
    repeat' (first | (tm_at "mine step") | with_reducible refine sub_dict (by with_unfolding_all exact rfl) hf (by with_unfolding_all exact rfl) ?_ | fail)
    refine set_dictX hf (by with_unfolding_all exact rfl) (by simp [sizeLine]) (kvs' := [("cells", .obj ca), ("count", .int k), ("blend", .int b), ("left", .int (l - 1))]) (by with_unfolding_all exact rfl) ?_
    have hf1 : (upd σ fa (FD ca k b (l - 1))) fa = some (FD ca k b (l - 1)) := upd_same
    have hc1 : (upd σ fa (FD ca k b (l - 1))) ca = some (.list (is.map V.int)) := (upd_other hne).trans hc
    have x1 : Ext fa σ (upd σ fa (FD ca k b (l - 1))) := Ext.refl.set
    generalize (upd σ fa (FD ca k b (l - 1))) = σ₁ at hf1 hc1 x1 ⊢
    repeat' (first | with_reducible refine ex_cons ?_ | with_reducible refine go_on ?_ | fail)
    with_reducible refine ex_Assign (by with_unfolding_all exact rfl) (by with_unfolding_all exact rfl) (by with_unfolding_all exact rfl) (by with_unfolding_all exact rfl) ?_
    refine EvP.mono (Φ := fun v σ' => ∃ m : Nat, v = .int m ∧ m < 9 ∧ (m ≠ 0 → 0 < n) ∧ ∃ k' l', σ' fa = some (FD ca k' b l') ∧ Ext fa σ σ' ∧ k' ≤ k + 1 ∧ (m = 0 → n = 0 → k' = k)) ?_ ?_
    · repeat' (first | (tm_at "mine stepk") | with_reducible refine sub_dict (by with_unfolding_all exact rfl) hf1 (by with_unfolding_all exact rfl) ?_ | with_reducible refine br_any (fun hcmp => ?_) (fun hcmp => ?_) | fail)
      · refine con_draw (many := 9) hf1 hc1 hne hlen (Nat.le_trans (Nat.le_add_right _ _) hk) (by decide) ?_
        rename_i e0
        have e1 : 0 < n := Int.ofNat_lt.mp (of_decide_eq_true e0)
        intro m hm
        exact ⟨m, rfl, hm, fun _ => e1, k + 1, _, upd_same, x1.set, Nat.le_refl _, fun _ e => absurd e (Nat.ne_of_gt e1)⟩
      all_goals exact ⟨0, rfl, by decide, fun e => absurd rfl e, k, _, hf1, x1, Nat.le_succ _, fun _ _ => rfl⟩
    rintro v σ₂ ⟨m, rfl, hm, hmn, k₂, l₂, hf2, x2, hk2, hk0⟩
    have hc2 := x2 _ _ hne hc
    clear hf1 hc1 x1
    repeat' (first | (tm_at "mine step") | fail)
    refine br_any (fun h0 => ?_) (fun h0 => ?_)
    · have h0' : m = 0 := by simpa using h0
      have hkk : k₂ + 2 ≤ k + DR n := leaf_fit hk2 (hk0 h0')
      have hz1 := Nat.le_trans (Nat.le_succ _) hkk
      have hz2 := Nat.le_trans hz1 hk
      repeat' (first | (tm_at "mine step") | fail)
      refine con_draw (many := 4) hf2 hc2 hne hlen (Nat.le_trans (Nat.le_succ _) hz2) (by decide) ?_
      intro q hq
      have hf3 : (upd σ₂ fa (FD ca (k₂ + 1) b l₂)) fa = some (FD ca (k₂ + 1) b l₂) := upd_same
      have x3 : Ext fa σ (upd σ₂ fa (FD ca (k₂ + 1) b l₂)) := x2.set
      have hc3 := x3 _ _ hne hc
      rcases four q hq with rfl | rfl | rfl | rfl
      all_goals repeat' (first | (tm_at "mine stepk") | with_reducible refine sub_str (by with_unfolding_all exact rfl) (by decide) (by decide) (by with_unfolding_all exact rfl) ?_ | fail)
      · exact done (h (.name false) _ _ _ (.name _) hz1 x3 hf3)
      · exact done (h (.name true) _ _ _ (.name _) hz1 x3 hf3)
      · refine con_draw (many := 3) hf3 hc3 hne hlen hz2 (by decide) ?_
        intro j hj
        repeat' (first | (tm_at "mine step") | fail)
        exact done (h (.num ⟨j, hj⟩) _ _ _ (.num _) hkk x3.set upd_same)
      · exact done (h .univ _ _ _ .univ hz1 x3 hf3)
    have h0' : m ≠ 0 := by simpa using h0
    obtain ⟨n', rfl⟩ := pred_of (m := 0) (hmn h0')
    have hk : k + (3 * DR n' + 3) ≤ 10000 := hk
    have hz := up2_draw hk hk2
    have ih := ih n' rfl
    have en := pred_int n'
    repeat' (first | (tm_at "mine step") | fail)
    refine br_any (fun h1 => ?_) (fun h1 => ?_)
    · repeat' (first | (tm_at "mine step") | fail)
      intro D hD
      have hf3 := keep_new (p := .list [.str "!", .str "some", .str "no", .str "#", .str "~", .str "^"]) hD hf2
      have x3 := x2.new (o := .list [.str "!", .str "some", .str "no", .str "#", .str "~", .str "^"]) hD
      have hc3 := x3 _ _ hne hc
      repeat' (first | (tm_at "mine step") | fail)
      refine con_draw (many := 6) hf3 hc3 hne hlen hz (by decide) ?_
      intro q hq
      obtain ⟨u, hu⟩ := up_at hq
      refine sub_list (x := .str u.str) (by with_unfolding_all exact rfl) ((upd_other (ne_new hD hf2)).trans upd_same) (Int.natCast_nonneg _) (nat_lt63 hq (by decide)) hu ?_
      repeat' (first | (tm_at "mine step") | fail)
      refine ih _ _ _ _ _ en upd_same (x3.set _ _ hne hc) (up2_fit hk (up2_0 hk2) (Nat.zero_le _)) ?_
      intro t kk ll σ₄ ht hkk x4 hf4
      repeat' (first | (tm_at "mine step") | fail)
      exact done (h (.un u t) kk ll σ₄ (.un u ht) (up2_end (up2_s (up2_0 hk2) hkk) (by decide)) (x3.set.trans x4) hf4)
    repeat' (first | (tm_at "mine step") | fail)
    refine br_any (fun h2 => ?_) (fun h2 => ?_)
    · repeat' (first | (tm_at "mine step") | fail)
      refine con_signs ?_
      intro D hD
      have hf3 := keep_new (p := .list (Sg.all.map fun s => .str s.str)) hD hf2
      have x3 := x2.new (o := .list (Sg.all.map fun s => .str s.str)) hD
      have hc3 := x3 _ _ hne hc
      repeat' (first | (tm_at "mine step") | fail)
      refine con_draw (many := 15) hf3 hc3 hne hlen hz (by decide) ?_
      intro q hq
      obtain ⟨s, hs⟩ := sg_at hq
      refine sub_list (x := .str s.str) (by with_unfolding_all exact rfl) ((upd_other (ne_new hD hf2)).trans upd_same) (Int.natCast_nonneg _) (nat_lt63 hq (by decide)) hs ?_
      repeat' (first | (tm_at "mine step") | fail)
      refine ih _ _ _ _ _ en upd_same (x3.set _ _ hne hc) (up2_fit hk (up2_0 hk2) (Nat.zero_le _)) ?_
      intro t kk ll σ₄ ht hkk x4 hf4
      have x4 := x3.set.trans x4
      repeat' (first | (tm_at "mine step") | fail)
      have u1 := up2_s (up2_0 (D := DR n') hk2) hkk
      refine ih _ _ _ _ _ en hf4 (x4 _ _ hne hc) (up2_fit hk u1 (by decide)) ?_
      intro t' kk' ll' σ₅ ht' hkk' x5 hf5
      repeat' (first | (tm_at "mine step") | fail)
      exact done (h (.bin s t t') _ _ σ₅ (.bin s ht ht') (up2_end (up2_s u1 hkk') (by decide)) (x4.trans x5) hf5)
    repeat' (first | (tm_at "mine step") | fail)
    refine br_any (fun h3 => ?_) (fun h3 => ?_)
    · repeat' (first | (tm_at "mine step") | fail)
      refine ih _ _ _ _ _ en hf2 (x2 _ _ hne hc) (up2_fit hk (up2_00 hk2) (Nat.zero_le _)) ?_
      intro t kk ll σ₄ ht hkk x4 hf4
      have x4 := x2.trans x4
      repeat' (first | (tm_at "mine step") | fail)
      have u1 := up2_s (up2_00 (D := DR n') hk2) hkk
      refine ih _ _ _ _ _ en hf4 (x4 _ _ hne hc) (up2_fit hk u1 (by decide)) ?_
      intro t' kk' ll' σ₅ ht' hkk' x5 hf5
      repeat' (first | (tm_at "mine step") | fail)
      exact done (h (.arrow t t') _ _ σ₅ (.arrow ht ht') (up2_end (up2_s u1 hkk') (by decide)) (x4.trans x5) hf5)
    repeat' (first | (tm_at "mine step") | fail)
    refine br_any (fun h4 => ?_) (fun h4 => ?_)
    · repeat' (first | (tm_at "mine step") | fail)
      refine ih _ _ _ _ _ en hf2 (x2 _ _ hne hc) (up2_fit hk (up2_00 hk2) (Nat.zero_le _)) ?_
      intro tb kb lb σ₃ htb hkb x3 hf3
      have x3 := x2.trans x3
      repeat' (first | (tm_at "mine step") | fail)
      intro D hD
      have hf4 := keep_new (p := .list []) hD hf3
      have x4 := x3.new (o := .list []) hD
      have hσD : σ D = none := by
        cases e : σ D with
        | none => rfl
        | some o =>
          by_cases eq : D = fa
          · rw [eq] at hD; rw [hD] at hf3; cases hf3
          · rw [x3 _ _ eq e] at hD; cases hD
      have hDf : D ≠ fa := ne_new hD hf3
      repeat' (first | (tm_at "mine step") | fail)
      refine ex_ForRange (x := "k") O (by with_unfolding_all exact rfl) (by with_unfolding_all exact rfl) (by with_unfolding_all exact rfl) (by with_unfolding_all exact rfl)
        (fun i ρ σ' => ρ = ([("base", val tb), ("some", .obj D), ("way", .int m), ("feed", .obj fa), ("deep", .int ((n' + 1 : Nat) : Int))] : List (Str × V)) ∧ ∃ ts : List N, ts.length = i ∧ (∀ t ∈ ts, Gen n' t) ∧ ∃ kk ll, σ' fa = some (FD ca kk b ll) ∧ Ext fa σ σ' ∧ σ' D = some (.list (ts.map val)) ∧ Up2 k (DR n') (1 + i) kk) ?_ (by with_unfolding_all exact rfl) (by intro _; with_unfolding_all exact rfl)
      repeat' (first | (tm_at "mine step") | fail)
      refine con_draw (many := 2) hf4 (x4 _ _ hne hc) hne hlen (up2_draw' hk hk2 hkb) (by decide) ?_
      intro q hq
      repeat' (first | (tm_at "mine step") | fail)
      have hq2 : 1 + q ≤ 2 := Nat.add_le_add_left (Nat.le_of_lt_succ hq) 1
      refine ⟨1 + q, by simp, Nat.lt_of_le_of_lt hq2 (by decide), ⟨rfl, [], rfl, nofun, _, _, upd_same, x4.set, (upd_other hDf).trans upd_same, up2_b hk2 hkb⟩, ?_, ?_⟩
      · rintro i _ σ₄ hi ⟨rfl, ts, hl, hg, kk, ll, hf5, x5, hs5, hkk⟩
        have hi2 : i ≤ 1 := Nat.le_of_lt_succ (Nat.lt_of_lt_of_le hi hq2)
        refine ex_cons ?_
        with_reducible refine ex_Expr (by with_unfolding_all exact rfl) (by with_unfolding_all exact rfl) ?_
        with_reducible refine ev_Method PySem.F.plainAttrs_list PySem.F.slot_list_append PySem.F.type_list_append (by with_unfolding_all exact rfl) (by with_unfolding_all exact rfl) (by with_unfolding_all exact rfl) (by with_unfolding_all decide) ?_
        repeat' (first | (tm_at "mine step") | fail)
        refine ⟨ty_list hs5, ?_⟩
        repeat' (first | (tm_at "mine step") | fail)
        refine ih _ _ _ _ _ en hf5 (x5 _ _ hne hc) (up2_fit hk hkk (Nat.add_le_add_left hi2 1)) ?_
        intro t k6 l6 σ₆ ht hk6 x6 hf6
        have hs6 := x6 _ _ hDf hs5
        repeat' (first | (tm_at "mine step") | fail)
        refine meth_append hs6 (by simp [hl]; exact Nat.le_trans hi2 (by decide)) ⟨rfl, ?_⟩
        repeat' (first | (tm_at "mine step") | fail)
        refine ⟨_, _, SubL.skip (by with_unfolding_all exact rfl), Sub.refl, rfl, ts ++ [t], by simp [hl], ?_, k6, l6, (upd_other (Ne.symm hDf)).trans hf6, (x5.trans x6).put hσD, ?_, ?_⟩
        · intro z hz
          rcases List.mem_append.mp hz with hz | hz
          · exact hg z hz
          · have : z = t := by simpa using hz
            subst this; exact ht
        · rw [upd_same]; simp
        · exact up2_s hkk hk6
      · rintro _ σ₄ ⟨rfl, ts, hl, hg, kk, ll, hf5, x5, hs5, hkk⟩
        have hend := up2_end hkk (Nat.add_le_add_left hq2 1)
        repeat' (first | (tm_at "mine step") | fail)
        refine call_tuple_obj hs5 (by simp [hl]; exact Nat.le_trans hq2 (by decide)) ?_
        repeat' (first | (tm_at "mine step") | fail)
        match ts, hl, hg with
        | [], hl, _ => exact absurd (hl.trans (Nat.add_comm 1 q)) (Nat.succ_ne_zero q).symm
        | [t], hl, hg => exact done (h (.box tb (.cons t .nil)) _ _ σ₄ (.box1 htb (hg t (.head _))) hend x5 hf5)
        | [t, t'], hl, hg => exact done (h (.box tb (.cons t (.cons t' .nil))) _ _ σ₄ (.box2 htb (hg t (.head _)) (hg t' (.tail _ (.head _)))) hend x5 hf5)
        | _ :: _ :: _ :: r, hl, _ => exact absurd (show r.length + 3 ≤ 2 from Nat.le_trans (Nat.le_of_eq hl) hq2) (Nat.not_le_of_gt (Nat.le_add_left 3 _))
    repeat' (first | (tm_at "mine step") | fail)
    refine ih _ _ _ _ _ en hf2 (x2 _ _ hne hc) (up2_fit hk (up2_00 hk2) (Nat.zero_le _)) ?_
    intro t kk ll σ₄ ht hkk x4 hf4
    have x4 := x2.trans x4
    repeat' (first | (tm_at "mine step") | fail)
    have u1 := up2_s (up2_00 (D := DR n') hk2) hkk
    refine ih _ _ _ _ _ en hf4 (x4 _ _ hne hc) (up2_fit hk u1 (by decide)) ?_
    intro t' kk' ll' σ₅ ht' hkk' x5 hf5
    have x5 := x4.trans x5
    repeat' (first | (tm_at "mine step") | fail)
    have u2 := up2_s u1 hkk'
    refine ih _ _ _ _ _ en hf5 (x5 _ _ hne hc) (up2_fit hk u2 (by decide)) ?_
    intro t3 k3 l3 σ₆ ht3 hkk3 x6 hf6
    repeat' (first | (tm_at "mine step") | fail)
    exact done (h (.ite t t' t3) _ _ σ₆ (.ite ht ht' ht3) (up2_end (up2_s u2 hkk3) (by decide)) (x5.trans x6) hf6)
theorem con_node {fa ca : Addr} {is : List Int} {b : Int} (hne : ca ≠ fa) (hlen : is.length ≤ 64) : ∀ (n : Nat) {d : Nat}, n + 2 ≤ d → NodeC prog w d n fa ca is b := by
  intro n
  induction n with
  | zero =>
    intro d hd
    obtain ⟨d, rfl⟩ : ∃ d', d = d' + 2 := ⟨d - 2, by omega⟩
    exact con_node_step hne hlen 0 fun n' e => by omega
  | succ n ih =>
    intro d hd
    obtain ⟨d, rfl⟩ : ∃ d', d = d' + 2 := ⟨d - 2, by omega⟩
    exact con_node_step hne hlen (n + 1) fun n' e => by
      obtain rfl : n = n' := by omega
      exact ih (by omega)
end
section
variable {prog : Program} {w : World} {d : Nat} {σ : AS} {Φ : V → AS → Prop}
theorem con_ahead (h : ∀ D, σ D = none → D ≠ sysModules → Φ (.obj D) (upd σ D (.dict aheadKV))) : Con prog w TT (d + 1) "_law_ahead" (fnI 23) [] σ Φ := by
  refine con_fn (names := []) (bind_0 fun _ _ _ => rfl) fun A h₀ L a cd O => ?_
  refine ex_cons ?_
  with_reducible refine ex_Return ?_
  with_reducible refine ev_Dict O ?_ (by with_unfolding_all exact rfl) (by with_unfolding_all exact rfl) (by simp) (by with_unfolding_all decide)
  repeat' (first | (tm_at "mine step") | (tm_at "mine dict") | fail)
  refine ⟨by decide, by decide, fun D hD hm => ?_⟩
  repeat' (first | (tm_at "mine step") | fail)
  exact done (h D hD hm)
theorem con_between (h : ∀ D, σ D = none → D ≠ sysModules → Φ (.obj D) (upd σ D (.dict betweenKV))) : Con prog w TT (d + 1) "_law_between" (fnI 22) [] σ Φ := by
  refine con_fn (names := []) (bind_0 fun _ _ _ => rfl) fun A h₀ L a cd O => ?_
  refine ex_cons ?_
  with_reducible refine ex_Return ?_
  with_reducible refine ev_DictLong O ?_ (by with_unfolding_all exact rfl) (by with_unfolding_all exact rfl) (by with_unfolding_all exact rfl)
  repeat' (first | (tm_at "mine step") | (tm_at "mine dict") | fail)
  refine ⟨by decide, fun D hD hm => ?_⟩
  repeat' (first | (tm_at "mine step") | fail)
  exact done (h D hD hm)
noncomputable abbrev WS (ws : List Tok) : AO := .list (ws.map fun t => V.str t.str)
noncomputable def Res (o : Option (N × Nat × List Tok)) (ws : List Tok) (v : V) (i' : Nat) : Prop := match o with
  | none => v = .none
  | some (x, l, r) => v = .tup [val x, .int l] ∧ ws.drop i' = r ∧ i' ≤ ws.length
noncomputable def ResA (o : Option (N × List Tok)) (ws : List Tok) (v : V) (i' : Nat) : Prop := match o with
  | none => v = .none
  | some (x, r) => v = val x ∧ ws.drop i' = r ∧ i' ≤ ws.length
noncomputable abbrev Post (row wa : Addr) (ws : List Tok) (R : V → Nat → Prop) (σ : AS) (Φ : V → AS → Prop) : Prop := ∀ v σ' i', R v i' → Ext row σ σ' → σ' row = some (RW wa i') → Φ v σ'
noncomputable def headIs (x : Str) : List Tok → Bool
  | t :: _ => decide (t.str = x)
  | [] => false
variable {c : Cx} {T : Tbl}
theorem dts_one (r : List Tok) : Dts σ ((r.take 1).map fun t => V.str t.str) ((r.take 1).map fun t => PyData.str t.str) := by
  cases r with
  | nil => exact .nil
  | cons t r => exact .cons (.str _) (by simp; exact .nil)
theorem ok_one (r : List Tok) : plain 20 (.list ((r.take 1).map fun t => PyData.str t.str)) = true := by
  cases r with
  | nil => rfl
  | cons t r => simp [plain, tok_ok]
open Classical in
theorem one_eq (r : List Tok) (x : Str) : decide (PyData.list ((r.take 1).map fun t => PyData.str t.str) = .list [.str x]) = headIs x r := by
  cases r with
  | nil => simp [headIs]
  | cons t r => simp [headIs]
theorem slice_eq {b D : Addr} {r : List Tok} {x : Str} (O : Ok T c d) (hb : σ b = some (.list ((r.take 1).map fun t => V.str t.str))) (hD : σ D = some (.list [.str x])) (hx : PyData.strOk x = true) (h : Φ (.bool (headIs x r)) σ) :
    Op2 prog w c (compareOp .Eq) (.obj b) (.obj D) σ Φ := by
  refine op_eq_data O (.list hb (dts_one r)) (.list hD (.cons (.str _) .nil)) ?_ (ok_one r) (by simp [plain, hx])
  rw [one_eq]; exact h
theorem slice_ne {b D : Addr} {r : List Tok} {x : Str} (O : Ok T c d) (hb : σ b = some (.list ((r.take 1).map fun t => V.str t.str))) (hD : σ D = some (.list [.str x])) (hx : PyData.strOk x = true) (h : Φ (.bool (!headIs x r)) σ) :
    Op2 prog w c (compareOp .NotEq) (.obj b) (.obj D) σ Φ := by
  refine op_ne_data O (.list hb (dts_one r)) (.list hD (.cons (.str _) .nil)) ?_ (ok_one r) (by simp [plain, hx])
  rw [one_eq]; exact h
theorem slice_notIn {b D E : Addr} {r : List Tok} {x y : Str} (O : Ok T c d) (hb : σ b = some (.list ((r.take 1).map fun t => V.str t.str))) (hD : σ D = some (.list [.str x])) (hE : σ E = some (.list [.str y])) (hx : PyData.strOk x = true) (hy : PyData.strOk y = true)
    (h : Φ (.bool (!(headIs x r || headIs y r))) σ) : Op2 prog w c (compareOp .NotIn) (.obj b) (.tup [.obj D, .obj E]) σ Φ := by
  refine op_notIn_tuple (ds := [.list [.str x], .list [.str y]]) O (.list hb (dts_one r)) (.cons (.list hD (.cons (.str _) .nil)) (.cons (.list hE (.cons (.str _) .nil)) .nil)) ?_ (ok_one r) ?_
  · have e : ∀ z : Str, (by classical exact decide (PyData.list [.str z] = PyData.list ((r.take 1).map fun t => PyData.str t.str)) : Bool) = headIs z r := fun z => by
      rw [← one_eq r z]
      congr 1
      exact propext ⟨Eq.symm, Eq.symm⟩
    rw [List.any_cons, List.any_cons, List.any_nil, e, e, Bool.or_false]
    exact h
  · intro e he
    rcases List.mem_cons.mp he with rfl | he
    · simp [plain, hx]
    · obtain rfl : e = _ := by simpa using he
      simp [plain, hy]
theorem cut_prev {α : Type} (l : List α) (i : Nat) : cut l (some (((i + 1 : Nat) : Int) - 1)) (some ((i + 1 : Nat) : Int)) = (l.drop i).take 1 := by
  have e : ((i + 1 : Nat) : Int) = (i : Int) + 1 := rfl
  rw [e, Int.add_sub_cancel]
  exact cut_one l i
theorem sl_prev {value lower upper : Option Expr} {val : Expr} {p : Pos} {wa : Addr} {ws : List Tok} {i : Nat} (hw : σ wa = some (WS ws)) (hws : ws.length ≤ 1000) (h : ∀ b, σ b = none → Φ (.obj b) (upd σ b (.list (((ws.drop i).take 1).map fun t => V.str t.str)))) :
    OpSl prog w c val (.Slice lower upper none p) (.obj wa) (some (((i + 1 : Nat) : Int) - 1)) (some ((i + 1 : Nat) : Int)) σ Φ := by
  refine sl_list hw (by rw [List.length_map]; exact Nat.le_trans hws (by decide)) fun b hb => ?_
  rw [cut_prev, ← List.map_drop, ← List.map_take]
  exact h b hb
theorem sl_next {value lower upper : Option Expr} {val : Expr} {p : Pos} {wa : Addr} {ws : List Tok} {i : Nat} (hw : σ wa = some (WS ws)) (hws : ws.length ≤ 1000) (h : ∀ b, σ b = none → Φ (.obj b) (upd σ b (.list (((ws.drop i).take 1).map fun t => V.str t.str)))) :
    OpSl prog w c val (.Slice lower upper none p) (.obj wa) (some (i : Int)) (some ((i : Int) + 1)) σ Φ := by
  refine sl_list hw (by rw [List.length_map]; exact Nat.le_trans hws (by decide)) fun b hb => ?_
  rw [cut_one, ← List.map_drop, ← List.map_take]
  exact h b hb
noncomputable abbrev ToldC (prog : Program) (w : World) (d n : Nat) (row wa : Addr) (ws : List Tok) : Prop := ∀ (f : Nat) (σ : AS) (i least : Nat) (j : Int) (Φ : V → AS → Prop), j = (least : Int) → σ row = some (RW wa i) → σ wa = some (WS ws) → i ≤ ws.length → ws.length - i ≤ n → 4 * (ws.length - i) + 4 ≤ f →
  Post row wa ws (Res (told f (ws.drop i) least) ws) σ Φ → Con prog w TT d "_law_told" (fnI 33) [.obj row, .int j] σ Φ
noncomputable abbrev OperC (prog : Program) (w : World) (d n : Nat) (row wa : Addr) (ws : List Tok) : Prop := ∀ (f : Nat) (σ : AS) (i least : Nat) (Φ : V → AS → Prop), σ row = some (RW wa i) → σ wa = some (WS ws) → i ≤ ws.length → ws.length - i ≤ n → 4 * (ws.length - i) + 3 ≤ f →
  Post row wa ws (Res (operand f (ws.drop i) least) ws) σ Φ → Con prog w TT d "_law_operand" (fnI 30) [.obj row, .int least] σ Φ
set_option maxHeartbeats 16000000 in
theorem con_operand {row wa : Addr} {ws : List Tok} {n : Nat} (hne : wa ≠ row) (hws : ws.length ≤ 1000) (hT : ∀ n', n = n' + 1 → ToldC prog w (d + 1) n' row wa ws) : OperC prog w (d + 2) n row wa ws := by
  intro f σ i least Φ hr hw hi hn hf h
  have hwl : (ws.map fun t => V.str t.str).length = ws.length := by simp
  obtain ⟨f, rfl⟩ := ar_pos hf
  have hf := Nat.le_of_succ_le_succ hf
  have hw62 : (ws.map fun t => V.str t.str).length < 2 ^ 62 := by rw [hwl]; exact ar_62 hws
  refine con_fn (names := ["row", "least"]) (bind_2 fun _ _ _ _ _ => rfl) fun A h₀ L a cd O => ?_
  refine ex_cons ?_
  with_reducible refine ex_Assign (by with_unfolding_all exact rfl) (by with_unfolding_all exact rfl) (by with_unfolding_all exact rfl) (by with_unfolding_all exact rfl) ?_
  refine EvP.mono (Φ := fun v σ' => σ = σ' ∧ v = .str (match ws[i]? with | some t => t.str | none => "")) ?_ ?_
  · repeat' (first | (tm_at "mine step") | with_reducible refine sub_list (by with_unfolding_all exact rfl) hr (by decide) (by decide) (by with_unfolding_all exact rfl) ?_ | with_reducible refine call_len_list' hw hw62 ?_ | with_reducible refine br_any (fun hc => ?_) (fun hc => ?_) | fail)
    · rw [hwl] at hc
      have hc' : i < ws.length := by simpa using hc
      refine sub_list (x := .str ws[i].str) (by with_unfolding_all exact rfl) hw (Int.natCast_nonneg _) (ar_63 (Nat.le_of_lt hc') hws) (by simp [hc']) ?_
      exact ⟨rfl, by rw [List.getElem?_eq_getElem hc']⟩
    · rw [hwl] at hc
      have hc' : ¬ i < ws.length := by simpa using hc
      exact ⟨rfl, by rw [List.getElem?_eq_none (Nat.le_of_not_lt hc')]⟩
  rintro v σ' ⟨e1, rfl⟩
  subst e1
  repeat' (first | (tm_at "mine stmt") | fail)
  with_reducible refine ex_AssignSub (by with_unfolding_all exact rfl) ?_
  repeat' (first | (tm_at "mine expr") | (tm_at "mine op") | with_reducible refine sub_list (by with_unfolding_all exact rfl) hr (by decide) (by decide) (by with_unfolding_all exact rfl) ?_ | fail)
  refine set_row hr ?_
  have x1 : Ext row σ (upd σ row (RW wa (i + 1))) := Ext.refl.set
  have hr : (upd σ row (RW wa (i + 1))) row = some (RW wa (i + 1)) := upd_same
  generalize (upd σ row (RW wa (i + 1))) = σ₁ at x1 hr ⊢
  repeat' (first | (tm_at "mine step") | fail)
  refine con_ahead fun D hD hm => ?_
  refine op_in_dict upd_same hm (ex_bool ?_)
  have x2 := x1.new (o := .dict aheadKV) hD
  have hr := keep_new (p := .dict aheadKV) hD hr
  generalize (upd σ₁ D (.dict aheadKV)) = σ₂ at x2 hr ⊢
  have hwk := fun (σ' : AS) (x : Ext row σ σ') => x _ _ hne hw
  have ab : ∀ x : Str, PyData.strOk x = true → ∀ {c : Cx} {Ψ : V → AS → Prop}, Ok TT c (d + 1) → Ψ (.bool ((["a", "b"] : List Str).contains x)) σ₂ → Op2 prog w c (compareOp .In) (.str x) (.tup [.str "a", .str "b"]) σ₂ Ψ := fun x hx c Ψ O hΨ => op_in_strs (xs := ["a", "b"]) O hΨ hx (by decide +kernel)
  cases hg : ws[i]? with
  | none =>
    have hd0 : ws.drop i = [] := List.drop_eq_nil_of_le (by simpa using hg)
    rw [hd0] at h
    have fin := h .none σ₂ (i + 1) (by simp only [operand]; rfl) x2 hr
    refine br_f (by with_unfolding_all exact rfl) ?_
    repeat' (first | (tm_at "mine stepk") | refine ab _ (by decide +kernel) O ?_ | fail)
    exact done fin
  | some t =>
    have hil : i < ws.length := (List.getElem?_eq_some_iff.mp hg).1
    have hdt : ws.drop i = t :: ws.drop (i + 1) := by
      rw [List.drop_eq_getElem_cons hil]
      have := (List.getElem?_eq_some_iff.mp hg).2
      rw [this]
    rw [hdt] at h
    dsimp only
    obtain ⟨hn1, hn2⟩ := ar_n' hn hil
    have hT := hT (n - 1) hn1
    have hf2 := Nat.le_trans (Nat.le_add_right _ 2) (ar_g hf hil)
    have fin := fun (e : operand (f + 1) (t :: ws.drop (i + 1)) least = none) => h .none σ₂ (i + 1) (by rw [e]; rfl) x2 hr
    have leaf := fun (x : N) (e : operand (f + 1) (t :: ws.drop (i + 1)) least = some (x, 18, ws.drop (i + 1))) => h (.tup [val x, .int 18]) σ₂ (i + 1) (by rw [e]; exact ⟨rfl, rfl, hil⟩) x2 hr
    rcases tok_kind t with ⟨u, rfl⟩ | rfl | rfl | ⟨k, rfl⟩ | ⟨b, rfl⟩ | ⟨k0, k1, k2, k3, k4, k5⟩
    case inl =>
      refine br_t (by show (List.lookup (Tok.up u).str aheadKV).isSome = true; rw [tok_ahead]; rfl) ?_
      repeat' (first | (tm_at "mine step") | fail)
      refine con_ahead fun D hD hm => ?_
      have x3 := x2.new (o := .dict aheadKV) hD
      have hr := keep_new (p := .dict aheadKV) hD hr
      repeat' (first | (tm_at "mine step") | fail)
      refine sub_dict (k := (Tok.up u).str) (by with_unfolding_all exact rfl) upd_same (tok_ahead (.up u)) ?_
      generalize (upd σ₂ D (.dict aheadKV)) = σ₃ at x3 hr ⊢
      repeat' (first | (tm_at "mine step") | fail)
      by_cases hl : least ≤ u.lev
      · refine br_t (by simpa using hl) ?_
        repeat' (first | (tm_at "mine step") | fail)
        refine con_ahead fun D hD hm => ?_
        have x4 := x3.new (o := .dict aheadKV) hD
        have hr := keep_new (p := .dict aheadKV) hD hr
        repeat' (first | (tm_at "mine step") | fail)
        refine sub_dict (k := (Tok.up u).str) (by with_unfolding_all exact rfl) upd_same (tok_ahead (.up u)) ?_
        generalize (upd σ₃ D (.dict aheadKV)) = σ₄ at x4 hr ⊢
        repeat' (first | (tm_at "mine step") | fail)
        refine hT f _ (i + 1) u.lev _ _ rfl hr (hwk _ x4) hil hn2 hf2 ?_
        intro v σ₅ i' hv x5 hr
        have x5 := x4.trans x5
        cases et : told f (ws.drop (i + 1)) u.lev with
        | none =>
          rw [et] at hv
          obtain rfl : v = .none := hv
          repeat' (first | (tm_at "mine stepk") | fail)
          exact done (h .none σ₅ i' (by simp only [operand, if_pos hl, et]; rfl) x5 hr)
        | some p =>
          obtain ⟨y, l, r⟩ := p
          rw [et] at hv
          obtain ⟨rfl, hr2, hi2⟩ := hv
          repeat' (first | (tm_at "mine step") | with_reducible refine br_f rfl ?_ | fail)
          refine con_ahead fun D hD hm => ?_
          have x6 := x5.new (o := .dict aheadKV) hD
          have hr := keep_new (p := .dict aheadKV) hD hr
          repeat' (first | (tm_at "mine step") | fail)
          refine sub_dict (k := (Tok.up u).str) (by with_unfolding_all exact rfl) upd_same (tok_ahead (.up u)) ?_
          repeat' (first | (tm_at "mine step") | fail)
          exact done (h (.tup [val (.un u y), .int u.lev]) _ i' (by simp only [operand, if_pos hl, et]; exact ⟨rfl, hr2, hi2⟩) x6 hr)
      · refine br_f (by simpa using hl) ?_
        repeat' (first | (tm_at "mine stepk") | fail)
        exact done (h .none _ (i + 1) (by simp only [operand, if_neg hl]; rfl) x3 hr)
    case inr.inl =>
      refine br_f (by show (List.lookup _ aheadKV).isSome = false; rw [tok_ahead]; rfl) ?_
      repeat' (first | (tm_at "mine step") | (tm_at "mine tok") | fail)
      refine hT f _ (i + 1) 0 _ _ rfl hr (hwk _ x2) hil hn2 hf2 ?_
      intro v σ₅ i' hv x5 hr
      have x5 := x2.trans x5
      repeat' (first | (tm_at "mine stmt") | fail)
      with_reducible refine ex_AssignSub (by with_unfolding_all exact rfl) ?_
      repeat' (first | (tm_at "mine expr") | (tm_at "mine op") | with_reducible refine sub_list (by with_unfolding_all exact rfl) hr (by decide) (by decide) (by with_unfolding_all exact rfl) ?_ | fail)
      refine set_row hr ?_
      have x6 : Ext row σ (upd σ₅ row (RW wa (i' + 1))) := x5.set
      have hr : (upd σ₅ row (RW wa (i' + 1))) row = some (RW wa (i' + 1)) := upd_same
      generalize (upd σ₅ row (RW wa (i' + 1))) = σ₆ at x6 hr ⊢
      cases et : told f (ws.drop (i + 1)) 0 with
      | none =>
        rw [et] at hv
        obtain rfl : v = .none := hv
        repeat' (first | (tm_at "mine stepk") | fail)
        exact done (h .none _ _ (by simp only [operand, et]; rfl) x6 hr)
      | some p =>
        obtain ⟨y, l, r⟩ := p
        rw [et] at hv
        obtain ⟨rfl, hr2, hi2⟩ := hv
        repeat' (first | (tm_at "mine step") | (tm_at "mine slice") | with_reducible refine sub_list (by with_unfolding_all exact rfl) hr (by decide) (by decide) (by with_unfolding_all exact rfl) ?_ | with_reducible refine br_t rfl ?_ | fail)
        refine sl_prev (value := none) (hwk _ x6) hws fun b hb => ?_
        have x7 := x6.new (o := .list (((ws.drop i').take 1).map fun t => V.str t.str)) hb
        have hr := keep_new (p := .list (((ws.drop i').take 1).map fun t => V.str t.str)) hb hr
        have hb7 : (upd σ₆ b (.list (((ws.drop i').take 1).map fun t => V.str t.str))) b = some (.list (((ws.drop i').take 1).map fun t => V.str t.str)) := upd_same
        generalize (upd σ₆ b (.list (((ws.drop i').take 1).map fun t => V.str t.str))) = σ₇ at x7 hr hb7 ⊢
        repeat' (first | (tm_at "mine step") | fail)
        intro D hD
        have x8 := x7.new (o := .list [.str ")"]) hD
        have hr := keep_new (p := .list [.str ")"]) hD hr
        refine slice_eq O (keep_new hD hb7) upd_same (by decide +kernel) ?_
        generalize (upd σ₇ D (.list [.str ")"])) = σ₈ at x8 hr ⊢
        rw [hr2]
        repeat' (first | (tm_at "mine step") | fail)
        cases r with
        | nil =>
          refine br_f rfl ?_
          repeat' (first | (tm_at "mine stepk") | fail)
          exact done (h .none _ _ (by simp only [operand, et]; rfl) x8 hr)
        | cons t' r' =>
          have e : headIs ")" (t' :: r') = t'.isRp := tok_rp t'
          rw [e]
          cases hrp : t'.isRp with
          | true =>
            obtain rfl := is_rp hrp
            refine br_t rfl ?_
            repeat' (first | (tm_at "mine stepk") | fail)
            obtain ⟨h9, h10, _⟩ := next_drop hr2
            exact done (h (.tup [val y, .int 18]) _ (i' + 1) (by simp only [operand, et]; exact ⟨rfl, h9, h10⟩) x8 hr)
          | false =>
            refine br_f rfl ?_
            repeat' (first | (tm_at "mine stepk") | fail)
            exact done (h .none _ _ (by rw [lp_bad et hrp]; rfl) x8 hr)
    case inr.inr.inl =>
      refine br_f (by show (List.lookup _ aheadKV).isSome = false; rw [tok_ahead]; rfl) ?_
      repeat' (first | (tm_at "mine step") | (tm_at "mine tok") | fail)
      exact done (leaf .univ (by simp only [operand]))
    case inr.inr.inr.inl =>
      refine br_f (by show (List.lookup _ aheadKV).isSome = false; rw [tok_ahead]; rfl) ?_
      repeat' (first | (tm_at "mine step") | (tm_at "mine tok") | with_reducible refine sub_str (by with_unfolding_all exact rfl) (by decide) (by decide) (tok_head _) ?_ | with_reducible refine op_in_str ?_ | with_reducible refine call_int_num k ?_ | fail)
      exact done (leaf (.num k) (by simp only [operand]))
    case inr.inr.inr.inr.inl =>
      refine br_f (by show (List.lookup _ aheadKV).isSome = false; rw [tok_ahead]; rfl) ?_
      repeat' (first | (tm_at "mine step") | (tm_at "mine tok") | with_reducible refine sub_str (by with_unfolding_all exact rfl) (by decide) (by decide) (tok_head _) ?_ | with_reducible refine op_in_str ?_ | refine ab _ (tok_ok _) O ?_ | fail)
      exact done (leaf (.name b) (by simp only [operand]))
    case inr.inr.inr.inr.inr =>
      refine br_f (by show (List.lookup _ aheadKV).isSome = false; rw [tok_ahead, k0]; rfl) ?_
      repeat' (first | (tm_at "mine step") | with_reducible refine br_f ((tok_lp _).trans k1) ?_ | with_reducible refine br_f ((tok_univ _).trans k2) ?_ | with_reducible refine br_f ((tok_digit _).trans k3) ?_ | with_reducible refine br_f ((tok_ab _).trans k4) ?_ | (tm_at "mine tok") | with_reducible refine sub_str (by with_unfolding_all exact rfl) (by decide) (by decide) (tok_head _) ?_ | with_reducible refine op_in_str ?_ | refine ab _ (tok_ok _) O ?_ | fail)
      exact done (fin (k5 _ _ _))
end
section
variable {prog : Program} {w : World} {d : Nat} {σ : AS} {Φ : V → AS → Prop}
noncomputable abbrev BehC (prog : Program) (w : World) (d n : Nat) (row wa : Addr) (ws : List Tok) : Prop := ∀ (f : Nat) (σ : AS) (i L : Nat) (x : N) (t : Tok) (Φ : V → AS → Prop), t.lev = some L → t.isLb = false → σ row = some (RW wa i) → σ wa = some (WS ws) → i ≤ ws.length → ws.length - i ≤ n → 4 * (ws.length - i) + 5 ≤ f →
  Post row wa ws (Res (behind f x t L (ws.drop i)) ws) σ Φ → Con prog w TT d "_law_behind" (fnI 32) [.obj row, val x, .str t.str, .int L] σ Φ
noncomputable def Tok.bot (t : Tok) (L : Nat) : Nat := if t.isImp then 3 else L + 1
theorem beh_sg {f L : Nat} {x : N} {s : Sg} {r : List Tok} (h : (Tok.sg s).isImp = false) : behind (f + 1) x (.sg s) L r = match told f r (L + 1) with
    | some (y, _, r') => some (.bin s x y, L, r')
    | none => none := by
  cases s <;> first | (cases h; done) | (simp only [behind] <;> (cases told f r (L + 1) <;> rfl))
set_option maxHeartbeats 16000000 in
theorem con_behind {row wa : Addr} {ws : List Tok} {n : Nat} (hne : wa ≠ row) (hws : ws.length ≤ 1000) (hT : ToldC prog w (d + 1) n row wa ws) : BehC prog w (d + 2) n row wa ws := by
  intro f σ i L x t Φ ht hlb hr hw hi hn hf h
  obtain ⟨f, rfl⟩ := ar_pos hf
  have hf := Nat.le_of_succ_le_succ hf
  refine con_fn (names := ["row", "left", "sign", "level"]) (bind_4 fun _ _ _ _ _ _ _ => rfl) fun A h₀ L' a cd O => ?_
  refine ex_cons ?_
  have hwk := fun (σ' : AS) (x : Ext row σ σ') => x _ _ hne hw
  repeat' (first | (tm_at "mine stmt") | fail)
  with_reducible refine ev_Call O (by with_unfolding_all exact rfl) (by with_unfolding_all decide) (by with_unfolding_all exact rfl) (by with_unfolding_all exact rfl) ?_
  with_reducible refine evL_cons (by with_unfolding_all exact rfl) ?_
  (tm_at "mine expr")
  with_reducible refine evL_cons (by with_unfolding_all exact rfl) ?_
  refine EvP.mono (Φ := fun v σ' => σ = σ' ∧ v = .int (t.bot L : Nat)) ?_ ?_
  · repeat' (first | (tm_at "mine step") | fail)
    rw [tok_imp]
    unfold Tok.bot
    cases t.isImp
    · repeat' (first | (tm_at "mine stepk") | fail)
      exact ⟨rfl, rfl⟩
    · repeat' (first | (tm_at "mine stepk") | fail)
      exact ⟨rfl, rfl⟩
  rintro v σ' ⟨e1, rfl⟩
  subst e1
  repeat' (first | (tm_at "mine step") | fail)
  refine hT f _ i (t.bot L) _ _ rfl hr hw hi hn hf ?_
  intro v σ₁ i₁ hv x1 hr
  repeat' (first | (tm_at "mine step") | fail)
  cases et : told f (ws.drop i) (t.bot L) with
  | none =>
    rw [et] at hv
    obtain rfl : v = .none := hv
    repeat' (first | (tm_at "mine stepk") | fail)
    refine done (h .none σ₁ i₁ ?_ x1 hr)
    cases hi' : t.isImp with
    | true =>
      cases t with
      | sg s =>
        cases s <;> first | (cases hi'; done) | skip
        have et : told f (ws.drop i) 3 = none := et
        simp only [behind, et]; rfl
      | _ => cases hi'
    | false =>
      have et' : told f (ws.drop i) (L + 1) = none := by rw [← et, Tok.bot, hi']; rfl
      clear et
      cases t with
      | sg s => rw [beh_sg hi', et']; rfl
      | arrow => simp only [behind, et']; rfl
      | lb => cases hlb
      | _ => cases ht
  | some p =>
    obtain ⟨y, l, r⟩ := p
    rw [et] at hv
    obtain ⟨rfl, hr2, hi2⟩ := hv
    refine br_f rfl ?_
    repeat' (first | (tm_at "mine step") | fail)
    cases t with
    | arrow =>
      refine br_t (tok_arrow .arrow) ?_
      repeat' (first | (tm_at "mine stepk") | fail)
      have et : told f (ws.drop i) (L + 1) = some (y, l, r) := et
      exact done (h (.tup [val (.arrow x y), .int L]) σ₁ i₁ (by simp only [behind, et]; exact ⟨rfl, hr2, hi2⟩) x1 hr)
    | sg s =>
      refine br_f (tok_arrow (.sg s)) ?_
      repeat' (first | (tm_at "mine step") | fail)
      cases hi' : (Tok.sg s).isImp with
      | false =>
        refine br_t (by rw [tok_imp, hi']; rfl) ?_
        repeat' (first | (tm_at "mine stepk") | fail)
        have et : told f (ws.drop i) (L + 1) = some (y, l, r) := by rw [← et, Tok.bot, hi']; rfl
        exact done (h (.tup [val (.bin s x y), .int L]) σ₁ i₁ (by rw [beh_sg hi', et]; exact ⟨rfl, hr2, hi2⟩) x1 hr)
      | true =>
        cases s <;> first | (cases hi'; done) | skip
        have et : told f (ws.drop i) 3 = some (y, l, r) := et
        refine br_f (by rw [tok_imp]; rfl) ?_
        repeat' (first | (tm_at "mine step") | fail)
        by_cases hl : l = 3
        · subst hl
          refine br_t (by decide) ?_
          repeat' (first | (tm_at "mine stepk") | fail)
          exact done (h (.tup [val (.bin .imp x y), .int L]) σ₁ i₁ (by simp only [behind, et, if_pos]; exact ⟨rfl, hr2, hi2⟩) x1 hr)
        · refine br_f (ar_ne hl) ?_
          repeat' (first | (tm_at "mine step") | (tm_at "mine slice") | with_reducible refine sub_list (by with_unfolding_all exact rfl) hr (by decide) (by decide) (by with_unfolding_all exact rfl) ?_ | fail)
          refine sl_next (value := none) (hwk _ x1) hws fun b hb => ?_
          have x2 := x1.new (o := .list (((ws.drop i₁).take 1).map fun t => V.str t.str)) hb
          have hr := keep_new (p := .list (((ws.drop i₁).take 1).map fun t => V.str t.str)) hb hr
          have hb7 : (upd σ₁ b (.list (((ws.drop i₁).take 1).map fun t => V.str t.str))) b = some (.list (((ws.drop i₁).take 1).map fun t => V.str t.str)) := upd_same
          generalize (upd σ₁ b (.list (((ws.drop i₁).take 1).map fun t => V.str t.str))) = σ₂ at x2 hr hb7 ⊢
          repeat' (first | (tm_at "mine step") | fail)
          intro D hD
          have x3 := x2.new (o := .list [.str "else"]) hD
          have hr := keep_new (p := .list [.str "else"]) hD hr
          refine slice_ne O (keep_new hD hb7) upd_same (by decide +kernel) ?_
          generalize (upd σ₂ D (.list [.str "else"])) = σ₃ at x3 hr ⊢
          rw [hr2]
          repeat' (first | (tm_at "mine step") | fail)
          cases r with
          | nil =>
            refine br_t rfl ?_
            repeat' (first | (tm_at "mine stepk") | fail)
            exact done (h (.tup [val (.bin .imp x y), .int L]) _ i₁ (by simp only [behind, et, if_neg hl]; exact ⟨rfl, hr2, hi2⟩) x3 hr)
          | cons t' r' =>
            have e : headIs "else" (t' :: r') = t'.isEls := tok_els t'
            rw [e]
            cases hels : t'.isEls with
            | true =>
              obtain rfl := is_els hels
              refine br_f rfl ?_
              with_reducible refine evA_or_nil ?_
              repeat' (first | (tm_at "mine stmt") | (tm_at "mine pick") | fail)
              obtain ⟨h9, h10, _⟩ := next_drop hr2
              have h11 : i ≤ i₁ + 1 := by
                have := (reader_len f).2.1 _ _ _ _ _ et
                rw [← hr2, List.length_drop, List.length_drop] at this
                exact Nat.le_succ_of_le (Nat.le_of_lt (ar_lt this))
              with_reducible refine ex_AssignSub (by with_unfolding_all exact rfl) ?_
              repeat' (first | (tm_at "mine expr") | (tm_at "mine op") | with_reducible refine sub_list (by with_unfolding_all exact rfl) hr (by decide) (by decide) (by with_unfolding_all exact rfl) ?_ | fail)
              refine set_row hr ?_
              have x4 := x3.set (o := RW wa (i₁ + 1))
              have hr : (upd σ₃ row (RW wa (i₁ + 1))) row = some (RW wa (i₁ + 1)) := upd_same
              generalize (upd σ₃ row (RW wa (i₁ + 1))) = σ₄ at x4 hr ⊢
              repeat' (first | (tm_at "mine step") | fail)
              refine hT f _ (i₁ + 1) 3 _ _ rfl hr (hwk _ x4) h10 (ar_sub h11 hn) (ar_le (Nat.sub_le_sub_left h11 _) hf) ?_
              intro v σ₅ i₅ hv x5 hr
              rw [h9] at hv
              cases et2 : told f r' 3 with
              | none =>
                rw [et2] at hv
                obtain rfl : v = .none := hv
                repeat' (first | (tm_at "mine stepk") | fail)
                exact done (h .none σ₅ i₅ (by simp only [behind, et, if_neg hl, et2]; rfl) (x4.trans x5) hr)
              | some p =>
                obtain ⟨z, l', r''⟩ := p
                rw [et2] at hv
                obtain ⟨rfl, hr5, hi5⟩ := hv
                repeat' (first | (tm_at "mine step") | with_reducible refine br_f rfl ?_ | fail)
                exact done (h (.tup [val (.ite x y z), .int 3]) σ₅ i₅ (by simp only [behind, et, if_neg hl, et2]; exact ⟨rfl, hr5, hi5⟩) (x4.trans x5) hr)
            | false =>
              refine br_t rfl ?_
              repeat' (first | (tm_at "mine stepk") | fail)
              exact done (h (.tup [val (.bin .imp x y), .int L]) _ i₁ (by rw [els_bad et hl hels]; exact ⟨rfl, hr2, hi2⟩) x3 hr)
    | lb => cases hlb
    | _ => cases ht
end
section
variable {prog : Program} {w : World} {d : Nat} {σ : AS} {Φ : V → AS → Prop}
noncomputable abbrev ArgC (prog : Program) (w : World) (d n : Nat) (row wa : Addr) (ws : List Tok) : Prop := ∀ (f : Nat) (σ : AS) (i : Nat) (Φ : V → AS → Prop), σ row = some (RW wa i) → σ wa = some (WS ws) → i ≤ ws.length → ws.length - i ≤ n → 4 * (ws.length - i) + 5 ≤ f →
  Post row wa ws (ResA (args f (ws.drop i)) ws) σ Φ → Con prog w TT d "_law_arguments" (fnI 31) [.obj row] σ Φ
noncomputable def rows (acc : List N) (a : N) : N := acc.foldr N.cons a
theorem val_rows (x : N) : ∀ acc : List N, val (rows acc (.cons x .nil)) = .tup ((acc ++ [x]).map val)
  | [] => by simp [rows, val, untup]
  | y :: acc => by
    have := val_rows x acc
    simp only [rows, List.foldr_cons] at this ⊢
    rw [val, this]
    simp [untup]
theorem rows_snoc (x : N) (acc : List N) (a : N) : rows (acc ++ [x]) a = rows acc (.cons x a) := by simp [rows]
noncomputable def addRows (acc : List N) : Option (N × List Tok) → Option (N × List Tok)
  | some (a, r) => some (rows acc a, r)
  | none => none
theorem addRows_nil (o : Option (N × List Tok)) : addRows [] o = o := by
  cases o with
  | none => rfl
  | some p => rfl
theorem evT_True {c : Cx} {ρ : Loc} {k : Nat} {pos : Pos} {Ψ : Bool → AS → Prop} (h : Ψ true σ) : EvT prog w c (.Constant (.bool true) k pos) ρ σ Ψ :=
  evT_value (ev_bool (op_truthy_bool h))
set_option maxHeartbeats 16000000 in
theorem con_arguments {row wa : Addr} {ws : List Tok} {n : Nat} (hne : wa ≠ row) (hws : ws.length ≤ 1000) (hT : ToldC prog w (d + 1) n row wa ws) : ArgC prog w (d + 2) n row wa ws := by
  intro f σ i Φ hr hw hi hn hf h
  refine con_fn (names := ["row"]) (bind_1 fun _ _ _ _ => rfl) fun A h₀ L' a cd O => ?_
  refine ex_cons ?_
  repeat' (first | (tm_at "mine step") | fail)
  intro D hD
  have hDr : D ≠ row := ne_new hD hr
  have x0 : Ext row σ (upd σ D (.list [])) := Ext.refl.new hD
  have hr0 := keep_new (p := .list []) hD hr
  repeat' (first | (tm_at "mine step") | fail)
  refine ex_While (fun n' ρ σ' => ρ = ([("found", .obj D), ("row", .obj row)] : List (Str × V)) ∧ ∃ (acc : List N) (i' g : Nat), n' = ws.length - i' ∧ i' ≤ ws.length ∧ ws.length - i' ≤ n ∧ acc.length + (ws.length - i') ≤ ws.length ∧ 4 * (ws.length - i') + 5 ≤ g ∧ Ext row σ σ' ∧ σ' row = some (RW wa i') ∧ σ' D = some (.list (acc.map val)) ∧ args f (ws.drop i) = addRows acc (args g (ws.drop i'))) ?_ (ws.length - i) ?_
  rotate_left
  · exact ⟨rfl, [], i, f, rfl, hi, hn, by simp, hf, x0, hr0, upd_same, (addRows_nil _).symm⟩
  rintro n' _ σ₁ ⟨rfl, acc, i₁, g, rfl, hi1, hn1, hacc, hg, x1, hr1, hD1, hargs⟩
  have hw1 := x1 _ _ hne hw
  obtain ⟨g, rfl⟩ := ar_pos hg
  have hg := Nat.le_of_succ_le_succ hg
  have hsz : (acc.map val).length ≤ 1000 := by rw [List.length_map]; exact Nat.le_trans (Nat.le_add_right _ _) (Nat.le_trans hacc hws)
  refine evT_True (br_t rfl ?_)
  refine ex_cons ?_
  repeat' (first | (tm_at "mine step") | fail)
  refine hT g _ i₁ 0 _ _ rfl hr1 hw1 hi1 hn1 hg ?_
  intro v σ₂ i₂ hv x2 hr2
  have hD2 := x2 _ _ hDr hD1
  have hw2 := x2 _ _ hne hw1
  have x2 := x1.trans x2
  repeat' (first | (tm_at "mine stmt") | fail)
  with_reducible refine ex_AssignSub (by with_unfolding_all exact rfl) ?_
  have hr := hr2
  repeat' (first | (tm_at "mine expr") | (tm_at "mine op") | with_reducible refine sub_list (by with_unfolding_all exact rfl) hr (by decide) (by decide) (by with_unfolding_all exact rfl) ?_ | fail)
  refine set_row hr ?_
  have x3 : Ext row σ (upd σ₂ row (RW wa (i₂ + 1))) := x2.set
  have hD3 := (upd_other (σ := σ₂) (o := RW wa (i₂ + 1)) hDr).trans hD2
  have hw3 := (upd_other (σ := σ₂) (o := RW wa (i₂ + 1)) hne).trans hw2
  clear hr
  have hr : (upd σ₂ row (RW wa (i₂ + 1))) row = some (RW wa (i₂ + 1)) := upd_same
  generalize (upd σ₂ row (RW wa (i₂ + 1))) = σ₃ at x3 hr hD3 hw3 ⊢
  repeat' (first | (tm_at "mine step") | (tm_at "mine slice") | with_reducible refine sub_list (by with_unfolding_all exact rfl) hr (by decide) (by decide) (by with_unfolding_all exact rfl) ?_ | fail)
  refine sl_prev (value := none) hw3 hws fun b hb => ?_
  have hbD : b ≠ D := ne_new hb hD3
  have x4 := x3.new (o := .list (((ws.drop i₂).take 1).map fun t => V.str t.str)) hb
  have hr4 := keep_new (p := .list (((ws.drop i₂).take 1).map fun t => V.str t.str)) hb hr
  have hD4 := keep_new (p := .list (((ws.drop i₂).take 1).map fun t => V.str t.str)) hb hD3
  have hb4 : (upd σ₃ b (.list (((ws.drop i₂).take 1).map fun t => V.str t.str))) b = some (.list (((ws.drop i₂).take 1).map fun t => V.str t.str)) := upd_same
  generalize (upd σ₃ b (.list (((ws.drop i₂).take 1).map fun t => V.str t.str))) = σ₄ at x4 hr4 hD4 hb4 ⊢
  repeat' (first | (tm_at "mine step") | fail)
  cases et : told g (ws.drop i₁) 0 with
  | none =>
    rw [et] at hv
    obtain rfl : v = .none := hv
    refine br_t rfl ?_
    repeat' (first | (tm_at "mine stepk") | fail)
    exact stop_ret (done (h .none σ₄ _ (by rw [hargs]; simp only [args, et]; rfl) x4 hr4))
  | some p =>
  obtain ⟨y, l, r⟩ := p
  have hlt := (reader_len g).2.1 _ _ _ _ _ et
  rw [et] at hv
  obtain ⟨rfl, hr5, hi2⟩ := hv
  refine br_f rfl ?_
  repeat' (first | (tm_at "mine step") | fail)
  intro E1 hE1
  have x5 := x4.new (o := .list [.str ","]) hE1
  have hr6 := keep_new (p := .list [.str ","]) hE1 hr4
  have hD5 := keep_new (p := .list [.str ","]) hE1 hD4
  have hb5 := keep_new (p := .list [.str ","]) hE1 hb4
  have hE5 : (upd σ₄ E1 (.list [.str ","])) E1 = some (.list [.str ","]) := upd_same
  generalize (upd σ₄ E1 (.list [.str ","])) = σ₅ at x5 hr6 hD5 hb5 hE5 ⊢
  repeat' (first | (tm_at "mine step") | fail)
  intro E2 hE2
  have x6 := x5.new (o := .list [.str "]"]) hE2
  have hr7 := keep_new (p := .list [.str "]"]) hE2 hr6
  have hD6 := keep_new (p := .list [.str "]"]) hE2 hD5
  have hb6 := keep_new (p := .list [.str "]"]) hE2 hb5
  have hE6 := keep_new (p := .list [.str "]"]) hE2 hE5
  have hE7 : (upd σ₅ E2 (.list [.str "]"])) E2 = some (.list [.str "]"]) := upd_same
  generalize (upd σ₅ E2 (.list [.str "]"])) = σ₆ at x6 hr7 hD6 hb6 hE6 hE7 ⊢
  repeat' (first | (tm_at "mine step") | fail)
  refine slice_notIn O hb6 hE6 hE7 (by decide +kernel) (by decide +kernel) ?_
  rw [hr5] at hb6 ⊢
  repeat' (first | (tm_at "mine step") | fail)
  -- the next word
  have bad : headIs "," r = false → headIs "]" r = false → args (g + 1) (ws.drop i₁) = none := by
    intro h1 h2
    simp only [args, et]
    cases r with
    | nil => rfl
    | cons t r =>
      have e1 : headIs "," (t :: r) = t.isComma := tok_comma t
      have e2 : headIs "]" (t :: r) = t.isRb := tok_rb t
      rw [e1] at h1
      rw [e2] at h2
      cases t <;> first | rfl | (cases h1; done) | (cases h2; done)
  cases hc : headIs "," r with
  | true =>
    obtain ⟨r', rfl⟩ : ∃ r', r = .comma :: r' := by
      cases r with
      | nil => cases hc
      | cons t r =>
        have e1 : headIs "," (t :: r) = t.isComma := tok_comma t
        rw [e1] at hc
        cases t <;> first | (cases hc; done) | exact ⟨r, rfl⟩
    have hb' : headIs "]" (.comma :: r') = false := tok_rb .comma
    rw [hb']
    refine br_f rfl ?_
    obtain ⟨h9, h10, h11⟩ := next_drop hr5
    have hl9 : (ws.drop i₁).length = ws.length - i₁ := by simp
    have hl8 : r'.length + 1 < ws.length - i₁ := by rw [hl9] at hlt; simpa using hlt
    obtain ⟨q1, q2, q3, q4⟩ := ar_args h11 hl8 hn1 hacc hg
    repeat' (first | (tm_at "mine stepk") | fail)
    with_reducible refine ex_Expr (by with_unfolding_all exact rfl) (by with_unfolding_all exact rfl) ?_
    with_reducible refine ev_Method PySem.F.plainAttrs_list PySem.F.slot_list_append PySem.F.type_list_append (by with_unfolding_all exact rfl) (by with_unfolding_all exact rfl) (by with_unfolding_all exact rfl) (by with_unfolding_all decide) ?_
    repeat' (first | (tm_at "mine step") | fail)
    refine ⟨ty_list hD6, ?_⟩
    repeat' (first | (tm_at "mine step") | fail)
    refine meth_append hD6 (Nat.le_trans hsz (by decide)) ⟨rfl, ?_⟩
    repeat' (first | (tm_at "mine step") | fail)
    have hb7 := (upd_other (o := .list (acc.map val ++ [val y])) hbD).trans hb6
    have hD7 : (upd σ₆ D (.list (acc.map val ++ [val y]))) D = some (.list (acc.map val ++ [val y])) := upd_same
    have hr8 := (upd_other (o := .list (acc.map val ++ [val y])) (Ne.symm hDr)).trans hr7
    have x7 := x6.put (o := .list (acc.map val ++ [val y])) hD
    generalize (upd σ₆ D (.list (acc.map val ++ [val y]))) = σ₇ at x7 hr8 hb7 hD7 ⊢
    intro F hF
    have x8 := x7.new (o := .list [.str "]"]) hF
    have hr9 := keep_new (p := .list [.str "]"]) hF hr8
    have hD8 := keep_new (p := .list [.str "]"]) hF hD7
    refine slice_eq O (keep_new hF hb7) upd_same (by decide +kernel) ?_
    generalize (upd σ₇ F (.list [.str "]"])) = σ₈ at x8 hr9 hD8 ⊢
    rw [hb']
    repeat' (first | (tm_at "mine stepk") | fail)
    refine ⟨_, _, SubL.cons (by with_unfolding_all exact rfl) (SubL.cons (by with_unfolding_all exact rfl) SubL.nil), Sub.refl, ws.length - (i₂ + 1), q1, rfl, acc ++ [y], i₂ + 1, g, rfl, h10, q2, by rw [List.length_append]; exact q3, q4, x8, hr9, by rw [hD8]; simp, ?_⟩
    rw [hargs, h9]
    simp only [args, et]
    cases args g r' with
    | none => rfl
    | some p => obtain ⟨a, q⟩ := p; simp only [addRows, rows_snoc]
  | false =>
  cases hb8 : headIs "]" r with
  | false =>
    refine br_t rfl ?_
    repeat' (first | (tm_at "mine stepk") | fail)
    exact stop_ret (done (h .none σ₆ _ (by rw [hargs, bad hc hb8]; rfl) x6 hr7))
  | true =>
    obtain ⟨r', rfl⟩ : ∃ r', r = .rb :: r' := by
      cases r with
      | nil => cases hb8
      | cons t r =>
        have e1 : headIs "]" (t :: r) = t.isRb := tok_rb t
        rw [e1] at hb8
        cases t <;> first | (cases hb8; done) | exact ⟨r, rfl⟩
    refine br_f rfl ?_
    obtain ⟨h9, h10, h11⟩ := next_drop hr5
    repeat' (first | (tm_at "mine stepk") | fail)
    with_reducible refine ex_Expr (by with_unfolding_all exact rfl) (by with_unfolding_all exact rfl) ?_
    with_reducible refine ev_Method PySem.F.plainAttrs_list PySem.F.slot_list_append PySem.F.type_list_append (by with_unfolding_all exact rfl) (by with_unfolding_all exact rfl) (by with_unfolding_all exact rfl) (by with_unfolding_all decide) ?_
    repeat' (first | (tm_at "mine step") | fail)
    refine ⟨ty_list hD6, ?_⟩
    repeat' (first | (tm_at "mine step") | fail)
    refine meth_append hD6 (Nat.le_trans hsz (by decide)) ⟨rfl, ?_⟩
    repeat' (first | (tm_at "mine step") | fail)
    have hb7 := (upd_other (o := .list (acc.map val ++ [val y])) hbD).trans hb6
    have hD7 : (upd σ₆ D (.list (acc.map val ++ [val y]))) D = some (.list (acc.map val ++ [val y])) := upd_same
    have hr8 := (upd_other (o := .list (acc.map val ++ [val y])) (Ne.symm hDr)).trans hr7
    have x7 := x6.put (o := .list (acc.map val ++ [val y])) hD
    generalize (upd σ₆ D (.list (acc.map val ++ [val y]))) = σ₇ at x7 hr8 hb7 hD7 ⊢
    intro F hF
    have x8 := x7.new (o := .list [.str "]"]) hF
    have hr9 := keep_new (p := .list [.str "]"]) hF hr8
    have hD8 := keep_new (p := .list [.str "]"]) hF hD7
    refine slice_eq O (keep_new hF hb7) upd_same (by decide +kernel) ?_
    generalize (upd σ₇ F (.list [.str "]"])) = σ₈ at x8 hr9 hD8 ⊢
    rw [hb8]
    repeat' (first | (tm_at "mine stepk") | fail)
    refine call_tuple_obj hD8 (by rw [List.length_append]; exact Nat.le_trans (Nat.add_le_add_right hsz 1) (by decide)) ?_
    repeat' (first | (tm_at "mine step") | fail)
    refine stop_ret (done (h (.tup (acc.map val ++ [val y])) σ₈ (i₂ + 1) ?_ x8 hr9))
    rw [hargs]
    simp only [args, et, addRows]
    exact ⟨by rw [val_rows]; simp, h9, h10⟩
end
section
variable {prog : Program} {w : World} {d : Nat} {σ : AS} {Φ : V → AS → Prop}
theorem EvT.mono {prog : Program} {w : World} {c : Cx} {e : Expr} {ρ : Loc} {σ : AS} {Ψ Ψ' : Bool → AS → Prop} (h : EvT prog w c e ρ σ Ψ) (k : ∀ b σ, Ψ b σ → Ψ' b σ) : EvT prog w c e ρ σ Ψ' := fun s S Q E q =>
  h s S Q E fun b s' σ' st ho hb => q b s' σ' st ho (k b σ' hb)
theorem loop_nil {g lev least : Nat} {x : N} (h : 0 < g) : loop g x lev [] least = some (x, lev, []) := by
  obtain ⟨g, rfl⟩ : ∃ g', g = g' + 1 := ⟨g - 1, by omega⟩
  rw [loop]
theorem loop_go {g lev least L : Nat} {x : N} {t : Tok} {r : List Tok} (ht : t.lev = some L) (h1 : ¬ L < least) (h2 : ¬ (L = 6 ∧ lev = 6)) : loop (g + 1) x lev (t :: r) least = (match behind g x t L r with
    | some (x', lev', r') => loop g x' lev' r' least
    | none => none) := by
  rw [loop, ht]
  simp only [if_neg h1, if_neg h2] <;> rfl
theorem loop_stop {g lev least L : Nat} {x : N} {t : Tok} {r : List Tok} (ht : t.lev = some L) (h1 : L < least) : loop (g + 1) x lev (t :: r) least = some (x, lev, t :: r) := by
  rw [loop, ht]
  simp only [if_pos h1]
theorem loop_off {g lev least : Nat} {x : N} {t : Tok} {r : List Tok} (ht : t.lev = none) : loop (g + 1) x lev (t :: r) least = some (x, lev, t :: r) := by
  rw [loop, ht]
theorem loop_bad {g lev least L : Nat} {x : N} {t : Tok} {r : List Tok} (ht : t.lev = some L) (h1 : ¬ L < least) (h2 : L = 6 ∧ lev = 6) : loop (g + 1) x lev (t :: r) least = none := by
  rw [loop, ht]
  simp only [if_neg h1, if_pos h2]
theorem levI_some {t : Tok} {L : Nat} (h : t.lev = some L) : t.levI = L := by rw [Tok.levI, h]
theorem levI_none {t : Tok} (h : t.lev = none) : t.levI = -1 := by rw [Tok.levI, h]
set_option maxHeartbeats 16000000 in
theorem con_told_step {row wa : Addr} {ws : List Tok} {n : Nat} (hne : wa ≠ row) (hws : ws.length ≤ 1000) (hO : OperC prog w (d + 1) n row wa ws)
    (hB : ∀ n', n = n' + 1 → BehC prog w (d + 1) n' row wa ws) (hA : ∀ n', n = n' + 1 → ArgC prog w (d + 1) n' row wa ws) : ToldC prog w (d + 2) n row wa ws := by
  intro f σ i least j Φ hj hr hw hi hn hf h
  subst hj
  have hwl : (ws.map fun t => V.str t.str).length = ws.length := by simp
  obtain ⟨f, rfl⟩ := ar_pos hf
  have hf := Nat.le_of_succ_le_succ hf
  have hw62 : (ws.map fun t => V.str t.str).length < 2 ^ 62 := by rw [hwl]; exact ar_62 hws
  refine con_fn (names := ["row", "least"]) (bind_2 fun _ _ _ _ _ => rfl) fun A h₀ L' a cd O => ?_
  refine ex_cons ?_
  repeat' (first | (tm_at "mine step") | fail)
  refine hO f _ i least _ hr hw hi hn hf ?_
  intro v σ₁ i₁ hv x1 hr1
  repeat' (first | (tm_at "mine step") | fail)
  refine ex_While (fun m ρ σ' => ∃ v i', ρ = ([("found", v), ("row", .obj row), ("least", .int least)] : List (Str × V)) ∧ Ext row σ σ' ∧ σ' row = some (RW wa i') ∧
    ((v = .none ∧ m = 0 ∧ told (f + 1) (ws.drop i) least = none) ∨ ∃ x lev g, v = .tup [val x, .int (lev : Nat)] ∧ i' ≤ ws.length ∧ m = ws.length - i' + 1 ∧ i < i' ∧ 4 * (ws.length - i') + 3 ≤ g ∧ told (f + 1) (ws.drop i) least = loop g x lev (ws.drop i') least)) ?_
    (match operand f (ws.drop i) least with | none => 0 | some _ => ws.length - i₁ + 1) ?_
  rotate_left
  · refine ⟨v, i₁, rfl, x1, hr1, ?_⟩
    cases eo : operand f (ws.drop i) least with
    | none =>
      rw [eo] at hv
      obtain rfl : v = .none := hv
      exact .inl ⟨rfl, rfl, by simp only [told, eo]⟩
    | some p =>
      obtain ⟨x, lev, r⟩ := p
      have hlt := (reader_len f).1 _ _ _ _ _ eo
      rw [eo] at hv
      obtain ⟨rfl, hr2, hi2⟩ := hv
      rw [← hr2] at hlt
      rw [List.length_drop, List.length_drop] at hlt
      exact .inr ⟨x, lev, f, rfl, hi2, rfl, ar_lt hlt, ar_le (Nat.le_of_lt hlt) hf, by simp only [told, eo, hr2]⟩
  rintro m _ σ₂ ⟨v, i₂, rfl, x2, hr2, hv⟩
  have hw2 := x2 _ _ hne hw
  clear hr1
  rcases hv with ⟨rfl, rfl, et⟩ | ⟨x, lev, g, rfl, hi2, rfl, hii, hg, et⟩
  · refine evT_BoolOp ?_
    repeat' (first | (tm_at "mine stepk") | fail)
    exact done (h .none σ₂ i₂ (by rw [et]; rfl) x2 hr2)
  obtain ⟨g, rfl⟩ := ar_pos hg
  have hg := Nat.le_of_succ_le_succ hg
  have hr := hr2
  refine evT_BoolOp ?_
  repeat' (first | (tm_at "mine step") | with_reducible refine sub_list (by with_unfolding_all exact rfl) hr (by decide) (by decide) (by with_unfolding_all exact rfl) ?_ | with_reducible refine call_len_list' hw2 hw62 ?_ | with_reducible refine br_t rfl ?_ | fail)
  cases ed : ws.drop i₂ with
  | nil =>
    have : ws.length ≤ i₂ := List.drop_eq_nil_iff.mp ed
    refine br_f (by rw [hwl]; exact ar_not this) ?_
    repeat' (first | (tm_at "mine stepk") | fail)
    exact done (h (.tup [val x, .int lev]) σ₂ i₂ (by rw [et, ed, loop_nil (Nat.succ_pos _)]; exact ⟨rfl, ed, hi2⟩) x2 hr2)
  | cons t r =>
  obtain ⟨h9, h10, h11⟩ := next_drop ed
  refine br_t (by rw [hwl]; exact ar_yes h10) ?_
  with_reducible refine evA_and_nil ?_
  refine br_t rfl ?_
  refine ex_cons ?_
  have hget : (ws.map fun t => V.str t.str)[i₂]? = some (.str t.str) := by
    have e0 : (ws.drop i₂)[0]? = some t := by rw [ed]; rfl
    rw [List.getElem?_drop] at e0
    rw [List.getElem?_map, show ws[i₂]? = some t from e0]; rfl
  repeat' (first | (tm_at "mine step") | with_reducible refine sub_list (by with_unfolding_all exact rfl) hr (by decide) (by decide) (by with_unfolding_all exact rfl) ?_ | fail)
  refine sub_list (x := .str t.str) (by with_unfolding_all exact rfl) hw2 (Int.natCast_nonneg _) (ar_63 hi2 hws) (by simpa using hget) ?_
  repeat' (first | (tm_at "mine stmt") | fail)
  refine EvP.mono (Φ := fun v σ' => v = .int t.levI ∧ Ext row σ₂ σ' ∧ σ' row = some (RW wa i₂)) ?_ ?_
  · repeat' (first | (tm_at "mine step") | fail)
    rw [tok_lb]
    cases hlb : t.isLb with
    | true =>
      refine br_t rfl ?_
      repeat' (first | (tm_at "mine step") | fail)
      refine ⟨?_, Ext.refl, hr2⟩
      cases t <;> first | rfl | (cases hlb; done)
    | false =>
      refine br_f rfl ?_
      with_reducible refine ev_Method PySem.F.plainAttrs_dict PySem.F.slot_dict_get PySem.F.type_dict_get (by with_unfolding_all exact rfl) (by with_unfolding_all exact rfl) (by with_unfolding_all exact rfl) (by with_unfolding_all decide) ?_
      repeat' (first | (tm_at "mine step") | fail)
      refine con_between fun D hD hm => ?_
      refine ⟨ty_dict upd_same, ?_⟩
      repeat' (first | (tm_at "mine step") | fail)
      refine meth_get upd_same hm ?_
      exact ⟨tok_between t hlb, Ext.refl.new hD, keep_new hD hr2⟩
  rintro v σ₃ ⟨rfl, x3, hr3⟩
  have hw3 := x3 _ _ hne hw2
  have x3 := x2.trans x3
  clear hr
  have hr := hr3
  repeat' (first | (tm_at "mine step") | fail)
  have back := fun (e : loop (g + 1) x lev (t :: r) least = some (x, lev, t :: r)) => h (.tup [val x, .int lev]) σ₃ i₂ (by rw [et, ed, e]; exact ⟨rfl, ed, hi2⟩) x3 hr3
  cases hL : t.lev with
  | none =>
    rw [levI_none hL]
    refine br_t (ar_neg _) ?_
    repeat' (first | (tm_at "mine stepk") | fail)
    exact stop_ret (done (back (loop_off hL)))
  | some L =>
  rw [levI_some hL]
  by_cases h1 : L < least
  · refine br_t (by simpa using h1) ?_
    repeat' (first | (tm_at "mine stepk") | fail)
    exact stop_ret (done (back (loop_stop hL h1)))
  refine br_f (by simpa using h1) ?_
  repeat' (first | (tm_at "mine step") | fail)
  refine br_f (by simp) ?_
  with_reducible refine evA_or_nil ?_
  refine br_f rfl ?_
  repeat' (first | (tm_at "mine stmt") | fail)
  refine EvT.mono (Ψ := fun b σ' => σ₃ = σ' ∧ b = decide (L = 6 ∧ lev = 6)) ?_ ?_
  · refine evT_BoolOp ?_
    repeat' (first | (tm_at "mine step") | fail)
    by_cases h6 : L = 6
    · refine br_t (by subst h6; rfl) ?_
      repeat' (first | (tm_at "mine step") | fail)
      by_cases h7 : lev = 6
      · refine br_t (by subst h7; rfl) ?_
        refine evA_and_nil ?_
        exact ⟨rfl, by simp [h6, h7]⟩
      · refine br_f (ar_ne h7) ?_
        exact ⟨rfl, by simp [h7]⟩
    · refine br_f (ar_ne h6) ?_
      exact ⟨rfl, by simp [h6]⟩
  rintro b _ ⟨rfl, rfl⟩
  by_cases h2 : L = 6 ∧ lev = 6
  · refine br_t (by simpa using h2) ?_
    repeat' (first | (tm_at "mine step") | fail)
    exact stop_ret (done (h .none σ₃ i₂ (by rw [et, ed, loop_bad hL h1 h2]; rfl) x3 hr3))
  refine br_f (by simpa using h2) ?_
  have go := loop_go (g := g) (lev := lev) (x := x) (r := r) hL h1 h2
  rw [← ed, ← et] at go
  repeat' (first | (tm_at "mine stmt") | fail)
  with_reducible refine ex_AssignSub (by with_unfolding_all exact rfl) ?_
  repeat' (first | (tm_at "mine expr") | (tm_at "mine op") | with_reducible refine sub_list (by with_unfolding_all exact rfl) hr (by decide) (by decide) (by with_unfolding_all exact rfl) ?_ | fail)
  refine set_row hr ?_
  have x4 : Ext row σ (upd σ₃ row (RW wa (i₂ + 1))) := x3.set
  have hw4 := (upd_other (σ := σ₃) (o := RW wa (i₂ + 1)) hne).trans hw3
  have hr4 : (upd σ₃ row (RW wa (i₂ + 1))) row = some (RW wa (i₂ + 1)) := upd_same
  generalize (upd σ₃ row (RW wa (i₂ + 1))) = σ₄ at x4 hr4 hw4 ⊢
  clear hr
  have hr := hr4
  repeat' (first | (tm_at "mine step") | fail)
  rw [tok_lb]
  cases hlb : t.isLb with
  | true =>
    obtain rfl : t = .lb := by cases t <;> first | rfl | (cases hlb; done)
    obtain rfl : L = 15 := by cases hL; rfl
    refine br_t rfl ?_
    repeat' (first | (tm_at "mine step") | fail)
    obtain ⟨g, rfl⟩ := ar_pos hg
    obtain ⟨hn1, hn2⟩ := ar_n hn hii h10
    refine hA (n - 1) hn1 g _ (i₂ + 1) _ hr4 hw4 h10 hn2 (Nat.le_of_succ_le_succ (ar_g hg h10)) ?_
    intro v σ₅ i₅ hv x5 hr5
    rw [h9] at hv
    have x5 := x4.trans x5
    repeat' (first | (tm_at "mine step") | fail)
    cases ea : args g r with
    | none =>
      rw [ea] at hv
      obtain rfl : v = .none := hv
      repeat' (first | (tm_at "mine stepk") | fail)
      refine ⟨_, _, SubL.cons (by with_unfolding_all exact rfl) (SubL.cons (by with_unfolding_all exact rfl) (SubL.cons (by with_unfolding_all exact rfl) SubL.nil)), Sub.refl, 0, Nat.succ_pos _, .none, i₅, rfl, x5, hr5, .inl ⟨rfl, rfl, ?_⟩⟩
      rw [go]; simp only [behind, ea]
    | some p =>
      obtain ⟨y, r'⟩ := p
      have hlt := (reader_len g).2.2.2.2 _ _ _ ea
      rw [ea] at hv
      obtain ⟨rfl, hr6, hi6⟩ := hv
      refine br_f (by cases y <;> rfl) ?_
      repeat' (first | (tm_at "mine stepk") | fail)
      rw [← hr6, List.length_drop] at hlt
      refine ⟨_, _, SubL.cons (by with_unfolding_all exact rfl) (SubL.cons (by with_unfolding_all exact rfl) (SubL.cons (by with_unfolding_all exact rfl) SubL.nil)), Sub.refl, ws.length - i₅ + 1, ar_m (Nat.le_of_lt hlt) h11, .tup [val (.box x y), .int 15], i₅, rfl, x5, hr5, .inr ⟨.box x y, 15, g + 1, rfl, hi6, rfl, ar_i hii (Nat.le_of_lt hlt) h11, Nat.le_trans (Nat.le_add_right _ 3) (ar_f hg (Nat.le_of_lt hlt) h11), ?_⟩⟩
      rw [go]; simp only [behind, ea, hr6]
  | false =>
    refine br_f rfl ?_
    repeat' (first | (tm_at "mine step") | fail)
    obtain ⟨hn1, hn2⟩ := ar_n hn hii h10
    refine hB (n - 1) hn1 g _ (i₂ + 1) L x t _ hL hlb hr4 hw4 h10 hn2 (Nat.le_of_succ_le (ar_g hg h10)) ?_
    intro v σ₅ i₅ hv x5 hr5
    rw [h9] at hv
    have x5 := x4.trans x5
    repeat' (first | (tm_at "mine step") | fail)
    cases ea : behind g x t L r with
    | none =>
      rw [ea] at hv
      obtain rfl : v = .none := hv
      refine ⟨_, _, SubL.cons (by with_unfolding_all exact rfl) (SubL.cons (by with_unfolding_all exact rfl) (SubL.cons (by with_unfolding_all exact rfl) SubL.nil)), Sub.refl, 0, Nat.succ_pos _, .none, i₅, rfl, x5, hr5, .inl ⟨rfl, rfl, ?_⟩⟩
      rw [go]; simp only [ea]
    | some p =>
      obtain ⟨y, l, r'⟩ := p
      have hlt := (reader_len g).2.2.2.1 _ _ _ _ _ _ _ ea
      rw [ea] at hv
      obtain ⟨rfl, hr6, hi6⟩ := hv
      rw [← hr6, List.length_drop] at hlt
      refine ⟨_, _, SubL.cons (by with_unfolding_all exact rfl) (SubL.cons (by with_unfolding_all exact rfl) (SubL.cons (by with_unfolding_all exact rfl) SubL.nil)), Sub.refl, ws.length - i₅ + 1, ar_m hlt h11, .tup [val y, .int l], i₅, rfl, x5, hr5, .inr ⟨y, l, g, rfl, hi6, rfl, ar_i hii hlt h11, Nat.le_trans (Nat.le_add_right _ 3) (ar_f hg hlt h11), ?_⟩⟩
      rw [go]; simp only [ea, hr6]
theorem con_told {row wa : Addr} {ws : List Tok} (hne : wa ≠ row) (hws : ws.length ≤ 1000) : ∀ (n : Nat) {d : Nat}, 2 * n + 3 ≤ d → ToldC prog w d n row wa ws := by
  intro n
  induction n with
  | zero =>
    intro d hd
    obtain ⟨d, rfl⟩ : ∃ d', d = d' + 3 := ⟨d - 3, by omega⟩
    exact con_told_step hne hws (con_operand hne hws fun n' e => by omega) (fun n' e => by omega) fun n' e => by omega
  | succ n ih =>
    intro d hd
    obtain ⟨d, rfl⟩ : ∃ d', d = d' + 3 := ⟨d - 3, by omega⟩
    have h0 : ToldC prog w (d + 1) n row wa ws := ih (by omega)
    have e : ∀ {n'}, n + 1 = n' + 1 → n' = n := fun h => by omega
    exact con_told_step hne hws (con_operand hne hws fun n' h => by obtain rfl := e h; exact h0) (fun n' h => by obtain rfl := e h; exact con_behind hne hws h0) fun n' h => by obtain rfl := e h; exact con_arguments hne hws h0
end
section
variable {prog : Program} {w : World} {d : Nat} {σ : AS} {Φ : V → AS → Prop}
theorem cut_to {α : Type} (l : List α) (b : Nat) : cut l none (some (b : Int)) = l.take b := by
  show (l.drop 0).take (clipAt l.length b - 0) = _
  rw [clip_nat, List.drop_zero, Nat.sub_zero]
  rcases Nat.lt_or_ge b l.length with h' | h'
  · rw [Nat.min_eq_left (Nat.le_of_lt h')]
  · rw [Nat.min_eq_right h', List.take_of_length_le (Nat.le_refl _), List.take_of_length_le h']
theorem cut_from {α : Type} (l : List α) (a : Nat) : cut l (some (a : Int)) none = l.drop a := by
  show (l.drop (clipAt l.length a)).take (l.length - clipAt l.length a) = _
  rw [clip_nat, List.take_of_length_le (Nat.le_of_eq List.length_drop)]
  rcases Nat.lt_or_ge a l.length with h | h
  · rw [Nat.min_eq_left (Nat.le_of_lt h)]
  · rw [Nat.min_eq_right h, List.drop_length, List.drop_eq_nil_of_le h]
theorem scut_nat (l : List Nat) (a b : Nat) : scut (S l) (some (a : Int)) (some (b : Int)) = S ((l.drop a).take (b - a)) := by
  unfold scut
  rw [S_list, cut_nat]; rfl
theorem dec_S (a b : List Nat) : decide (S a = S b) = decide (a = b) := by
  by_cases h : a = b
  · subst h; simp
  · rw [decide_eq_false h, decide_eq_false fun e => h (S_inj e)]
theorem char_fin : ∀ c : Fin 128, (!(Builtin.Str.occurrences ("abcdefghijklmnopqrstuvwxyz0123456789" : Str) ⟨#[c.val]⟩ 0 ("abcdefghijklmnopqrstuvwxyz0123456789" : Str).length 1).isEmpty) = isW c.val := by decide +kernel
theorem char_in {c : Nat} (h : c < 128) : (!(Builtin.Str.occurrences ("abcdefghijklmnopqrstuvwxyz0123456789" : Str) ⟨#[c]⟩ 0 ("abcdefghijklmnopqrstuvwxyz0123456789" : Str).length 1).isEmpty) = isW c := char_fin ⟨c, h⟩
theorem wlen_in : ∀ {m : List Nat} {j : Nat}, j < wlen m → ∃ c, m[j]? = some c ∧ isW c = true
  | [], j, h => by simp [wlen] at h
  | c :: m, j, h => by
    rw [wlen_cons] at h
    split at h
    · rename_i hc
      cases j with
      | zero => exact ⟨c, rfl, hc⟩
      | succ j => exact wlen_in (m := m) (by omega)
    · omega
theorem wlen_out : ∀ {m : List Nat} {c : Nat}, m[wlen m]? = some c → isW c = false
  | [], c, h => by simp at h
  | x :: m, c, h => by
    rw [wlen_cons] at h
    split at h
    · exact wlen_out (m := m) (by simpa using h)
    · rename_i hx
      obtain rfl : x = c := by simpa using h
      simpa using hx
theorem wlen_le (m : List Nat) : wlen m ≤ m.length := (List.takeWhile_sublist isW).length_le
noncomputable abbrev tokV : List V := tokL.map fun q => .str (S q)
theorem con_tokens (h : ∀ D, σ D = none → Φ (.obj D) (upd σ D (.list tokV))) : Con prog w TT (d + 1) "_law_tokens" (fnI 25) [] σ Φ := by
  refine con_fn (names := []) (bind_0 fun _ _ _ => rfl) fun A h₀ L a cd O => ?_
  refine ex_cons ?_
  repeat' (first | (tm_at "mine step") | fail)
  intro D hD
  repeat' (first | (tm_at "mine step") | fail)
  exact done (h D hD)
noncomputable def isAt (l : List Nat) (i : Nat) : V → Bool
  | .str q => decide (scut (S l) (some (i : Int)) (some ((i : Int) + (q.length : Int))) = q)
  | _ => false
theorem isAt_S (l : List Nat) (i : Nat) (q : List Nat) : isAt l i (.str (S q)) = decide ((l.drop i).take q.length = q) := by
  show decide (scut (S l) (some (i : Int)) (some ((i : Int) + ((S q).length : Int))) = S q) = _
  rw [S_length, show (i : Int) + (q.length : Int) = ((i + q.length : Nat) : Int) by omega, scut_nat, dec_S, Nat.add_sub_cancel_left]
theorem filt (l : List Nat) (i : Nat) : ∀ ts : List (List Nat), ((ts.map fun q => V.str (S q)).filter (isAt l i)).map id = (ts.filter fun q => decide ((l.drop i).take q.length = q)).map fun q => V.str (S q)
  | [] => rfl
  | q :: ts => by
    have := filt l i ts
    rw [List.map_cons, List.filter_cons, List.filter_cons, isAt_S]
    split
    · rw [List.map_cons, List.map_cons, this]; rfl
    · exact this
theorem dts_S : ∀ ts : List (List Nat), Dts σ (ts.map fun q => V.str (S q)) (ts.map fun q => PyData.str (S q))
  | [] => .nil
  | q :: ts => .cons (.str _) (dts_S ts)
theorem tok_strOk : tokL.all (fun q => PyData.strOk (S q)) = true := by decide +kernel
theorem ok_list (ts : List Str) (h : ∀ q ∈ ts, PyData.strOk q = true) : plain 20 (.list (ts.map PyData.str)) = true := by
  simp only [plain, List.all_map, List.all_eq_true]
  intro q hq
  simpa [plain] using h q hq
set_option maxHeartbeats 16000000 in
theorem con_word_at {l : List Nat} {i : Nat} (hl : l.length ≤ 10000) (hs : ∀ c ∈ l, c < 128) (hi : i ≤ l.length) (h : Φ (.str (S (wordL (l.drop i)))) σ) : Con prog w TT (d + 2) "_law_word_at" (fnI 28) [.str (S l), .int i] σ Φ := by
  have hdl : (l.drop i).length = l.length - i := by simp
  have hwl := wlen_le (l.drop i)
  have hSz : (S l).length ≤ sizeLine := by rw [S_length]; exact Nat.le_trans hl (by decide)
  refine con_fnC (names := ["text", "spot"]) (bind_2 fun _ _ _ _ _ => rfl) fun A h₀ L a cd O => ?_
  refine ex_cons ?_
  repeat' (first | (tm_at "mine step") | fail)
  refine ex_While (fun m ρ σ' => ∃ e : Nat, ρ = ([("end", .int e), ("text", .str (S l)), ("spot", .int i)] : List (Str × V)) ∧ σ = σ' ∧ i ≤ e ∧ e ≤ i + wlen (l.drop i) ∧ m = l.length - e) ?_ (l.length - i) ⟨i, rfl, rfl, Nat.le_refl _, Nat.le_add_right _ _, rfl⟩
  rintro m _ _ ⟨e, rfl, rfl, he1, he2, rfl⟩
  refine EvT.mono (Ψ := fun b σ' => σ = σ' ∧ (b = true → e < l.length ∧ e + 1 ≤ i + wlen (l.drop i)) ∧ (b = false → e = i + wlen (l.drop i))) ?_ ?_
  · refine evT_BoolOp ?_
    repeat' (first | (tm_at "mine step") | with_reducible refine call_len_str (by rw [S_length]; omega) ?_ | fail)
    rw [S_length]
    by_cases hlt : e < l.length
    · refine br_t (by simpa using hlt) ?_
      repeat' (first | (tm_at "mine step") | fail)
      refine sub_str (ch := l[e]) (by with_unfolding_all exact rfl) (by omega) (by omega) (by simp [S, hlt]) ?_
      repeat' (first | (tm_at "mine step") | fail)
      refine op_in_str ?_
      rw [char_in (hs _ (List.getElem_mem hlt))]
      repeat' (first | (tm_at "mine step") | fail)
      have hg : (l.drop i)[e - i]? = some l[e] := by
        rw [List.getElem?_drop, show i + (e - i) = e by omega, List.getElem?_eq_getElem hlt]
      cases hW : isW l[e] with
      | true =>
        refine br_t rfl ?_
        refine evA_and_nil ?_
        refine ⟨rfl, fun _ => ⟨hlt, ?_⟩, nofun⟩
        rcases Nat.lt_or_ge e (i + wlen (l.drop i)) with h1 | h1
        · exact h1
        · have : e - i = wlen (l.drop i) := by omega
          rw [this] at hg
          rw [wlen_out hg] at hW; cases hW
      | false =>
        refine br_f rfl ?_
        refine ⟨rfl, nofun, fun _ => ?_⟩
        rcases Nat.lt_or_ge e (i + wlen (l.drop i)) with h1 | h1
        · obtain ⟨c, h2, h3⟩ := wlen_in (m := l.drop i) (j := e - i) (by omega)
          rw [hg] at h2
          cases h2
          rw [hW] at h3; cases h3
        · omega
    · refine br_f (by simp; omega) ?_
      exact ⟨rfl, nofun, fun _ => by omega⟩
  rintro b _ ⟨rfl, ht, hf⟩
  refine br_any (fun hb => ?_) (fun hb => ?_)
  · obtain ⟨h1, h2⟩ := ht hb
    repeat' (first | (tm_at "mine step") | fail)
    exact ⟨_, _, SubL.cons (by with_unfolding_all exact rfl) (SubL.cons (by with_unfolding_all exact rfl) (SubL.cons (by with_unfolding_all exact rfl) SubL.nil)), Sub.refl, l.length - (e + 1), by omega, e + 1, rfl, rfl, by omega, h2, rfl⟩
  obtain rfl := hf hb
  repeat' (first | (tm_at "mine stmt") | fail)
  refine EvT.mono (Ψ := fun b σ' => σ = σ' ∧ b = nin (l.drop i)) ?_ ?_
  · refine evT_BoolOp ?_
    repeat' (first | (tm_at "mine step") | (tm_at "mine slice") | fail)
    refine sl_str hSz ?_
    repeat' (first | (tm_at "mine step") | fail)
    rw [show (i : Int) + 3 = ((i + 3 : Nat) : Int) by omega, scut_nat, show ("!in" : Str) = S [33, 105, 110] by decide, dec_S, Nat.add_sub_cancel_left]
    by_cases h3 : (l.drop i).take 3 = [33, 105, 110]
    · refine br_t (by simpa using h3) ?_
      repeat' (first | (tm_at "mine step") | (tm_at "mine slice") | fail)
      refine sl_str hSz ?_
      repeat' (first | (tm_at "mine step") | fail)
      rw [show (i : Int) + 3 = ((i + 3 : Nat) : Int) by omega, show (i : Int) + 4 = ((i + 4 : Nat) : Int) by omega, scut_nat, show (" " : Str) = S [32] by decide, dec_S, show i + 4 - (i + 3) = 1 by omega]
      have en : nin (l.drop i) = !decide ((l.drop (i + 3)).take 1 = [32]) := by
        unfold nin
        rw [decide_eq_true h3, List.drop_drop]; rfl
      cases hc : (!decide ((l.drop (i + 3)).take 1 = [32])) with
      | true =>
        refine br_t rfl ?_
        refine evA_and_nil ?_
        exact ⟨rfl, by rw [en, hc]⟩
      | false =>
        refine br_f rfl ?_
        exact ⟨rfl, by rw [en, hc]⟩
    · refine br_f (by simpa using h3) ?_
      refine ⟨rfl, ?_⟩
      unfold nin
      rw [decide_eq_false h3]; rfl
  rintro b _ ⟨rfl, rfl⟩
  cases hn : nin (l.drop i) with
  | true =>
    refine br_t rfl ?_
    repeat' (first | (tm_at "mine step") | fail)
    refine done (cast_str ?_ h)
    unfold wordL
    rw [if_pos hn]; decide
  | false =>
  refine br_f rfl ?_
  repeat' (first | with_reducible refine ex_nil ?_ | with_reducible refine go_on ?_ | with_reducible refine ex_cons ?_ | fail)
  with_reducible refine ex_AssignComp (ρc := [("text", .str (S l)), ("spot", .int i)]) (p' := isAt l i) (g := id) O (by with_unfolding_all exact rfl) (by with_unfolding_all exact rfl) ⟨by decide, (by with_unfolding_all exact rfl), by decide, (by with_unfolding_all exact rfl)⟩ (closureFor_of (by with_unfolding_all exact rfl)) ?_ (by with_unfolding_all exact rfl) ?_ (by intro _; with_unfolding_all exact rfl)
  · exact caps_of (all_two ⟨rfl, rfl, .inl rfl, rfl⟩ ⟨rfl, rfl, .inl rfl, rfl⟩) (all_two rfl rfl)
  repeat' (first | (tm_at "mine expr") | fail)
  refine con_tokens fun D hD => ?_
  refine ⟨tokV, .inl ⟨D, rfl, upd_same⟩, ⟨by decide, ?_, ?_, ?_, ?_, ?_⟩, ?_⟩
  · exact pureVs_of fun x hx => by obtain ⟨i, _, rfl⟩ := List.mem_map.mp hx; exact .str _
  · exact test_flat fun x hx => by obtain ⟨i, _, rfl⟩ := List.mem_map.mp hx; trivial
  · exact fun x hx _ => by obtain ⟨i, _, rfl⟩ := List.mem_map.mp hx; trivial
  · intro C y hy
    obtain ⟨q, hq, rfl⟩ := List.mem_map.mp hy
    have mk : ∀ {sc cl C}, sc.kind = .function → Ok TT (cxC (cxFC A "_law_word_at" (fnI 28).scope h₀ L a cd) sc cl C) (d + 1) := fun hk => ok_cxC O hk
    have hq' : (S q).length < 2 ^ 62 := by
      have : ∀ q ∈ tokL, (S q).length < 2 ^ 62 := by decide
      exact this q hq
    show EvT _ _ _ _ _ _ _
    repeat' (first | (tm_at "mine step") | (tm_at "mine slice") | fail)
    with_reducible refine ev_CallB (mk rfl) (by with_unfolding_all exact rfl) (by with_unfolding_all decide) (by with_unfolding_all exact rfl) (by with_unfolding_all exact rfl) (by with_unfolding_all exact rfl) ?_
    repeat' (first | (tm_at "mine step") | (tm_at "mine slice") | with_reducible refine call_len_str hq' ?_ | fail)
    refine sl_str hSz ?_
    repeat' (first | (tm_at "mine step") | (tm_at "mine slice") | fail)
    rfl
  · intro C y hy hp
    repeat' (first | (tm_at "mine step") | fail)
    rfl
  intro E hE
  rw [filt]
  generalize hts : (tokL.filter fun q => decide ((l.drop i).take q.length = q)) = ts
  have hok : ∀ q ∈ ts, PyData.strOk (S q) = true := fun q hq => by
    rw [← hts] at hq
    exact List.all_eq_true.mp tok_strOk q (List.mem_filter.mp hq).1
  have ew : wordL (l.drop i) = if 0 < wlen (l.drop i) then (l.drop i).take (wlen (l.drop i)) else (ts.head?).getD [] := by
    unfold wordL
    rw [if_neg (by rw [hn]; decide), hts]
  repeat' (first | (tm_at "mine step") | fail)
  by_cases h0 : 0 < wlen (l.drop i)
  · refine br_t (by simp; omega) ?_
    repeat' (first | (tm_at "mine step") | (tm_at "mine slice") | fail)
    refine sl_str hSz ?_
    repeat' (first | (tm_at "mine step") | fail)
    refine ⟨σ, (sub_new hD).trans (sub_new hE), cast_str ?_ h⟩
    rw [scut_nat, ew, if_pos h0, Nat.add_sub_cancel_left]
  refine br_f (by simp; omega) ?_
  have hE2 : (upd (upd σ D (.list tokV)) E (.list (ts.map fun q => V.str (S q)))) E = some (.list (ts.map fun q => V.str (S q))) := upd_same
  have sub2 : Sub σ (upd (upd σ D (.list tokV)) E (.list (ts.map fun q => V.str (S q)))) := (sub_new hD).trans (sub_new hE)
  generalize (upd (upd σ D (.list tokV)) E (.list (ts.map fun q => V.str (S q)))) = σ₂ at hE2 sub2 ⊢
  repeat' (first | (tm_at "mine step") | fail)
  intro F hF
  refine op_ne_data (a := .list (ts.map fun q => .str (S q))) (b := .list []) O (.list (keep_new hF hE2) (dts_S ts)) (.list upd_same .nil) ?_ ?_ (by decide)
  · have hE3 := keep_new (p := .list []) hF hE2
    have sub3 := sub2.trans (sub_new (o := .list []) hF)
    generalize (upd σ₂ F (.list [])) = σ₃ at hE3 sub3 ⊢
    repeat' (first | (tm_at "mine step") | fail)
    cases ts with
    | nil =>
      refine br_f (by simp) ?_
      repeat' (first | (tm_at "mine step") | fail)
      refine ⟨σ, sub3, cast_str ?_ h⟩
      rw [ew, if_neg h0]; decide
    | cons q ts =>
      refine br_t (by simp) ?_
      repeat' (first | (tm_at "mine step") | fail)
      refine sub_list (x := .str (S q)) (by with_unfolding_all exact rfl) hE3 (by decide) (by decide) rfl ?_
      repeat' (first | (tm_at "mine step") | fail)
      refine ⟨σ, sub3, cast_str ?_ h⟩
      rw [ew, if_neg h0]; rfl
  · have := ok_list (ts.map fun q => S q) (by simpa using hok)
    rw [List.map_map] at this
    exact this
end
section
variable {prog : Program} {w : World} {d : Nat} {σ : AS} {Φ : V → AS → Prop}
set_option maxHeartbeats 16000000 in
theorem con_words {p : Pcs} (hok : OKp p) (hl : (render p).length ≤ 10000) (hp : (toksOf p).length ≤ 1000) (h : ∀ D, σ D = none → Φ (.obj D) (upd σ D (WS (toksOf p)))) : Con prog w TT (d + 3) "_law_words" (fnI 29) [.str (S (render p))] σ Φ := by
  refine con_fn (names := ["text"]) (bind_1 fun _ _ _ _ => rfl) fun A h₀ L a cd O => ?_
  refine ex_cons ?_
  repeat' (first | (tm_at "mine step") | fail)
  intro D hD
  repeat' (first | (tm_at "mine step") | fail)
  refine ex_While (fun m ρ σ' => ∃ p1 p2 : Pcs, p = p1 ++ p2 ∧ m = p2.length ∧ OKp p2 ∧ ρ = ([("found", .obj D), ("spot", .int (render p1).length), ("text", .str (S (render p)))] : List (Str × V)) ∧ σ' = upd σ D (WS (toksOf p1))) ?_ p.length ⟨[], p, rfl, rfl, hok, rfl, rfl⟩
  rintro m _ _ ⟨p1, p2, hpp, rfl, ho, rfl, rfl⟩
  have hlen : (render p).length = (render p1).length + (render p2).length := by rw [hpp, render_app, List.length_append]
  have hdrop : (render p).drop (render p1).length = render p2 := by rw [hpp, render_app, List.drop_left]
  have hD1 : (upd σ D (WS (toksOf p1))) D = some (WS (toksOf p1)) := upd_same
  repeat' (first | (tm_at "mine step") | with_reducible refine call_len_str (by rw [S_length]; omega) ?_ | fail)
  rw [S_length]
  cases p2 with
  | nil =>
    refine br_f (by rw [hlen]; simp [render_nil]) ?_
    repeat' (first | (tm_at "mine step") | fail)
    refine done ?_
    rw [List.append_nil] at hpp
    rw [← hpp]
    exact h D hD
  | cons o p2 =>
  cases o with
  | none =>
    have hget : (S (render p)).cps[(render p1).length]? = some 32 := by
      have : ((render p).drop (render p1).length)[0]? = some 32 := by rw [hdrop, render_gap]; rfl
      rw [List.getElem?_drop] at this
      simpa [S] using this
    refine br_t (by rw [hlen, render_gap]; simp; omega) ?_
    repeat' (first | (tm_at "mine step") | fail)
    refine sub_str (ch := 32) (by with_unfolding_all exact rfl) (by omega) (by omega) (by simpa using hget) ?_
    repeat' (first | (tm_at "mine step") | fail)
    refine br_t (by decide) ?_
    repeat' (first | (tm_at "mine step") | fail)
    refine ⟨[("found", .obj D), ("spot", .int ((render p1).length + 1)), ("text", .str (S (render p)))], _, SubL.cons (by with_unfolding_all exact rfl) (SubL.cons (by with_unfolding_all exact rfl) (SubL.cons (by with_unfolding_all exact rfl) SubL.nil)), Sub.refl, p2.length, by simp, p1 ++ [none], p2, by rw [hpp]; simp, rfl, ho, ?_, ?_⟩
    · rw [render_app, render_gap, render_nil]; simp
    · rw [toksOf_app, toksOf_gap, toksOf_nil, List.append_nil]
  | some t =>
  obtain ⟨ch, cs, e1, e2⟩ := tok_head32 t
  have hget : (S (render p)).cps[(render p1).length]? = some ch := by
    have : ((render p).drop (render p1).length)[0]? = some ch := by rw [hdrop, render_tok, e1]; rfl
    rw [List.getElem?_drop] at this
    simpa [S] using this
  have hlen2 : (render p).length = (render p1).length + (t.cps.length + (render p2).length) := by rw [hlen, render_tok, List.length_append]
  have hpos : 0 < t.cps.length := by rw [e1]; simp
  refine br_t (by rw [hlen2]; simp; omega) ?_
  repeat' (first | (tm_at "mine step") | fail)
  refine sub_str (ch := ch) (by with_unfolding_all exact rfl) (by omega) (by omega) (by simpa using hget) ?_
  repeat' (first | (tm_at "mine step") | fail)
  refine br_f (by rw [show (" " : Str) = S [32] by decide, show (⟨#[ch]⟩ : Str) = S [ch] from rfl, dec_S]; simpa using e2) ?_
  repeat' (first | (tm_at "mine step") | fail)
  refine con_word_at hl (render_small p) (by omega) ?_
  rw [hdrop, render_tok, word_ok t _ ho.1]
  have et : S t.cps = t.str := rfl
  rw [et]
  repeat' (first | (tm_at "mine step") | fail)
  rw [tok_nil]
  refine br_f rfl ?_
  repeat' (first | (tm_at "mine step") | fail)
  with_reducible refine ex_Expr (by with_unfolding_all exact rfl) (by with_unfolding_all exact rfl) ?_
  with_reducible refine ev_Method PySem.F.plainAttrs_list PySem.F.slot_list_append PySem.F.type_list_append (by with_unfolding_all exact rfl) (by with_unfolding_all exact rfl) (by with_unfolding_all exact rfl) (by with_unfolding_all decide) ?_
  repeat' (first | (tm_at "mine step") | fail)
  refine ⟨ty_list hD1, ?_⟩
  repeat' (first | (tm_at "mine step") | fail)
  have hlp : (toksOf p1).length ≤ 1000 := by
    have := congrArg (fun q => (toksOf q).length) hpp
    simp only [toksOf_app, List.length_append] at this
    omega
  refine meth_append hD1 (by rw [List.length_map]; exact Nat.le_trans hlp (by decide)) ⟨rfl, ?_⟩
  rw [upd_upd]
  have htl : t.str.length < 2 ^ 62 := by
    have : t.str.length = t.cps.length := S_length _
    omega
  repeat' (first | (tm_at "mine step") | with_reducible refine call_len_str htl ?_ | fail)
  refine ⟨[("found", .obj D), ("spot", .int ((render p1).length + t.str.length)), ("text", .str (S (render p)))], _, SubL.cons (by with_unfolding_all exact rfl) (SubL.cons (by with_unfolding_all exact rfl) (SubL.cons (by with_unfolding_all exact rfl) SubL.nil)), Sub.refl, p2.length, by simp, p1 ++ [some t], p2, by rw [hpp]; simp, rfl, ho.2, ?_, ?_⟩
  · rw [render_app, render_tok, render_nil]
    have : t.str.length = t.cps.length := S_length _
    simp [this]
  · rw [toksOf_app, toksOf_tok, toksOf_nil]
    show upd σ D _ = upd σ D (AO.list _)
    rw [List.map_append]; rfl
end
section
variable {prog : Program} {w : World} {d : Nat} {σ : AS} {Φ : V → AS → Prop}
noncomputable def readV : Option N → V
  | some x => val x
  | none => .none
set_option maxHeartbeats 16000000 in
theorem con_read {wa : Addr} {ws : List Tok} (hw : σ wa = some (WS ws)) (hws : ws.length ≤ 1000) (hd : 2 * ws.length + 3 ≤ d) (h : Φ (readV (readt ws)) σ) : Con prog w TT (d + 1) "_law_read" (fnI 34) [.obj wa] σ Φ := by
  refine con_fn (names := ["words"]) (bind_1 fun _ _ _ _ => rfl) fun A h₀ L a cd O => ?_
  refine ex_cons ?_
  repeat' (first | (tm_at "mine step") | fail)
  intro row hrow
  have hne : wa ≠ row := by rintro rfl; rw [hrow] at hw; cases hw
  have hr0 : (upd σ row (RW wa 0)) row = some (RW wa 0) := upd_same
  have hw1 := (upd_other (σ := σ) (o := RW wa 0) hne).trans hw
  have x0 : Ext row σ (upd σ row (RW wa 0)) := Ext.refl.set
  repeat' (first | (tm_at "mine step") | fail)
  refine con_told hne hws ws.length hd (fuel ws) _ 0 0 _ _ rfl hr0 hw1 (Nat.zero_le _) (by omega) (by simp [fuel]) ?_
  intro v σ₁ i₁ hv x1 hr
  have x1 := x0.trans x1
  have hw2 := x1 _ _ hne hw
  have sub : Sub σ σ₁ := fun a o e => x1 a o (by rintro rfl; rw [hrow] at e; cases e) e
  rw [List.drop_zero] at hv
  have fin : ∀ v, v = readV (readt ws) → ∃ σ₂, Sub σ₂ σ₁ ∧ Φ v σ₂ := by rintro v rfl; exact ⟨σ, sub, h⟩
  repeat' (first | (tm_at "mine step") | fail)
  cases et : told (fuel ws) ws 0 with
  | none =>
    rw [et] at hv
    obtain rfl : v = .none := hv
    refine br_f rfl ?_
    repeat' (first | (tm_at "mine stepk") | fail)
    exact fin _ (by rw [readt, et]; rfl)
  | some p =>
  obtain ⟨x, l, r⟩ := p
  rw [et] at hv
  obtain ⟨rfl, hr2, hi⟩ := hv
  refine br_t rfl ?_
  repeat' (first | (tm_at "mine step") | with_reducible refine sub_list (by with_unfolding_all exact rfl) hr (by decide) (by decide) (by with_unfolding_all exact rfl) ?_ | with_reducible refine call_len_list' hw2 (by rw [List.length_map]; exact ar_62 hws) ?_ | fail)
  rw [List.length_map]
  cases r with
  | nil =>
    have : ws.length ≤ i₁ := List.drop_eq_nil_iff.mp hr2
    refine br_t (by simp; omega) ?_
    repeat' (first | (tm_at "mine stepk") | fail)
    exact fin _ (by rw [readt, et]; rfl)
  | cons t r =>
    obtain ⟨_, _, h3⟩ := next_drop hr2
    refine br_f (by simp; omega) ?_
    repeat' (first | (tm_at "mine stepk") | fail)
    exact fin _ (by rw [readt, et]; rfl)
noncomputable abbrev PL (acc : List (Nat × Nat)) : AO := .list (acc.map fun p => .tup [.int p.1, .int p.2])
noncomputable abbrev SL (st : List Nat) : AO := .list (st.reverse.map fun i => .int (i : Nat))
theorem sub_put {D : Addr} {o : AO} {σ σ' : AS} (h : Sub σ σ') (e : σ' D = some o) : Sub (upd σ D o) σ' := fun a p q => by
  unfold upd at q
  split at q
  · rename_i z; subst z; cases q; exact e
  · exact h a p q
set_option maxHeartbeats 16000000 in
theorem con_pairs {wa : Addr} {ws : List Tok} {res : List (Nat × Nat)} (hw : σ wa = some (WS ws)) (hws : ws.length ≤ 1000) (hres : pairsA ws 0 [] [] = some res) (h : ∀ D, σ D = none → Φ (.obj D) (upd σ D (PL res))) : Con prog w TT (d + 1) "_law_pairs" (fnI 35) [.obj wa] σ Φ := by
  refine con_fn (names := ["words"]) (bind_1 fun _ _ _ _ => rfl) fun A h₀ L a cd O => ?_
  refine ex_cons ?_
  repeat' (first | (tm_at "mine step") | fail)
  intro D hD
  repeat' (first | (tm_at "mine step") | fail)
  intro E hE
  have hED : E ≠ D := ne_new hE upd_same
  have hσE := (sub_new (o := .list []) hD).none hE
  have s0 : Sub σ (upd (upd σ D (.list [])) E (.list [])) := (sub_new hD).trans (sub_new hE)
  have hD0 : (upd (upd σ D (.list [])) E (.list [])) D = some (PL []) := keep_new hE upd_same
  have hE0 : (upd (upd σ D (.list [])) E (.list [])) E = some (SL []) := upd_same
  generalize (upd (upd σ D (.list [])) E (.list [])) = σ₀ at s0 hD0 hE0 ⊢
  repeat' (first | (tm_at "mine step") | fail)
  refine ex_ForRange (x := "spot") O (by with_unfolding_all exact rfl) (by with_unfolding_all exact rfl) (by with_unfolding_all exact rfl) (by with_unfolding_all exact rfl)
    (fun i ρ σ' => ρ = ([("found", .obj D), ("waiting", .obj E), ("words", .obj wa)] : List (Str × V)) ∧ ∃ acc st, Sub σ σ' ∧ σ' D = some (PL acc) ∧ σ' E = some (SL st) ∧ acc.length + st.length ≤ i ∧ pairsA (ws.drop i) i st acc = some res) ?_ (by with_unfolding_all exact rfl) (by intro _; with_unfolding_all exact rfl)
  have hw0 := s0 _ _ hw
  repeat' (first | (tm_at "mine step") | with_reducible refine call_len_list' hw0 (by rw [List.length_map]; exact ar_62 hws) ?_ | fail)
  refine ⟨ws.length, by rw [List.length_map], Nat.lt_of_le_of_lt hws (by decide), ⟨rfl, [], [], s0, hD0, hE0, Nat.le_refl _, hres⟩, ?_, ?_⟩
  · rintro i _ σ₁ hi ⟨rfl, acc, st, s1, hD1, hE1, hle, hp⟩
    have hw1 := s1 _ _ hw
    have hbig := Nat.le_trans hle (Nat.le_trans (Nat.le_of_lt hi) hws)
    have hst : st.length ≤ sizeLine := Nat.le_trans (Nat.le_add_left _ _) (Nat.le_trans hbig (by decide))
    have hac : acc.length ≤ sizeLine := Nat.le_trans (Nat.le_add_right _ _) (Nat.le_trans hbig (by decide))
    rw [List.drop_eq_getElem_cons hi] at hp
    have hget : (ws.map fun t => V.str t.str)[i]? = some (.str ws[i].str) := by rw [List.getElem?_map, List.getElem?_eq_getElem hi]; rfl
    generalize ws[i] = t at hp hget
    rw [pairsA_cons] at hp
    have fin : ∀ σ₂ acc' st', Sub σ σ₂ → σ₂ D = some (PL acc') → σ₂ E = some (SL st') → acc'.length + st'.length ≤ i + 1 → pairsA (ws.drop (i + 1)) (i + 1) st' acc' = some res →
        TurnP (fun ρ σ' => ρ = ([("found", .obj D), ("waiting", .obj E), ("words", .obj wa)] : List (Str × V)) ∧ ∃ acc st, Sub σ σ' ∧ σ' D = some (PL acc) ∧ σ' E = some (SL st) ∧ acc.length + st.length ≤ i + 1 ∧ pairsA (ws.drop (i + 1)) (i + 1) st acc = some res) (fun _ _ _ => False) .next ([("spot", .int i), ("found", .obj D), ("waiting", .obj E), ("words", .obj wa)] : List (Str × V)) σ₂ := fun σ₂ acc' st' h1 h2 h3 h4 h5 =>
      ⟨_, _, SubL.skip rfl, Sub.refl, rfl, acc', st', h1, h2, h3, h4, h5⟩
    refine ex_cons ?_
    repeat' (first | (tm_at "mine step") | fail)
    refine sub_list (x := .str t.str) (by with_unfolding_all exact rfl) hw1 (Int.natCast_nonneg _) (ar_63 (Nat.le_of_lt hi) hws) (by simpa using hget) ?_
    repeat' (first | (tm_at "mine step") | fail)
    rw [tok_lp]
    cases hl : t.isLp with
    | true =>
      rw [hl] at hp
      refine br_t rfl ?_
      repeat' (first | (tm_at "mine step") | fail)
      with_reducible refine ex_Expr (by with_unfolding_all exact rfl) (by with_unfolding_all exact rfl) ?_
      with_reducible refine ev_Method PySem.F.plainAttrs_list PySem.F.slot_list_append PySem.F.type_list_append (by with_unfolding_all exact rfl) (by with_unfolding_all exact rfl) (by with_unfolding_all exact rfl) (by with_unfolding_all decide) ?_
      repeat' (first | (tm_at "mine step") | fail)
      refine ⟨ty_list hE1, ?_⟩
      repeat' (first | (tm_at "mine step") | fail)
      refine meth_append hE1 (by rw [List.length_map, List.length_reverse]; exact hst) ⟨rfl, ?_⟩
      repeat' (first | (tm_at "mine step") | fail)
      refine fin _ acc (i :: st) (s1.upd hσE) ((upd_other (Ne.symm hED)).trans hD1) ?_ (by simp; omega) (by simpa using hp)
      rw [upd_same]; simp
    | false =>
    rw [hl] at hp
    refine br_f rfl ?_
    repeat' (first | (tm_at "mine step") | fail)
    refine sub_list (x := .str t.str) (by with_unfolding_all exact rfl) hw1 (Int.natCast_nonneg _) (ar_63 (Nat.le_of_lt hi) hws) (by simpa using hget) ?_
    repeat' (first | (tm_at "mine step") | fail)
    rw [tok_rp]
    cases hr : t.isRp with
    | false =>
      rw [hr] at hp
      refine br_f rfl ?_
      repeat' (first | (tm_at "mine step") | fail)
      exact fin _ acc st s1 hD1 hE1 (Nat.le_succ_of_le hle) (by simpa using hp)
    | true =>
      rw [hr] at hp
      refine br_t rfl ?_
      cases st with
      | nil => cases hp
      | cons b st =>
      simp only [Bool.false_eq_true, if_false, if_true] at hp
      repeat' (first | (tm_at "mine step") | fail)
      with_reducible refine ex_Expr (by with_unfolding_all exact rfl) (by with_unfolding_all exact rfl) ?_
      with_reducible refine ev_Method PySem.F.plainAttrs_list PySem.F.slot_list_append PySem.F.type_list_append (by with_unfolding_all exact rfl) (by with_unfolding_all exact rfl) (by with_unfolding_all exact rfl) (by with_unfolding_all decide) ?_
      repeat' (first | (tm_at "mine step") | fail)
      refine ⟨ty_list hD1, ?_⟩
      repeat' (first | (tm_at "mine step") | fail)
      with_reducible refine ev_Method0 PySem.F.plainAttrs_list PySem.F.slot_list_pop PySem.F.type_list_pop (by with_unfolding_all exact rfl) (by with_unfolding_all exact rfl) ?_
      repeat' (first | (tm_at "mine step") | fail)
      refine ⟨ty_list hE1, ?_⟩
      have hE1' : σ₁ E = some (.list ((st.reverse.map fun i => V.int (i : Nat)) ++ [.int b])) := by rw [hE1]; simp
      refine meth_pop hE1' (by rw [List.length_map, List.length_reverse]; exact hst) ?_
      repeat' (first | (tm_at "mine step") | fail)
      have hD2 := (upd_other (σ := σ₁) (o := SL st) (Ne.symm hED)).trans hD1
      refine meth_append hD2 (by rw [List.length_map]; exact hac) ⟨rfl, ?_⟩
      repeat' (first | (tm_at "mine step") | fail)
      refine fin _ (acc ++ [(b, i)]) st ((s1.upd hσE).upd hD) ?_ ((upd_other hED).trans upd_same) (by simp at hle ⊢; omega) hp
      rw [upd_same]; simp
  · rintro _ σ₁ ⟨rfl, acc, st, s1, hD1, hE1, hle, hp⟩
    rw [List.drop_of_length_le (Nat.le_refl _)] at hp
    cases hp
    repeat' (first | (tm_at "mine step") | fail)
    exact ⟨_, sub_put s1 hD1, h D hD⟩
end
section
variable {prog : Program} {w : World} {d : Nat} {σ : AS} {Φ : V → AS → Prop}
theorem reps_ints {h : Heap} : ∀ {vs : List Value} {is : List Int}, Reps h vs (is.map V.int) → IntsAre vs is := by
  intro vs is
  induction is generalizing vs with
  | nil => intro r; cases r; exact .nil
  | cons i is ih =>
    intro r
    cases r with
    | cons r rs => cases r with
      | int _ t => exact .cons _ t (ih rs)
theorem call_sum_ints {T : Tbl} {c : Cx} {a : Addr} {is : List Int} (O : Ok T c d) (hσ : σ a = some (.list (is.map V.int))) (h : ∀ b, Φ (.int b) σ) : OpL prog w c (fun xs => call (.builtin "sum") xs) [.obj a] σ Φ := fun s F xs r Q E q => by
  obtain ⟨z, rfl, r1⟩ := r.one
  cases r1
  obtain ⟨vs, n, hl, hr⟩ := F.ob a _ hσ
  obtain ⟨ys, hy⟩ := (reps_ints hr).allInts.items
  have hy' : vs = intItems ys := by rw [← hy]
  subst hy'
  refine sum_intListG O.handled hl.isList fun h' tk t' hk => ?_
  exact q _ _ _ σ (step_grow hk) (F.ob.grow hk) (.int ..) (h _)
theorem ints_reps {h : Heap} {vs : List Value} {is : List Int} (r : IntsAre vs is) : Reps h vs (is.map V.int) := by
  induction r with
  | nil => exact .nil
  | cons n t _ ih => exact .cons (.int n t) ih
/-- a list of ints that stood before the call -/
noncomputable def Old (c : Cx) (a : Addr) (is : List Int) : Prop := ∃ vs, c.h₀.IsList a vs ∧ IntsAre vs.toList is
theorem sl_old {c : Cx} {value : Expr} {lower upper : Option Expr} {p : Pos} {a : Addr} {is : List Int} {lo hi : Option Int} (hB : Old c a is) (hz : is.length ≤ sizeLine) (h : ∀ b, σ b = none → Φ (.obj b) (upd σ b (.list (cut (is.map V.int) lo hi)))) :
    OpSl prog w c value (.Slice lower upper none p) (.obj a) lo hi σ Φ := fun s F x r vl vu pl pu Q E q => by
  cases r
  obtain ⟨vs, hB, hi'⟩ := hB
  obtain ⟨m, Fr0⟩ := F.fr
  have hr := ints_reps (h := s.heap) hi'
  have hlen : vs.size = (is.map V.int).length := by simpa using hr.length
  have hl₂ : (s.heap.push { cls := .type "slice", data := .fields #[vl, vu, .none] }).IsList a vs := let ⟨o, g, r⟩ := hB; ⟨o, push_keeps _ _ _ _ (Fr0.keep _ _ g), r⟩
  refine tail_any (ops := [.ref s.heap.objs.size, .ref a]) (Heap.IsList.typeIs (s := { s with heap := s.heap.push { cls := .type "slice", data := .fields #[vl, vu, .none] } }) hl₂) slot_list_getitem.lookup
    (wpAny_getItem_list_slice hl₂ (Heap.IsSliceOf.new ..) pl pu .none (by simp) ?_ (by rw [hlen, List.length_map]; exact hz)) (by with_unfolding_all exact rfl)
  have k1 := push_keeps s.heap { cls := .type "slice", data := .fields #[vl, vu, .none] }
  generalize s.heap.push { cls := .type "slice", data := .fields #[vl, vu, .none] } = h1 at *
  refine q _ _ (.obj h1.objs.size) (upd σ h1.objs.size (.list (Mine.cut (is.map V.int) lo hi))) ⟨⟨_, s.toks, rfl⟩, fun b o e _ _ => push_keeps _ _ _ _ (k1 _ _ e), fun b e => ?_⟩ ?_ (.obj _) (h _ ?_)
  · unfold upd at e
    split at e
    · rename_i z; subst z
      refine .inr ⟨?_, fun x => x⟩
      cases z : s.heap.get? h1.objs.size with
      | none => rfl
      | some o => have := k1 _ _ z; rw [get_size] at this; cases this
    · exact .inl e
  · refine (F.ob.grow k1).new (push_keeps _ _) ⟨_, 0, IsL.new .., ?_⟩
    rw [slicePick_plain, hlen]
    simpa [Mine.cut] using (((hr.cut _).1.cut _).2.keep (tupKeep_of k1)).keep (tupKeep_of (push_keeps _ _))
  · exact (F.ob.grow k1).none_of (get_size _)
noncomputable def gAbs : V → V
  | .int i => .int ((if i < 0 then -i else i).fmod 89)
  | _ => .none
theorem map_gAbs (is : List Int) : (((is.map V.int).filter fun _ => true).map gAbs) = ((is.map fun i => (if i < 0 then -i else i).fmod 89).map V.int) := by
  rw [List.filter_eq_self.mpr fun _ _ => rfl, List.map_map, List.map_map]; rfl
theorem readV_dt (s : List Tok) : Dt σ (readV (readt s)) (readD (readt s)) := by
  cases h : readt s with
  | none => exact .none
  | some x => exact dt_val (readt_wf h).2
theorem gone_map (ws : List Tok) (b e : Nat) : (ws.map fun t => V.str t.str).take b ++ ((ws.map fun t => V.str t.str).drop (b + 1)).take (e - (b + 1)) ++ (ws.map fun t => V.str t.str).drop (e + 1) = (gone ws b e).map fun t => V.str t.str := by
  unfold gone
  rw [List.map_append, List.map_append, List.map_take, List.map_take, List.map_drop, List.map_drop]
theorem room_rd {n d : Nat} (h : n ≤ 183) : 2 * n + 3 ≤ d + 399 := by omega
theorem cast1 (b : Nat) : (b : Int) + 1 = ((b + 1 : Nat) : Int) := rfl
theorem size_two {a b : List V} {n : Nat} (ha : a.length ≤ n) (hb : b.length ≤ n) (hn : n ≤ 1000) : a.length + b.length ≤ sizeLine := Nat.le_trans (show _ ≤ 2000 by omega) (by decide)
theorem take_len {α : Type} (l : List α) (n : Nat) : (l.take n).length ≤ l.length := (List.take_sublist n l).length_le
theorem drop_len {α : Type} (l : List α) (n : Nat) : (l.drop n).length ≤ l.length := (List.drop_sublist n l).length_le
set_option maxHeartbeats 16000000 in
theorem law_body {A : Around} {h₀ : Heap} {L a : Addr} {cd : Value} (O : Ok TT (cxF A "law" (fnI 36).scope h₀ L a cd) (d + 400)) {sa : Addr} {is : List Int} (hs : Old (cxF A "law" (fnI 36).scope h₀ L a cd) sa is) (hlen : is.length ≤ 63) :
    ExP prog w (cxF A "law" (fnI 36).scope h₀ L a cd) (fnI 36).body [("script", .obj sa)] σ fun fl _ _ => fl = .ret (.bool true) := by
  refine ex_cons ?_
  repeat' (first | (tm_at "mine stmt") | fail)
  with_reducible refine ev_Dict O ?_ (by with_unfolding_all exact rfl) (by with_unfolding_all exact rfl) (by simp) (by with_unfolding_all decide)
  repeat' (first | (tm_at "mine step") | (tm_at "mine dict") | (tm_at "mine slice") | fail)
  refine sl_old hs (Nat.le_trans hlen (by decide)) fun ca hca => ?_
  have e48 : cut (is.map V.int) none (some (48 : Int)) = (is.take 48).map V.int := by
    rw [show (48 : Int) = ((48 : Nat) : Int) from rfl, cut_to, List.map_take]
  rw [e48]
  have hc1 : (upd σ ca (.list ((is.take 48).map V.int))) ca = some (.list ((is.take 48).map V.int)) := upd_same
  generalize (upd σ ca (.list ((is.take 48).map V.int))) = σ₁ at hc1 ⊢
  have hl8 : (is.take 48).length ≤ 64 := Nat.le_trans (List.length_take_le 48 is) (by decide)
  repeat' (first | (tm_at "mine step") | (tm_at "mine dict") | fail)
  with_reducible refine ev_Comp (ρc := []) (p' := fun _ => true) (g := gAbs) O ⟨by decide, (by with_unfolding_all exact rfl), by decide, (by with_unfolding_all exact rfl)⟩ (closureFor_of (by with_unfolding_all exact rfl)) ?_ ?_ (by intro _; with_unfolding_all exact rfl)
  · exact caps_of nofun nofun
  repeat' (first | (tm_at "mine step") | (tm_at "mine slice") | fail)
  refine sl_old hs (Nat.le_trans hlen (by decide)) fun cb hcb => ?_
  rw [e48]
  have hc2 := keep_new (p := .list ((is.take 48).map V.int)) hcb hc1
  have hb2 : (upd σ₁ cb (.list ((is.take 48).map V.int))) cb = some (.list ((is.take 48).map V.int)) := upd_same
  generalize (upd σ₁ cb (.list ((is.take 48).map V.int))) = σ₂ at hc2 hb2 ⊢
  generalize is.take 48 = js at hc2 hb2 hl8 ⊢
  refine ⟨_, .inl ⟨cb, rfl, hb2⟩, ⟨by rw [List.length_map]; exact Nat.le_trans hl8 (by decide), ?_, ⟨fun _ => true, fun _ _ _ _ _ => rfl⟩, ?_, fun _ _ _ => trivial |> fun _ => rfl, ?_⟩, fun D hD => ?_⟩
  · exact pureVs_of fun x hx => by obtain ⟨i, _, rfl⟩ := List.mem_map.mp hx; exact .int _
  · exact fun x hx _ => by obtain ⟨i, _, rfl⟩ := List.mem_map.mp hx; trivial
  · intro C y hy _
    obtain ⟨i, _, rfl⟩ := List.mem_map.mp hy
    have mk : ∀ {sc cl C}, sc.kind = .function → Ok TT (cxC (cxF A "law" (fnI 36).scope h₀ L a cd) sc cl C) (d + 400) := fun hk => ok_cxC O hk
    with_reducible refine ev_BinOp ?_
    with_reducible refine ev_CallB (mk rfl) (by with_unfolding_all exact rfl) (by with_unfolding_all decide) (by with_unfolding_all exact rfl) (by with_unfolding_all exact rfl) (by with_unfolding_all exact rfl) ?_
    repeat' (first | (tm_at "mine step") | refine call_abs ?_ | with_reducible refine op_mod_int (by decide) ?_ | fail)
    rfl
  rw [map_gAbs]
  have hc3 := keep_new (p := .list ((js.map fun i => (if i < 0 then -i else i).fmod 89).map V.int)) hD hc2
  have hD3 : (upd σ₂ D (.list ((js.map fun i => (if i < 0 then -i else i).fmod 89).map V.int))) D = some (.list ((js.map fun i => (if i < 0 then -i else i).fmod 89).map V.int)) := upd_same
  generalize (upd σ₂ D (.list ((js.map fun i => (if i < 0 then -i else i).fmod 89).map V.int))) = σ₃ at hc3 hD3 ⊢
  repeat' (first | (tm_at "mine step") | (tm_at "mine dict") | fail)
  refine call_sum_ints O hD3 fun b => ?_
  repeat' (first | (tm_at "mine step") | (tm_at "mine dict") | fail)
  refine ⟨by show (["cells", "count", "blend", "left"] : List Str).Nodup; decide, by simp, fun fa hfa _ => ?_⟩
  have hne : ca ≠ fa := (ne_new hfa hc3).symm
  have hc4 := keep_new (p := FD ca 0 b 0) hfa hc3
  have hf4 : (upd σ₃ fa (FD ca 0 b 0)) fa = some (FD ca 0 b 0) := upd_same
  show _ ∧ _
  generalize hσ4 : (upd σ₃ fa (FD ca 0 b 0)) = σ₄ at hc4 hf4
  have hσ4' : (upd σ₃ fa (.dict [("cells", .obj ca), ("count", .int 0), ("blend", .int b), ("left", .int 0)])) = σ₄ := hσ4
  first | rw [hσ4'] | skip
  clear hσ4 hσ4'
  repeat' (first | (tm_at "mine stmt") | fail)
  refine ex_ForRange (x := "lap") O (by with_unfolding_all exact rfl) (by with_unfolding_all exact rfl) (by with_unfolding_all exact rfl) (by with_unfolding_all exact rfl)
    (fun i ρ σ' => ρ = ([("feed", .obj fa), ("script", .obj sa)] : List (Str × V)) ∧ ∃ k l, σ' fa = some (FD ca k b l) ∧ σ' ca = some (.list (js.map V.int)) ∧ k ≤ i * DR 3) ?_ (by with_unfolding_all exact rfl) (by intro _; with_unfolding_all exact rfl)
  repeat' (first | (tm_at "mine step") | fail)
  refine ⟨2, rfl, by decide, ⟨rfl, 0, 0, hf4, hc4, by simp⟩, ?_, ?_⟩
  rotate_left
  · rintro _ σ₅ ⟨rfl, _⟩
    repeat' (first | (tm_at "mine step") | fail)
    rfl
  rintro i _ σ₅ hi ⟨rfl, k, l, hf5, hc5, hk⟩
  have hk2 : k ≤ 120 := Nat.le_trans hk (Nat.mul_le_mul_right (DR 3) (Nat.le_of_lt_succ hi))
  refine ex_cons ?_
  with_reducible refine ex_AssignSub (by with_unfolding_all exact rfl) ?_
  repeat' (first | (tm_at "mine expr") | (tm_at "mine op") | fail)
  refine set_dictX hf5 (by with_unfolding_all exact rfl) (by simp [sizeLine]) (kvs' := [("cells", .obj ca), ("count", .int k), ("blend", .int b), ("left", .int 8)]) (by with_unfolding_all exact rfl) ?_
  have hf6 : (upd σ₅ fa (FD ca k b 8)) fa = some (FD ca k b 8) := upd_same
  have hc6 : (upd σ₅ fa (FD ca k b 8)) ca = some (.list (js.map V.int)) := (upd_other hne).trans hc5
  generalize hσ6 : (upd σ₅ fa (FD ca k b 8)) = σ₆ at hf6 hc6
  have hσ6' : (upd σ₅ fa (.dict [("cells", .obj ca), ("count", .int k), ("blend", .int b), ("left", .int 8)])) = σ₆ := hσ6
  first | rw [hσ6'] | skip
  clear hσ6 hσ6' hf5 hc5
  repeat' (first | (tm_at "mine step") | fail)
  refine con_node hne hl8 3 (Nat.le_trans (by decide) (Nat.le_add_left 400 d)) _ _ _ _ _ rfl hf6 hc6 (Nat.le_trans (Nat.add_le_add_right hk2 (DR 3)) (by decide)) ?_
  intro t kk ll σ₇ gen hkk x7 hf7
  have hc7 := x7 _ _ hne hc6
  have hpl : (pcs t).length ≤ 183 := pcs_len gen
  have hrl : (text t).length ≤ 732 := Nat.le_trans (render_len (pcs t)) (Nat.mul_le_mul_left 4 hpl)
  have htl : (toks t).length ≤ 183 := toks_len gen
  have hts : (toks t).length ≤ 1000 := Nat.le_trans htl (by decide)
  repeat' (first | (tm_at "mine step") | fail)
  refine con_node_text gen (Nat.le_trans (by decide) (Nat.le_add_left 395 d)) (Nat.le_trans hrl (by decide)) _ _ ?_
  repeat' (first | (tm_at "mine step") | fail)
  refine con_words (p := pcs t) (ok_pcs gen.wf gen.node) (show (text t).length ≤ _ from Nat.le_trans hrl (by decide)) (show (toks t).length ≤ _ from hts) fun wa hwa => ?_
  have hw8 : (upd σ₇ wa (WS (toks t))) wa = some (WS (toks t)) := upd_same
  have hf8 := keep_new (p := WS (toks t)) hwa hf7
  have hc8 := keep_new (p := WS (toks t)) hwa hc7
  generalize hσ8 : (upd σ₇ wa (WS (toks t))) = σ₈ at hw8 hf8 hc8
  have hσ8' : (upd σ₇ wa (WS (toksOf (pcs t)))) = σ₈ := hσ8
  first | rw [hσ8'] | skip
  clear hσ8 hσ8'
  repeat' (first | (tm_at "mine step") | fail)
  refine con_read hw8 hts (room_rd htl) ?_
  repeat' (first | (tm_at "mine step") | fail)
  refine op_ne_any O (readV_dt (toks t)) (dt_val gen.wf) ?_ (readD_ok).choose_spec (ok_gen gen) (by decide)
  repeat' (first | (tm_at "mine step") | fail)
  refine br_f (by rw [read_back gen.wf gen.nz gen.node]; simp [readD]) ?_
  repeat' (first | (tm_at "mine step") | fail)
  obtain ⟨res, hres, hpairs⟩ := pairs_of gen
  refine ex_ForPairs (x := "begin") (y := "end") O (by with_unfolding_all exact rfl) (by with_unfolding_all exact rfl) (by with_unfolding_all exact rfl) ?_ (by intro _; with_unfolding_all exact rfl)
  repeat' (first | (tm_at "mine step") | fail)
  refine con_pairs hw8 hts hres fun pa hpa => ?_
  have hp9 : (upd σ₈ pa (PL res)) pa = some (PL res) := upd_same
  have hw9 := keep_new (p := PL res) hpa hw8
  have hf9 := keep_new (p := PL res) hpa hf8
  have hc9 := keep_new (p := PL res) hpa hc8
  generalize (upd σ₈ pa (PL res)) = σ₉ at hp9 hw9 hf9 hc9 ⊢
  refine ⟨fun _ ρ σ' => ρ = ([("words", .obj wa), ("node", val t), ("lap", .int i), ("feed", .obj fa), ("script", .obj sa)] : List (Str × V)) ∧ σ₉ = σ', pa, res.map fun p => .tup [.int p.1, .int p.2], rfl, ⟨rfl, rfl⟩, ?_, ?_, ?_⟩
  · rintro _ _ _ ⟨rfl, rfl⟩; exact hp9
  · rintro j _ _ z hz ⟨rfl, rfl⟩
    obtain ⟨p, hp, rfl⟩ := List.mem_map.mp (List.mem_of_getElem? hz)
    obtain ⟨hless, hgl⟩ := gone_less (hpairs p (by simpa using hp))
    generalize p.1 = b at hless hgl ⊢
    generalize p.2 = e at hless hgl ⊢
    refine ⟨_, _, rfl, ?_⟩
    refine ex_cons ?_
    repeat' (first | (tm_at "mine step") | (tm_at "mine slice") | fail)
    have hml : ((toks t).map fun t => V.str t.str).length ≤ 183 := by rw [List.length_map]; exact htl
    have hms : ((toks t).map fun t => V.str t.str).length ≤ sizeLine := Nat.le_trans hml (by decide)
    refine sl_list hw9 hms fun x1 h1 => ?_
    rw [cut_to]
    have hx1 : (upd σ₉ x1 (.list (((toks t).map fun t => V.str t.str).take b))) x1 = some (.list (((toks t).map fun t => V.str t.str).take b)) := upd_same
    have s1 : Sub σ₉ (upd σ₉ x1 (.list (((toks t).map fun t => V.str t.str).take b))) := sub_new h1
    generalize (upd σ₉ x1 (.list (((toks t).map fun t => V.str t.str).take b))) = τ₁ at hx1 s1 ⊢
    repeat' (first | (tm_at "mine step") | (tm_at "mine slice") | fail)
    rw [cast1 b]
    refine sl_list (s1 _ _ hw9) hms fun x2 h2 => ?_
    rw [cut_nat]
    have hx2 : (upd τ₁ x2 (.list ((((toks t).map fun t => V.str t.str).drop (b + 1)).take (e - (b + 1))))) x2 = some (.list ((((toks t).map fun t => V.str t.str).drop (b + 1)).take (e - (b + 1)))) := upd_same
    have hx1 := keep_new (p := .list ((((toks t).map fun t => V.str t.str).drop (b + 1)).take (e - (b + 1)))) h2 hx1
    have s2 := s1.trans (sub_new (o := .list ((((toks t).map fun t => V.str t.str).drop (b + 1)).take (e - (b + 1)))) h2)
    generalize (upd τ₁ x2 (.list ((((toks t).map fun t => V.str t.str).drop (b + 1)).take (e - (b + 1))))) = τ₂ at hx1 hx2 s2 ⊢
    refine op_add_list hx1 hx2 (size_two (Nat.le_trans (take_len _ _) hml) (Nat.le_trans (take_len _ _) (Nat.le_trans (drop_len _ _) hml)) (by decide)) fun x3 h3 => ?_
    have hx3 : (upd τ₂ x3 (.list (((toks t).map fun t => V.str t.str).take b ++ (((toks t).map fun t => V.str t.str).drop (b + 1)).take (e - (b + 1))))) x3 = some (.list (((toks t).map fun t => V.str t.str).take b ++ (((toks t).map fun t => V.str t.str).drop (b + 1)).take (e - (b + 1)))) := upd_same
    have s3 := s2.trans (sub_new (o := .list (((toks t).map fun t => V.str t.str).take b ++ (((toks t).map fun t => V.str t.str).drop (b + 1)).take (e - (b + 1)))) h3)
    generalize (upd τ₂ x3 (.list (((toks t).map fun t => V.str t.str).take b ++ (((toks t).map fun t => V.str t.str).drop (b + 1)).take (e - (b + 1))))) = τ₃ at hx3 s3 ⊢
    repeat' (first | (tm_at "mine step") | (tm_at "mine slice") | fail)
    rw [cast1 e]
    refine sl_list (s3 _ _ hw9) hms fun x4 h4 => ?_
    rw [cut_from]
    have hx4 : (upd τ₃ x4 (.list (((toks t).map fun t => V.str t.str).drop (e + 1)))) x4 = some (.list (((toks t).map fun t => V.str t.str).drop (e + 1))) := upd_same
    have hx3 := keep_new (p := .list (((toks t).map fun t => V.str t.str).drop (e + 1))) h4 hx3
    have s4 := s3.trans (sub_new (o := .list (((toks t).map fun t => V.str t.str).drop (e + 1))) h4)
    generalize (upd τ₃ x4 (.list (((toks t).map fun t => V.str t.str).drop (e + 1)))) = τ₄ at hx3 hx4 s4 ⊢
    refine op_add_list hx3 hx4 (size_two (n := 366) (by rw [List.length_append]; exact Nat.add_le_add (Nat.le_trans (take_len _ _) hml) (Nat.le_trans (take_len _ _) (Nat.le_trans (drop_len _ _) hml))) (Nat.le_trans (drop_len _ _) (Nat.le_trans hml (by decide))) (by decide)) fun x5 h5 => ?_
    rw [gone_map]
    have hx5 : (upd τ₄ x5 (WS (gone (toks t) b e))) x5 = some (WS (gone (toks t) b e)) := upd_same
    have s5 := s4.trans (sub_new (o := WS (gone (toks t) b e)) h5)
    generalize (upd τ₄ x5 (WS (gone (toks t) b e))) = τ₅ at hx5 s5 ⊢
    repeat' (first | (tm_at "mine step") | fail)
    refine con_read hx5 (Nat.le_trans hgl hts) (room_rd (Nat.le_trans hgl htl)) ?_
    repeat' (first | (tm_at "mine step") | fail)
    refine op_eq_any O (readV_dt _) (dt_val gen.wf) ?_ (readD_ok).choose_spec (ok_gen gen) (by decide)
    repeat' (first | (tm_at "mine step") | fail)
    refine br_f (by rw [decide_eq_false_iff_not]; exact readD_ne gen (no_less hless)) ?_
    repeat' (first | (tm_at "mine step") | fail)
    exact ⟨_, _, SubL.cons (by with_unfolding_all exact rfl) (SubL.cons (by with_unfolding_all exact rfl) (SubL.cons (by with_unfolding_all exact rfl) (SubL.cons (by with_unfolding_all exact rfl) (SubL.cons (by with_unfolding_all exact rfl) SubL.nil)))), s5, rfl, rfl⟩
  · rintro _ _ ⟨rfl, rfl⟩
    repeat' (first | (tm_at "mine step") | fail)
    refine ⟨_, _, SubL.cons (by with_unfolding_all exact rfl) (SubL.cons (by with_unfolding_all exact rfl) SubL.nil), Sub.refl, rfl, kk, ll, hf9, hc9, ?_⟩
    exact Nat.le_trans hkk (by rw [Nat.succ_mul]; exact Nat.add_le_add_right hk _)
end
end Mine
namespace Mine
section
variable {p : Program} {loose : List Str} {mean : ExcName → Option Value} {mg mb : Str → Option Value} {h : Heap} {w : World}
theorem g_fn (T : Top p loose mean mg mb h) {x : Str} {i : Nat} (e : ∃ d ∈ recsOf p, d.name = x ∧ d.params = (fnI i).params ∧ d.body = (fnI i).body ∧ d.scope = (fnI i).scope) : GIs h mg mb x (.fn (fnI i)) := by
  obtain ⟨d, hd, rfl, h2, h3, h4⟩ := e
  obtain ⟨a, o, pm, code, doc, g1, g2, g3, g4⟩ := T.fn d hd
  exact ⟨a, g1, o, pm, code, doc, g2, by rw [g3, h2, h3, h4], g4⟩
theorem g_int (T : Top p loose mean mg mb h) {x : Str} {i : Int} (e : valOf p x = some (.int i)) : GIs h mg mb x (.val (.int i)) := by
  obtain ⟨v, g, r⟩ := T.const x _ e
  cases r h
  exact ⟨_, g, .int ..⟩
theorem reps_of_strs {vs : List Value} {ss : List Str} (r : StrsAre vs ss) : Reps h vs (ss.map V.str) := by
  induction r with
  | nil => exact .nil
  | cons n t _ ih => exact .cons (.str n t) ih
theorem g_strs (B : Tables p w mg h) {x : Str} {ss : List Str} (e : tupStrsOf p x = some ss) : GIs h mg mb x (.val (.tup (ss.map V.str))) := by
  obtain ⟨a, vs, g, ht, hs⟩ := B.tupS x ss e
  exact ⟨_, g, .tup ht (reps_of_strs hs)⟩
theorem g_blt (T : Top p loose mean mg mb h) {x : Str} {v : Value} (h1 : x ∉ startupNames) (h2 : x ∉ loose) (h3 : x ∉ (recsOf p).map (·.name)) (h4 : x ∉ (litsOf p).map (·.1)) (h5 : x ∉ (clssOf p loose).map (·.name))
    (e : bootBuiltins x = some v) : GIs h mg mb x (.blt v) :=
  ⟨T.free x h1 h2 h3 h4 h5, by rw [T.builtins x fun z => h1 (by rw [z]; decide), e]⟩
end
/-- a def of the text as the library keeps it -/
noncomputable def recI (i : Nat) : DefRec := match PySem.Challenge.pw_nz0382_01.main.body.getD i (.Pass ⟨0, 0, 0, 0⟩) with
  | .FunctionDef name args body _ _ _ scope _ _ pos => ⟨name, args, body, scope, pos⟩
  | _ => ⟨"", ⟨[], [], none, [], [], none, []⟩, [], ⟨.function, [], false, false, []⟩, ⟨0, 0, 0, 0⟩⟩
theorem recI_fn (i : Nat) : (recI i).params = (fnI i).params ∧ (recI i).body = (fnI i).body ∧ (recI i).scope = (fnI i).scope := by
  unfold recI fnI
  generalize PySem.Challenge.pw_nz0382_01.main.body.getD i (.Pass ⟨0, 0, 0, 0⟩) = st
  cases st <;> exact ⟨rfl, rfl, rfl⟩
theorem gl_of {p : Program} {loose : List Str} {mean : ExcName → Option Value} {mg mb : Str → Option Value} {h : Heap} {w : World} (T : Top p loose mean mg mb h) (B : Tables p w mg h)
    (e1 : recsOf p = ([9, 10, 11, 12, 13, 14, 15, 16, 17, 18, 19, 20, 22, 23, 24, 25, 26, 27, 28, 29, 30, 31, 32, 33, 34, 35, 36] : List Nat).map recI) (e2 : (["LOOSE", "ARROW", "COMPARED", "MULT", "TIMES", "BOX", "WHOLE"] : List Str).map (valOf p) = ([0, 3, 6, 7, 12, 15, 18] : List Int).map fun i => some (.int i))
    (e3 : tupStrsOf p "MULTS" = some (["some", "no", "lone", "one", "set"] : List Str)) (e4 : (["len", "abs", "sum", "range", "str", "tuple", "int"] : List Str).all (fun x => !(loose.contains x) && !(((recsOf p).map (·.name)).contains x) && !(((litsOf p).map (·.1)).contains x) && !(((clssOf p loose).map (·.name)).contains x)) = true) : Gl TT h := by
  have fn : ∀ {x : Str} {i : Nat}, i ∈ ([9, 10, 11, 12, 13, 14, 15, 16, 17, 18, 19, 20, 22, 23, 24, 25, 26, 27, 28, 29, 30, 31, 32, 33, 34, 35, 36] : List Nat) → (recI i).name = x → GIs h mg mb x (.fn (fnI i)) := fun {x i} hi hx =>
    g_fn T ⟨recI i, by rw [e1]; exact List.mem_map.mpr ⟨i, hi, rfl⟩, hx, (recI_fn _).1, (recI_fn _).2.1, (recI_fn _).2.2⟩
  have blt : ∀ {x : Str} {v : Value}, x ∈ (["len", "abs", "sum", "range", "str", "tuple", "int"] : List Str) → x ∉ startupNames → bootBuiltins x = some v → GIs h mg mb x (.blt v) := fun {x v} hx h1 e => by
    have := List.all_eq_true.mp e4 x hx
    simp only [Bool.and_eq_true, Bool.not_eq_true', List.contains_eq_mem, decide_eq_false_iff_not] at this
    exact g_blt T h1 this.1.1.1 this.1.1.2 this.1.2 this.2 e
  simp only [List.map_cons, List.map_nil, List.cons.injEq] at e2
  obtain ⟨v0, v1, v2, v3, v4, v5, v6, _⟩ := e2
  refine ⟨⟨mg, mb, T.g, T.b, fun x g e => ?_⟩, T.nolimit, T.nodigits⟩
  suffices hT : ∀ q ∈ TT, GIs h mg mb q.1 q.2 from hT (x, g) (mem_of_lookup e)
  clear e
  unfold TT
  refine List.forall_mem_cons.mpr ⟨fn (i := 9) (by decide) (by with_unfolding_all rfl), ?_⟩
  refine List.forall_mem_cons.mpr ⟨fn (i := 10) (by decide) (by with_unfolding_all rfl), ?_⟩
  refine List.forall_mem_cons.mpr ⟨fn (i := 11) (by decide) (by with_unfolding_all rfl), ?_⟩
  refine List.forall_mem_cons.mpr ⟨fn (i := 12) (by decide) (by with_unfolding_all rfl), ?_⟩
  refine List.forall_mem_cons.mpr ⟨fn (i := 13) (by decide) (by with_unfolding_all rfl), ?_⟩
  refine List.forall_mem_cons.mpr ⟨fn (i := 14) (by decide) (by with_unfolding_all rfl), ?_⟩
  refine List.forall_mem_cons.mpr ⟨fn (i := 15) (by decide) (by with_unfolding_all rfl), ?_⟩
  refine List.forall_mem_cons.mpr ⟨fn (i := 20) (by decide) (by with_unfolding_all rfl), ?_⟩
  refine List.forall_mem_cons.mpr ⟨fn (i := 22) (by decide) (by with_unfolding_all rfl), ?_⟩
  refine List.forall_mem_cons.mpr ⟨fn (i := 23) (by decide) (by with_unfolding_all rfl), ?_⟩
  refine List.forall_mem_cons.mpr ⟨fn (i := 24) (by decide) (by with_unfolding_all rfl), ?_⟩
  refine List.forall_mem_cons.mpr ⟨fn (i := 25) (by decide) (by with_unfolding_all rfl), ?_⟩
  refine List.forall_mem_cons.mpr ⟨fn (i := 26) (by decide) (by with_unfolding_all rfl), ?_⟩
  refine List.forall_mem_cons.mpr ⟨fn (i := 27) (by decide) (by with_unfolding_all rfl), ?_⟩
  refine List.forall_mem_cons.mpr ⟨fn (i := 28) (by decide) (by with_unfolding_all rfl), ?_⟩
  refine List.forall_mem_cons.mpr ⟨fn (i := 29) (by decide) (by with_unfolding_all rfl), ?_⟩
  refine List.forall_mem_cons.mpr ⟨fn (i := 30) (by decide) (by with_unfolding_all rfl), ?_⟩
  refine List.forall_mem_cons.mpr ⟨fn (i := 31) (by decide) (by with_unfolding_all rfl), ?_⟩
  refine List.forall_mem_cons.mpr ⟨fn (i := 32) (by decide) (by with_unfolding_all rfl), ?_⟩
  refine List.forall_mem_cons.mpr ⟨fn (i := 33) (by decide) (by with_unfolding_all rfl), ?_⟩
  refine List.forall_mem_cons.mpr ⟨fn (i := 34) (by decide) (by with_unfolding_all rfl), ?_⟩
  refine List.forall_mem_cons.mpr ⟨fn (i := 35) (by decide) (by with_unfolding_all rfl), ?_⟩
  refine List.forall_mem_cons.mpr ⟨g_strs B e3, ?_⟩
  refine List.forall_mem_cons.mpr ⟨g_int T v0, ?_⟩
  refine List.forall_mem_cons.mpr ⟨g_int T v1, ?_⟩
  refine List.forall_mem_cons.mpr ⟨g_int T v2, ?_⟩
  refine List.forall_mem_cons.mpr ⟨g_int T v3, ?_⟩
  refine List.forall_mem_cons.mpr ⟨g_int T v4, ?_⟩
  refine List.forall_mem_cons.mpr ⟨g_int T v5, ?_⟩
  refine List.forall_mem_cons.mpr ⟨g_int T v6, ?_⟩
  refine List.forall_mem_cons.mpr ⟨blt (by decide +kernel) (by decide +kernel) (by decide +kernel), ?_⟩
  refine List.forall_mem_cons.mpr ⟨blt (by decide +kernel) (by decide +kernel) (by decide +kernel), ?_⟩
  refine List.forall_mem_cons.mpr ⟨blt (by decide +kernel) (by decide +kernel) (by decide +kernel), ?_⟩
  refine List.forall_mem_cons.mpr ⟨blt (by decide +kernel) (by decide +kernel) (by decide +kernel), ?_⟩
  refine List.forall_mem_cons.mpr ⟨blt (by decide +kernel) (by decide +kernel) (by decide +kernel), ?_⟩
  refine List.forall_mem_cons.mpr ⟨blt (by decide +kernel) (by decide +kernel) (by decide +kernel), ?_⟩
  refine List.forall_mem_cons.mpr ⟨blt (by decide +kernel) (by decide +kernel) (by decide +kernel), ?_⟩
  exact List.forall_mem_nil _
theorem run_law {prog : Program} {w : World} {s₁ : Shared} {h₁ : Heap} {tk : Nat} {m : Str → Option Value} {fa sa : Addr} {cd : Value} {vs : List Value} {is : List Int} {Q : Flow → Shared → Prop} {E : Value → Shared → Prop}
    (G : Gl TT s₁.heap) (F : Fr s₁.heap s₁.heap.objs.size h₁ m) (hm : m "script" = some (.ref sa)) (hL : s₁.heap.IsList sa vs.toArray) (hI : IntsAre vs is) (hlen : is.length ≤ 63)
    (q : ∀ h' tk', (∀ b o, s₁.heap.get? b = some o → h'.get? b = some o) → Q (.ret (.bool true)) { s₁ with heap := h', toks := tk' }) :
    wpAny (model prog w) (callerA.deeper (envOf "law" (fnI 36).scope s₁.heap.objs.size fa cd)) (execs (fnI 36).body (envOf "law" (fnI 36).scope s₁.heap.objs.size fa cd)) Q E { s₁ with heap := h₁, toks := tk } := by
  have O : Ok TT (cxF callerA "law" (fnI 36).scope s₁.heap s₁.heap.objs.size fa cd) (0 + 400) := by
    refine ⟨⟨callerA, s₁.heap, envF "law" (fnI 36).scope s₁.heap.objs.size fa cd, [], below_caller _, Around.frames_deeper rfl, rfl, rfl⟩, G, rfl, rfl, rfl, rfl, ?_, ?_⟩
    · show 1 + claimMargin + 1 + (0 + 400) < recursionLimit; decide
    · show 4 + 3 + 4 * (0 + 400) + 100 < cLine; decide
  have S : St prog w (cxF callerA "law" (fnI 36).scope s₁.heap s₁.heap.objs.size fa cd) [("script", .obj sa)] empty { s₁ with heap := h₁, toks := tk } := by
    refine ⟨⟨⟨m, F⟩, nofun, fun a e => (e rfl).elim⟩, fun x v e => ?_, ⟨m, F.ns⟩, nofun, rfl, fun _ _ _ => rfl⟩
    rw [List.lookup_cons] at e
    cases hb : x == ("script" : Str) with
    | false => rw [hb] at e; cases e
    | true =>
      rw [hb] at e; cases e
      have : x = "script" := by simpa using hb
      subst this
      exact ⟨.ref sa, .inl ⟨by with_unfolding_all rfl, m, F.ns, hm⟩, .obj _⟩
  refine law_body O (sa := sa) (is := is) ⟨vs.toArray, hL, by simpa using hI⟩ hlen _ S Q E ?_
  rintro fl s' _ ρ' σ' st S' r rfl
  cases r with
  | ret r =>
  cases r
  obtain ⟨h', t', e⟩ := st.same
  subst e
  refine q h' t' fun b o g => ?_
  refine st.keep b o (F.keep b o g) (fun z => ?_) rfl
  rcases z with z | ⟨x, z⟩
  · rw [show b = s₁.heap.objs.size from z, get_size] at g; cases g
  · cases z
end Mine
end
open PySem PySem.W PyProof.Rows
set_option maxRecDepth 100000 in
set_option maxHeartbeats 8000000 in
theorem PySem.Challenge.cw_nz0382_01_holds : PySem.Challenge.rw_nz0382_01.Holds := by
  w_on
  o_law
  o_head Hook.none
  (case hw => w_witness2)
  intro w s₀ s₁ mg mb G Y fa o pm cd doc dV kV ho hd hcd hD hmg hg args vals as hpre hlay hrd hwl hlo
  refine Ground.open G ?_
  intro T B D TE TW
  have TA := at_of_top T
  clear hmg
  wrow_args hpre hlay hrd hwl hlo
  refine enter_call ?_
  w_top on
  refine codeAny_mono ?_ (fun _ _ g => GoodW.toG g)
  have K0 := below_caller (Top.heap T)
  w_call any ho hd hcd hD T F
  refine Mine.run_law (Mine.gl_of T B (by kernel_rfl) (by kernel_rfl) (by kernel_rfl) (by kernel_rfl)) ‹Fr _ _ _ _› ?mh ‹Heap.IsList _ _ _› ‹IntsAre _ _› ?lh ?qq
  case mh => with_unfolding_all rfl
  case lh => omega
  case qq =>
    intro h' tk' hk
    exact ⟨.inl ⟨.bool true, .bool true, [], rfl, fun _ => rfl, .bool true, by wrow_post, fun _ => ⟨List.Pairwise.nil, nofun⟩⟩, hk, rfl, ‹_ = #[]›⟩
