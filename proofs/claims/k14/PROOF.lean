import PyProof.Rows.All
import Wide.All
import OpenK.AllK
import Wide.FinOn
import HandS.ForMost
import HandS.ForExc
import HandS.Walk
import HandS.Deep
import HandS.IsInst
import HandS.ExcIs
import HandS.TryMany
import KE.DatumOrd
import KE.SortData
import HandS.SetFor
import HandS.Replace
import PyProof.StrOps2
import HandS.Dict
import HandS.Conv
import HandS.TupLen
import HandS.Set
import HandS.Strs
import HandS.Iter
import HandS.SortKw
import HandS.Wide
import KE.DataMinMax
import HandS.TryOnly
import HandS.TupSets
import HandS.Style
import PySem.Challenge.RW_dampfield_k14_whole_counts_together
set_option Elab.async false
set_option linter.all false
set_option maxRecDepth 100000
set_option maxHeartbeats 4000000
/-! DF: a layer over HandS: what a def's body computes, said by plain Lean values. -/
namespace DF
open PySem L2
/-! ### 0. the shape of an expression, once for all -/
def pE : Expr → Bool
  | .Starred .. => false
  | _ => true
theorem se_cons {e : Expr} {es : List Expr} {env : Env} (h : pE e = true) : starEach (e :: es) env = (false, eval e env) :: starEach es env := by
  cases e <;> first | (simp only [pE] at h; cases h; done) | rfl
theorem se_one {e : Expr} {env : Env} (h : pE e = true) : starEach [e] env = [(false, eval e env)] := by rw [se_cons h]; rfl
theorem se_two {e f : Expr} {env : Env} (h : pE e = true) (h2 : pE f = true) : starEach [e, f] env = [(false, eval e env), (false, eval f env)] := by rw [se_cons h, se_one h2]
def pEs : List Expr → Bool
  | [] => true
  | e :: es => pE e && pEs es
theorem se_any {env : Env} {pos : Pos} : ∀ {es : List Expr}, pEs es = true → (backTo pos (starEach es env)).any (·.1) = false
  | [], _ => rfl
  | e :: es, h => by
    simp only [pEs, Bool.and_eq_true] at h
    rw [se_cons h.1]
    show ((backTo pos ((false, eval e env) :: starEach es env)).any (·.1)) = false
    have := se_any (env := env) (pos := pos) h.2
    unfold backTo at this ⊢
    simpa using this
theorem se_all {env : Env} {pos : Pos} : ∀ {es : List Expr}, pEs es = true → (backTo pos (starEach es env)).all (fun x => !x.1) = true
  | [], _ => rfl
  | e :: es, h => by
    simp only [pEs, Bool.and_eq_true] at h
    rw [se_cons h.1]
    have := se_all (env := env) (pos := pos) h.2
    unfold backTo at this ⊢
    simpa using this
theorem se_few {e : Expr} {env : Env} {pos : Pos} (h : pE e = true) : ((backTo pos (starEach [e] env)).all (fun x => !x.1) && (backToKw pos (keywordEach [] env)).all (fun x => x.1.isSome) && decide ([e].length + ([] : List Keyword).length + (if ([] : List Keyword).isEmpty then 0 else 1) < 30)) = true := by
  rw [se_all (by simp [pEs, h])]
  rfl
/-- is its truth asked of its value? -/
def tE : Expr → Bool
  | .UnaryOp .Not _ _ => false
  | .BoolOp _ _ _ => false
  | .IfExp _ _ _ _ => false
  | .Compare _ _ _ _ => false
  | _ => true
theorem it_plain {e : Expr} {env : Env} (h : tE e = true) (whole : Sem Value) : isTrue e env whole = (do let v ← whole; standAt e.pos; holding [v] (truthy v)) := by
  cases e with
  | UnaryOp op x pos => cases op <;> first | (simp only [tE] at h; cases h; done) | rfl
  | BoolOp => simp [tE] at h
  | IfExp => simp [tE] at h
  | Compare => simp [tE] at h
  | _ => rfl
/-- no comprehension -/
def nC : Expr → Bool
  | .ListComp .. => false
  | .SetComp .. => false
  | .DictComp .. => false
  | _ => true
theorem sw_any {e : Expr} {t : Option Expr} {l : Nat} {env : Env} (h : nC e = true) : swapsWith e t l env = pure false := by
  cases e <;> first | (simp only [nC] at h; cases h; done) | rfl
theorem sw_sole {e t : Expr} {l : Nat} {env : Env} (h : nC e = true) : swapsWithSole [t] e l env = pure false := sw_any h
theorem ss_name {x : Str} {p : Pos} {e : Expr} {env : Env} : swappedStores [.Name x p] e env = pure none := rfl
def nT : Expr → Bool
  | .Tuple .. => false
  | _ => true
theorem ss_any {t e : Expr} {env : Env} (h : nT e = true) : swappedStores [t] e env = pure none := by
  cases e <;> first | (simp only [nT] at h; cases h; done) | (cases t <;> rfl)
theorem ae_name {x : Str} {p : Pos} {env : Env} : (assignEach [.Name x p] env).map (·.2) = [assign (.Name x p) env] := rfl
theorem ae_tup {es : List Expr} {k : Nat} {p : Pos} {env : Env} : (assignEach [.Tuple es k p] env).map (·.2) = [assign (.Tuple es k p) env] := rfl
def nS : Expr → Bool
  | .Call (.Name _ _) [] [] _ => false
  | _ => true
theorem ab_plain {o : Expr} {x : Str} {env : Env} {w : Sem Value} (h : nS o = true) : attributeBase o x env w = w := by
  unfold attributeBase
  split
  · simp [nS] at h
  · rfl
def nSl : Expr → Bool
  | .Slice .. => false
  | _ => true
theorem px_plain {b : Expr} (h : nSl b = true) : PlainIx b := fun o i => by
  cases b <;> first | (simp only [nSl] at h; cases h; done) | rfl
def nSet : Expr → Bool
  | .Set .. => false
  | _ => true
theorem bm_plain {op : CmpOp} {b : Expr} (h : nSet b = true) : behindInMarks op b = false := by
  cases b <;> first | (simp only [nSet] at h; cases h; done) | rfl
theorem lm_plain {op op' : CmpOp} {b c : Expr} (h : nSet c = true) : lastMarks [op, op'] [b, c] = false := by
  show behindInMarks op' c = false
  exact bm_plain h
theorem fs_plain {it : Expr} {env : Env} (h : nSet it = true) (x : Value) : foldedSetIterable it env x = pure x := by
  cases it <;> first | (simp only [nSet] at h; cases h; done) | rfl
abbrev plM (o : Expr) (env : Env) : Sem Bool := do return (← importBound o env).getD true
theorem ev_attr {env : Env} {o : Expr} {x : Str} {apos pos : Pos} {es : List Expr} (h1 : nS o = true) (h2 : pEs es = true) (h3 : es.length < 29) (h4 : (apos.endLine == pos.line) = true) : eval (.Call (.Attribute o x apos) es [] pos) env = (do
      let ov ← eval o env
      standAt apos.atName
      let (f, first) ← holding [ov] (getMethod ov x (plM o env))
      callWith pos f first (backTo pos (starEach es env)) (backToKw pos (keywordEach [] env))) := by
  rw [eval, ab_plain h1]
  have hf : methodCallForm (es.length + ([] : List Keyword).length) (backTo pos (starEach es env)) (backToKw pos (keywordEach [] env)) = true := by
    unfold methodCallForm
    rw [se_all h2]
    show (true && (true && decide (es.length + 0 + 0 < 30))) = true
    simp; omega
  unfold methodCall
  rw [hf]
  unfold calleeOf methodCallPos
  rw [h4]
  rfl
end DF

namespace DF
open PySem L2

/-! ### 1. the readings that ask no more than the machine does -/
def wE (X : Cx) (e : Expr) : TE := fun σ H Q => ∀ pins s, Inv X pins σ H s → wpAny (model X.prog X.w) X.A (eval e X.env) (EP X pins σ Q) X.xe s
def wT (X : Cx) (e : Expr) : TT := fun σ H Q => ∀ pins s, Inv X pins σ H s → wpAny (model X.prog X.w) X.A (isTrue e X.env (eval e X.env)) (TP X pins σ Q) X.xe s
def wW (X : Cx) (e : Expr) : TT := fun σ H Q => ∀ whole pins s, Inv X pins σ H s → wpAny (model X.prog X.w) X.A (isTrue e X.env whole) (TP X pins σ Q) X.xe s
def wA (X : Cx) (es : List Expr) : TA := fun σ H Q => ∀ pos pins s, Inv X pins σ H s → wpAny (model X.prog X.w) X.A (spliced (backTo pos (starEach es X.env))) (AP X pins σ Q) X.xe s
def wS (X : Cx) (st : Stmt) : TS := fun D σ H => ∀ pins s, Inv X pins σ H s → wpAny (model X.prog X.w) X.A (exec st X.env) (SP X pins D) X.xe s
def wB (X : Cx) (st : List Stmt) : TS := fun D σ H => ∀ pins s, Inv X pins σ H s → wpAny (model X.prog X.w) X.A (execs st X.env) (SP X pins D) X.xe s
def wG (X : Cx) (tg : Expr) : TG := fun v σ H Q => ∀ pins s u, Inv X pins σ H s → RelV v u → wpAny (model X.prog X.w) X.A (assign tg X.env u) (fun _ s' => ∃ σ' H', Inv X pins σ' H' s' ∧ Q σ' H') X.xe s
def wI (X : Cx) (tg iter : Expr) : TI := fun σ H R => ∀ pins s, Inv X pins σ H s → wpAny (model X.prog X.w) X.A (eval iter X.env) (fun v s1 => wpAny (model X.prog X.w) X.A (pyIter v) (PIE X pins σ tg R) X.xe s1) X.xe s
section
variable {X : Cx} {e : Expr} {es : List Expr} {st : Stmt} {sts : List Stmt} {σ : L2.St} {H : Hp}
theorem pe_w : PE X e (wE X e) := ⟨fun pins s σ H Q I h => h pins s I⟩
theorem pt_w : PT X e (wT X e) := ⟨fun pins s σ H Q I h => h pins s I⟩
theorem pw_w : PW X e (wW X e) := ⟨fun wh pins s σ H Q I h => h wh pins s I⟩
theorem pa_w : PA X es (wA X es) := ⟨fun pos pins s σ H Q I h => h pos pins s I⟩
theorem ps_w : PS X st (wS X st) := ⟨fun pins s σ H D I h => h pins s I⟩
theorem pss_w : PSs X sts (wB X sts) := ⟨fun pins s σ H D I h => h pins s I⟩
theorem pg_w : PG X e (wG X e) := ⟨fun pins s σ H v u Q I r h => h pins s u I r⟩
theorem pi_w {tg : Expr} : PI X tg e (wI X tg e) := ⟨fun pins s σ H R I h => h pins s I⟩
theorem wE_of {t : TE} {Q : VK} (h : PE X e t) (q : t σ H Q) : wE X e σ H Q := fun pins s I => h.run pins s σ H Q I q
theorem wT_of {t : TT} {Q : Bool → Hp → Prop} (h : PT X e t) (q : t σ H Q) : wT X e σ H Q := fun pins s I => h.run pins s σ H Q I q
theorem wW_of {t : TT} {Q : Bool → Hp → Prop} (h : PW X e t) (q : t σ H Q) : wW X e σ H Q := fun wh pins s I => h.run wh pins s σ H Q I q
theorem wA_of {t : TA} {Q : List V → Hp → Prop} (h : PA X es t) (q : t σ H Q) : wA X es σ H Q := fun pos pins s I => h.run pos pins s σ H Q I q
theorem wS_of {t : TS} {D : Ends} (h : PS X st t) (q : t D σ H) : wS X st D σ H := fun pins s I => h.run pins s σ H D I q
theorem wB_of {t : TS} {D : Ends} (h : PSs X sts t) (q : t D σ H) : wB X sts D σ H := fun pins s I => h.run pins s σ H D I q
theorem wG_of {t : TG} {v : V} {Q : L2.St → Hp → Prop} (h : PG X e t) (q : t v σ H Q) : wG X e v σ H Q := fun pins s u I r => h.run pins s σ H v u Q I r q
theorem wI_of {tg : Expr} {t : TI} {R : It → Hp → Prop} (h : PI X tg e t) (q : t σ H R) : wI X tg e σ H R := fun pins s I => h.run pins s σ H R I q
end

/-! ### 2. what a value, an object stands for -/
structure MP where
  f : Hp → V → Prop
  mono : ∀ {H H' : Hp} {v : V}, Same H H' → f H v → f H' v
structure MO where
  f : Hp → HO → Prop
  mono : ∀ {H H' : Hp} {o : HO}, Same H H' → f H o → f H' o
class R (α : Type) where
  rp : α → MP
open R (rp)
/-- all one by one -/
abbrev All2 (H : Hp) (vs : List V) (Ps : List MP) : Prop := Paired (fun v (P : MP) => P.f H v) vs Ps
theorem All2.mono {H H' : Hp} {vs : List V} {Ps : List MP} (e : Same H H') (h : All2 H vs Ps) : All2 H' vs Ps := Paired.mapP h fun _ P q => P.mono e q
theorem Paired.get {α β : Type} {F : α → β → Prop} : ∀ {l₁ : List α} {l₂ : List β} {i : Nat} {b : β}, Paired F l₁ l₂ → l₂[i]? = some b → ∃ a, l₁[i]? = some a ∧ F a b
  | _, _, _, _, .nil, e => by simp at e
  | _, _, 0, _, .cons r _, e => by simp at e; subst e; exact ⟨_, rfl, r⟩
  | _, _, i + 1, _, .cons _ t, e => Paired.get (i := i) t (by simpa using e)
theorem Paired.getL {α β : Type} {F : α → β → Prop} : ∀ {l₁ : List α} {l₂ : List β} {i : Nat} {a : α}, Paired F l₁ l₂ → l₁[i]? = some a → ∃ b, l₂[i]? = some b ∧ F a b
  | _, _, _, _, .nil, e => by simp at e
  | _, _, 0, _, .cons r _, e => by simp at e; subst e; exact ⟨_, rfl, r⟩
  | _, _, i + 1, _, .cons _ t, e => Paired.getL (i := i) t (by simpa using e)
theorem Paired.app {α β : Type} {F : α → β → Prop} : ∀ {l₁ m₁ : List α} {l₂ m₂ : List β}, Paired F l₁ l₂ → Paired F m₁ m₂ → Paired F (l₁ ++ m₁) (l₂ ++ m₂)
  | _, _, _, _, .nil, h => h
  | _, _, _, _, .cons r t, h => .cons r (Paired.app t h)
theorem Paired.take {α β : Type} {F : α → β → Prop} : ∀ {l₁ : List α} {l₂ : List β} (n : Nat), Paired F l₁ l₂ → Paired F (l₁.take n) (l₂.take n)
  | _, _, 0, _ => .nil
  | _, _, _ + 1, .nil => .nil
  | _, _, n + 1, .cons r t => .cons r (Paired.take n t)
theorem Paired.drop {α β : Type} {F : α → β → Prop} : ∀ {l₁ : List α} {l₂ : List β} (n : Nat), Paired F l₁ l₂ → Paired F (l₁.drop n) (l₂.drop n)
  | _, _, 0, h => h
  | _, _, _ + 1, .nil => .nil
  | _, _, n + 1, .cons _ t => Paired.drop n t
theorem Paired.set {α β : Type} {F : α → β → Prop} {a : α} {b : β} (r : F a b) : ∀ {l₁ : List α} {l₂ : List β} (n : Nat), Paired F l₁ l₂ → Paired F (l₁.set n a) (l₂.set n b)
  | _, _, _, .nil => .nil
  | _, _, 0, .cons _ t => .cons r t
  | _, _, n + 1, .cons q t => .cons q (Paired.set r n t)
theorem Paired.rev {α β : Type} {F : α → β → Prop} : ∀ {l₁ : List α} {l₂ : List β}, Paired F l₁ l₂ → Paired F l₁.reverse l₂.reverse
  | _, _, .nil => .nil
  | _, _, .cons r t => by
    rw [List.reverse_cons, List.reverse_cons]
    exact Paired.app (Paired.rev t) (.cons r .nil)

def intM (i : Int) : MP := ⟨fun _ v => v = .int i, fun _ h => h⟩
def blM (b : Bool) : MP := ⟨fun _ v => v = .bl b, fun _ h => h⟩
def strM (s : Str) : MP := ⟨fun _ v => v = .str s, fun _ h => h⟩
def nonM : MP := ⟨fun _ v => v = .non, fun _ h => h⟩
/-- the very value -/
def valM (w : V) : MP := ⟨fun _ v => v = w, fun _ h => h⟩
abbrev atM (a : Addr) : MP := valM (.ref a)
def anyM : MP := ⟨fun _ _ => True, fun _ h => h⟩
/-- a tuple -/
def tupM (Ps : List MP) : MP := ⟨fun H v => ∃ a vs, v = .ref a ∧ H a = some (.tup vs) ∧ All2 H vs Ps, fun e ⟨a, vs, h1, h2, h3⟩ => ⟨a, vs, h1, e _ _ h2, h3.mono e⟩⟩
/-- a list's content -/
def lsM (Ps : List MP) : MO := ⟨fun H o => ∃ vs, o = .lst vs ∧ All2 H vs Ps, fun e ⟨vs, h1, h2⟩ => ⟨vs, h1, h2.mono e⟩⟩
/-- an object that stays, with that content -/
def obM (φ : MO) : MP := ⟨fun H v => ∃ a o, v = .ref a ∧ H a = some o ∧ φ.f H o, fun e ⟨a, o, h1, h2, h3⟩ => ⟨a, o, h1, e _ _ h2, φ.mono e h3⟩⟩

instance : R Int := ⟨intM⟩
instance : R Bool := ⟨blM⟩
instance : R Str := ⟨strM⟩
instance : R Unit := ⟨fun _ => nonM⟩
def lsO {α : Type} [R α] (xs : List α) : MO := lsM (xs.map rp)
instance {α : Type} [R α] : R (List α) := ⟨fun xs => obM (lsO xs)⟩
instance {α β : Type} [R α] [R β] : R (α × β) := ⟨fun x => tupM [rp x.1, rp x.2]⟩
theorem rp_list {α : Type} [R α] (xs : List α) : rp xs = obM (lsO xs) := rfl
theorem rp_pair {α β : Type} [R α] [R β] (x : α) (y : β) : rp (x, y) = tupM [rp x, rp y] := rfl

/-! ### 3. the state: what stays (H0), what is ours to change (ω) -/
structure Nx (H H0 H' H0' : Hp) : Prop where
  a : Same H H'
  b : Same H0 H0'
  c : Same H0' H'
  d : ∀ x o, H x = some o → H0 x = none → H0' x = none
  e : ∀ x vs, H' x = some (.tup vs) → H x = none → H0' x = some (.tup vs)
/-- all tuples stay -/
def Tp (H H0 : Hp) : Prop := ∀ x vs, H x = some (.tup vs) → H0 x = some (.tup vs)
theorem Tp.step {H H0 H' H0' : Hp} (t : Tp H H0) (n : Nx H H0 H' H0') : Tp H' H0' := fun x vs h => by
  cases hx : H x with
  | none => exact n.e x vs h hx
  | some o =>
    have := n.a _ _ hx
    rw [h] at this
    cases this
    exact n.b _ _ (t x vs hx)
theorem Nx.refl {H H0 : Hp} (s : Same H0 H) : Nx H H0 H H0 := ⟨Same.refl _, Same.refl _, s, fun _ _ _ h => h, fun x vs h1 h2 => by rw [h1] at h2; cases h2⟩
theorem Nx.trans {H H0 H1 H01 H2 H02 : Hp} (p : Nx H H0 H1 H01) (q : Nx H1 H01 H2 H02) : Nx H H0 H2 H02 :=
  ⟨p.a.trans q.a, p.b.trans q.b, q.c, fun x o h h0 => q.d x o (p.a _ _ h) (p.d x o h h0), fun x vs h h0 => by
    cases hx : H1 x with
    | none => exact q.e x vs h hx
    | some o =>
      have := q.a _ _ hx
      rw [h] at this
      cases this
      exact q.b _ _ (p.e x vs hx h0)⟩
/-- a new object that stays -/
theorem Nx.new {H H0 : Hp} {p : Addr} {o : HO} (s : Same H0 H) (h : H p = none) : Nx H H0 (upd H p o) (upd H0 p o) := by
  have h0 : H0 p = none := s.free h
  refine ⟨fun b u e => by rw [upd_ne (ne_of_none e h)]; exact e, fun b u e => by rw [upd_ne (ne_of_none e h0)]; exact e, fun b u e => ?_, fun x u e e0 => by rw [upd_ne (ne_of_none e h)]; exact e0, fun b vs e e0 => ?_⟩
  · by_cases hb : b = p
    · subst hb; rw [upd_same] at e ⊢; exact e
    · rw [upd_ne hb] at e ⊢; exact s _ _ e
  · by_cases hb : b = p
    · subst hb; rw [upd_same] at e ⊢; exact e
    · rw [upd_ne hb] at e; rw [e0] at e; cases e
/-- a new object that is ours -/
theorem Nx.fresh {H H0 : Hp} {p : Addr} {o : HO} (s : Same H0 H) (h : H p = none) (ho : ∀ vs, o ≠ .tup vs := by exact fun _ z => nomatch z) : Nx H H0 (upd H p o) H0 :=
  ⟨fun b u e => by rw [upd_ne (ne_of_none e h)]; exact e, Same.refl _, fun b u e => by rw [upd_ne (ne_of_none (s _ _ e) h)]; exact s _ _ e, fun _ _ _ e0 => e0, fun b vs e e0 => by
    by_cases hb : b = p
    · subst hb; rw [upd_same] at e; cases e; exact absurd rfl (ho vs)
    · rw [upd_ne hb] at e; rw [e0] at e; cases e⟩
/-- what is ours stays from now on -/
theorem Nx.freeze {H H0 H' H0' : Hp} {p : Addr} {o : HO} (n : Nx H H0 H' H0') (h : H p = none) (h' : H' p = some o) (h0 : H0' p = none) : Nx H H0 H' (upd H0' p o) := by
  refine ⟨n.a, fun b u e => by rw [upd_ne (ne_of_none (n.b _ _ e) h0)]; exact n.b _ _ e, fun b u e => ?_, fun x u e e0 => by rw [upd_ne (ne_of_none e h)]; exact n.d x u e e0, fun b vs e e0 => ?_⟩
  · by_cases hb : b = p
    · subst hb; rw [upd_same] at e; rw [h', ← e]
    · rw [upd_ne hb] at e; exact n.c _ _ e
  · have := n.e b vs e e0
    rw [upd_ne (ne_of_none this h0)]; exact this

abbrev En := List (Option MP)
abbrev Ow := List (Addr × MO)
structure Sat (B B0 : Hp) (ρ : En) (ω : Ow) (σ : L2.St) (H H0 : Hp) : Prop where
  nx : Nx B B0 H H0
  len : ρ.length = σ.length
  sl : ∀ (i : Nat) (P : MP), ρ[i]? = some (some P) → ∃ v, σ[i]? = some (some v) ∧ P.f H0 v
  ow : ∀ a φ, (a, φ) ∈ ω → B a = none ∧ H0 a = none ∧ ∃ o, H a = some o ∧ φ.f H0 o
  nd : (ω.map (·.1)).Nodup
  tp : Tp H H0
theorem Sat.sub {B B0 H H0 : Hp} {ρ : En} {ω : Ow} {σ : L2.St} (S : Sat B B0 ρ ω σ H H0) : Same H0 H := S.nx.c
theorem Sat.step {B B0 H H0 H' H0' : Hp} {ρ : En} {ω : Ow} {σ : L2.St} (S : Sat B B0 ρ ω σ H H0) (n : Nx H H0 H' H0') : Sat B B0 ρ ω σ H' H0' :=
  ⟨S.nx.trans n, S.len, fun i P h => let ⟨v, h1, h2⟩ := S.sl i P h; ⟨v, h1, P.mono n.b h2⟩,
   fun a φ h => let ⟨h1, h2, o, h3, h4⟩ := S.ow a φ h; ⟨h1, n.d a o h3 h2, o, n.a _ _ h3, φ.mono n.b h4⟩, S.nd, S.tp.step n⟩
/-- a slot is filled -/
theorem Sat.set {B B0 H H0 : Hp} {ρ : En} {ω : Ow} {σ : L2.St} (S : Sat B B0 ρ ω σ H H0) {P : MP} {v : V} (i : Nat) (h : P.f H0 v) : Sat B B0 (ρ.set i (some P)) ω (σ.set i (some v)) H H0 := by
  refine ⟨S.nx, by simp [S.len], fun j P' hj => ?_, S.ow, S.nd, S.tp⟩
  by_cases hi : i = j
  · subst hi
    by_cases hl : i < ρ.length
    · rw [List.getElem?_set_self hl] at hj
      cases hj
      exact ⟨v, List.getElem?_set_self (by rw [← S.len]; exact hl), h⟩
    · rw [List.getElem?_eq_none (by simpa using hl)] at hj; cases hj
  · rw [List.getElem?_set_ne hi] at hj
    obtain ⟨w, h1, h2⟩ := S.sl j P' hj
    exact ⟨w, by rw [List.getElem?_set_ne hi]; exact h1, h2⟩
/-- a new object of ours -/
theorem Sat.own {B B0 H H0 : Hp} {ρ : En} {ω : Ow} {σ : L2.St} (S : Sat B B0 ρ ω σ H H0) {p : Addr} {o : HO} {φ : MO} (hp : ∀ a φ', (a, φ') ∈ ω → a ≠ p) (hB : B p = none) (h0 : H0 p = none) (h : H p = some o) (f : φ.f H0 o) : Sat B B0 ρ ((p, φ) :: ω) σ H H0 := by
  refine ⟨S.nx, S.len, S.sl, fun a φ' hm => ?_, ?_, S.tp⟩
  · rcases List.mem_cons.mp hm with e | hm
    · cases e; exact ⟨hB, h0, o, h, f⟩
    · exact S.ow a φ' hm
  · show (p :: ω.map (·.1)).Nodup
    refine List.nodup_cons.mpr ⟨fun hm => ?_, S.nd⟩
    obtain ⟨⟨a, φ'⟩, hm, e⟩ := List.mem_map.mp hm
    exact hp a φ' hm e
theorem tup_put {H H0 : Hp} {p : Addr} {o' : HO} (t : Tp H H0) (ho : ∀ vs, o' ≠ .tup vs) : Tp (upd H p o') H0 := fun x vs e => by
  by_cases hb : x = p
  · subst hb; rw [upd_same] at e; cases e; exact absurd rfl (ho vs)
  · rw [upd_ne hb] at e; exact t x vs e
/-- an object of ours changes -/
theorem Sat.put {B B0 H H0 : Hp} {ρ : En} {ω : Ow} {σ : L2.St} (S : Sat B B0 ρ ω σ H H0) {j : Nat} {p : Addr} {o' : HO} {φ φ' : MO} (hj : ω[j]? = some (p, φ)) (f : φ'.f H0 o') (ho : ∀ vs, o' ≠ .tup vs := by exact fun _ z => nomatch z) : Sat B B0 ρ (ω.set j (p, φ')) σ (upd H p o') H0 := by
  obtain ⟨hB, h0, o, hp, _⟩ := S.ow p φ (List.mem_of_getElem? hj)
  have hjl : j < ω.length := (List.getElem?_eq_some_iff.mp hj).1
  have hne : ∀ b u, H0 b = some u → b ≠ p := fun b u e z => by subst z; rw [h0] at e; cases e
  refine ⟨⟨fun b u e => by rw [upd_ne (ne_of_none e hB)]; exact S.nx.a _ _ e, S.nx.b, fun b u e => by rw [upd_ne (hne b u e)]; exact S.nx.c _ _ e, S.nx.d, fun x vs e e0 => tup_put S.tp ho x vs e⟩, S.len, S.sl, fun a ψ hm => ?_, ?_, tup_put S.tp ho⟩
  · obtain ⟨k, hk⟩ := List.getElem?_of_mem hm
    by_cases hkj : j = k
    · subst hkj
      rw [List.getElem?_set_self hjl] at hk
      cases hk
      exact ⟨hB, h0, o', upd_same, f⟩
    · rw [List.getElem?_set_ne hkj] at hk
      obtain ⟨h1, h2, u, h3, h4⟩ := S.ow a ψ (List.mem_of_getElem? hk)
      refine ⟨h1, h2, u, ?_, h4⟩
      rw [upd_ne]
      · exact h3
      · intro e
        subst e
        have e1 : (ω.map (·.1))[j]? = some a := by rw [List.getElem?_map, hj]; rfl
        have e2 : (ω.map (·.1))[k]? = some a := by rw [List.getElem?_map, hk]; rfl
        exact hkj (nd_ix S.nd e1 e2)
  · have e : (ω.set j (p, φ')).map (·.1) = ω.map (·.1) := by
      apply List.ext_getElem?
      intro k
      rw [List.getElem?_map, List.getElem?_map]
      by_cases hkj : j = k
      · subst hkj
        rw [List.getElem?_set_self hjl, hj]; rfl
      · rw [List.getElem?_set_ne hkj]
    rw [e]; exact S.nd

/-! ### 4. what an expression evaluates to -/
structure Ev (X : Cx) (ρ : En) (ω : Ow) (e : Expr) (P : MP) : Prop where
  run : ∀ B B0 σ H H0, Sat B B0 ρ ω σ H H0 → ∀ Q : VK, (∀ v H' H0', Nx H H0 H' H0' → P.f H0' v → Q v H') → wE X e σ H Q
/-- a new object -/
structure EvN (X : Cx) (ρ : En) (ω : Ow) (e : Expr) (φ : MO) : Prop where
  run : ∀ B B0 σ H H0, Sat B B0 ρ ω σ H H0 → ∀ Q : VK, (∀ p o H' H0', Nx H H0 H' H0' → H p = none → H0' p = none → H' p = some o → φ.f H0' o → Q (.ref p) H') → wE X e σ H Q
/-- an object's content now, ours or not -/
structure EvC (X : Cx) (ρ : En) (ω : Ow) (e : Expr) (φ : MO) : Prop where
  run : ∀ B B0 σ H H0, Sat B B0 ρ ω σ H H0 → ∀ Q : VK, (∀ p o H' H0', Nx H H0 H' H0' → H' p = some o → φ.f H0' o → Q (.ref p) H') → wE X e σ H Q
structure EvT (X : Cx) (ρ : En) (ω : Ow) (e : Expr) (b : Bool) : Prop where
  run : ∀ B B0 σ H H0, Sat B B0 ρ ω σ H H0 → ∀ Q : Bool → Hp → Prop, (∀ H' H0', Nx H H0 H' H0' → Q b H') → wT X e σ H Q
structure EvW (X : Cx) (ρ : En) (ω : Ow) (e : Expr) (b : Bool) : Prop where
  run : ∀ B B0 σ H H0, Sat B B0 ρ ω σ H H0 → ∀ Q : Bool → Hp → Prop, (∀ H' H0', Nx H H0 H' H0' → Q b H') → wW X e σ H Q
structure EvA (X : Cx) (ρ : En) (ω : Ow) (es : List Expr) (Ps : List MP) : Prop where
  run : ∀ B B0 σ H H0, Sat B B0 ρ ω σ H H0 → ∀ Q : List V → Hp → Prop, (∀ vs H' H0', Nx H H0 H' H0' → All2 H0' vs Ps → Q vs H') → wA X es σ H Q
section
variable {X : Cx} {ρ : En} {ω : Ow} {e a b : Expr} {es : List Expr} {P P1 P2 : MP} {φ ψ : MO} {pos : Pos}
theorem EvN.ev (h : EvN X ρ ω e φ) : Ev X ρ ω e (obM φ) := .mk fun B B0 σ H H0 S Q q =>
  h.run B B0 σ H H0 S Q fun p o H' H0' n hp h0 h' f => q (.ref p) H' (upd H0' p o) (n.freeze hp h' h0) ⟨p, o, rfl, upd_same, φ.mono (fun b u e => by rw [upd_ne (ne_of_none e h0)]; exact e) f⟩
theorem EvN.evl {α : Type} [R α] {xs : List α} (h : EvN X ρ ω e (lsO xs)) : Ev X ρ ω e (rp xs) := h.ev
theorem EvN.evc (h : EvN X ρ ω e φ) : EvC X ρ ω e φ := .mk fun B B0 σ H H0 S Q q => h.run B B0 σ H H0 S Q fun p o H' H0' n _ _ h' f => q p o H' H0' n h' f
theorem Ev.evc (h : Ev X ρ ω e (obM φ)) : EvC X ρ ω e φ := .mk fun B B0 σ H H0 S Q q => h.run B B0 σ H H0 S Q fun v H' H0' n ⟨p, o, e1, e2, f⟩ => by
  subst e1; exact q p o H' H0' n (n.c _ _ e2) f
theorem Ev.evcl {α : Type} [R α] {xs : List α} (h : Ev X ρ ω e (rp xs)) : EvC X ρ ω e (lsO xs) := Ev.evc h
theorem Ev.cast (h : Ev X ρ ω e P1) (q : P1 = P2) : Ev X ρ ω e P2 := q ▸ h
theorem Ev.imp (h : Ev X ρ ω e P1) (q : ∀ H v, P1.f H v → P2.f H v) : Ev X ρ ω e P2 := .mk fun B B0 σ H H0 S Q k => h.run B B0 σ H H0 S Q fun v H' H0' n f => k v H' H0' n (q _ _ f)
theorem EvN.cast (h : EvN X ρ ω e φ) (q : φ = ψ) : EvN X ρ ω e ψ := q ▸ h
theorem EvC.cast (h : EvC X ρ ω e φ) (q : φ = ψ) : EvC X ρ ω e ψ := q ▸ h
theorem EvT.cast {b c : Bool} (h : EvT X ρ ω e b) (q : b = c) : EvT X ρ ω e c := q ▸ h

theorem ev_var {i : Nat} {x : Str} (hs : ρ[i]? = some (some P)) (hN : X.N[i]? = some x) (hv : Vis X.env.scope x) (hd : (x == ("__debug__" : Str)) = false) (hcd : (x == ("__classdict__" : Str)) = false) : Ev X ρ ω (.Name x pos) P := .mk fun B B0 σ H H0 S Q q => by
  obtain ⟨v, h1, h2⟩ := S.sl i P hs
  exact wE_of (pe_var hN hv hd hcd) ⟨v, h1, q v H H0 (Nx.refl S.sub) h2⟩
/-- a name of an object of ours -/
theorem evc_own {i : Nat} {x : Str} {p : Addr} (hs : ρ[i]? = some (some (atM p))) (hw : (p, φ) ∈ ω) (hN : X.N[i]? = some x) (hv : Vis X.env.scope x) (hd : (x == ("__debug__" : Str)) = false) (hcd : (x == ("__classdict__" : Str)) = false) : EvC X ρ ω (.Name x pos) φ := .mk fun B B0 σ H H0 S Q q => by
  obtain ⟨v, h1, h2⟩ := S.sl i _ hs
  have h2 : v = .ref p := h2
  subst h2
  obtain ⟨_, _, o, h3, h4⟩ := S.ow p φ hw
  exact wE_of (pe_var hN hv hd hcd) ⟨.ref p, h1, q p o H H0 (Nx.refl S.sub) h3 h4⟩
theorem ev_int {i : Int} {j : Nat} : Ev X ρ ω (.Constant (.int i) j pos) (rp i) := .mk fun B B0 σ H H0 S Q q => wE_of pe_int (q (.int i) H H0 (Nx.refl S.sub) rfl)
theorem ev_bl {i : Bool} {j : Nat} : Ev X ρ ω (.Constant (.bool i) j pos) (rp i) := .mk fun B B0 σ H H0 S Q q => wE_of pe_bl (q (.bl i) H H0 (Nx.refl S.sub) rfl)
theorem ev_non {j : Nat} : Ev X ρ ω (.Constant .none j pos) nonM := .mk fun B B0 σ H H0 S Q q => wE_of pe_non (q .non H H0 (Nx.refl S.sub) rfl)
theorem ev_str {x : Str} {j : Nat} : Ev X ρ ω (.Constant (.str x) j pos) (rp x) := .mk fun B B0 σ H H0 S Q q => wE_of pe_str (q (.str x) H H0 (Nx.refl S.sub) rfl)
theorem ev_glob {x : Str} {v : V} {u : Value} (hg : Gl X x) (hm : X.mg x = some u) (r : RelV v u) (hd : (x == ("__debug__" : Str)) = false := by decide) : Ev X ρ ω (.Name x pos) (valM v) := .mk fun B B0 σ H H0 S Q q => wE_of (pe_glob hg hm r hd) (q v H H0 (Nx.refl S.sub) rfl)
theorem ev_globI {x : Str} {i : Int} {t : Tok} (hg : Gl X x) (hm : X.mg x = some (.int i t)) (hd : (x == ("__debug__" : Str)) = false := by decide) : Ev X ρ ω (.Name x pos) (rp i) := ev_glob (v := .int i) hg hm ⟨t, rfl⟩ hd
theorem eva_nil : EvA X ρ ω [] [] := .mk fun B B0 σ H H0 S Q q => wA_of pa_nil (q [] H H0 (Nx.refl S.sub) .nil)
theorem eva_cons {Ps : List MP} (h : Ev X ρ ω e P) (hr : EvA X ρ ω es Ps) (hs : starEach (e :: es) X.env = (false, eval e X.env) :: starEach es X.env := by exact se_cons rfl) : EvA X ρ ω (e :: es) (P :: Ps) := .mk fun B B0 σ H H0 S Q q =>
  wA_of (pa_cons pe_w pa_w hs) (h.run B B0 σ H H0 S _ fun v H1 H01 n1 f1 => hr.run B B0 σ H1 H01 (S.step n1) _ fun vs H2 H02 n2 f2 => q (v :: vs) H2 H02 (n1.trans n2) (.cons (P.mono n2.b f1) f2))
theorem EvA.one (h : Ev X ρ ω e P) (hs : starEach [e] X.env = (false, eval e X.env) :: starEach [] X.env := by exact se_cons rfl) : EvA X ρ ω [e] [P] := eva_cons h eva_nil hs

/-! operators -/
def J2 (r : R2) (P1 P2 P : MP) : Prop := ∀ v1 v2 H H0, Same H0 H → P1.f H0 v1 → P2.f H0 v2 → ∀ Q : VK, (∀ v H' H0', Nx H H0 H' H0' → P.f H0' v → Q v H') → r v1 v2 H Q
theorem ev_2 {r : R2} {t : TE} (h : PE X e (tOp r (wE X a) (wE X b))) (h1 : Ev X ρ ω a P1) (h2 : Ev X ρ ω b P2) (j : J2 r P1 P2 P) : Ev X ρ ω e P := .mk fun B B0 σ H H0 S Q q =>
  wE_of h (h1.run B B0 σ H H0 S _ fun v1 H1 H01 n1 f1 => h2.run B B0 σ H1 H01 (S.step n1) _ fun v2 H2 H02 n2 f2 => j v1 v2 H2 H02 n2.c (P1.mono n2.b f1) f2 _ fun v H3 H03 n3 f3 => q v H3 H03 ((n1.trans n2).trans n3) f3)
theorem ev_op {op : Operator} {r : R2} (ho : OpR X (binaryOp op) r) (j : J2 r P1 P2 P) (h1 : Ev X ρ ω a P1) (h2 : Ev X ρ ω b P2) : Ev X ρ ω (.BinOp a op b pos) P := ev_2 (t := fun _ _ _ => True) (pe_op ho pe_w pe_w) h1 h2 j
theorem ev_cmp {op : CmpOp} {r : R2} (ho : OpR X (compareOp op) r) (j : J2 r P1 P2 P) (h1 : Ev X ρ ω a P1) (h2 : Ev X ρ ω b P2) (hm : behindInMarks op b = false) : Ev X ρ ω (.Compare a [op] [b] pos) P := ev_2 (t := fun _ _ _ => True) (pe_cmpR ho pe_w pe_w hm) h1 h2 j
theorem jI0 {g : Int → Int → Int} {i k : Int} : J2 (rI0 fun i j => .int (g i j)) (rp i) (rp k) (rp (g i k)) := fun v1 v2 H H0 s f1 f2 Q q => ⟨i, k, f1, f2, q _ H H0 (Nx.refl s) rfl⟩
theorem jI {C : Int → Int → Prop} {g : Int → Int → Int} {i k : Int} (hc : C i k) : J2 (rI C fun i j => .int (g i j)) (rp i) (rp k) (rp (g i k)) := fun v1 v2 H H0 s f1 f2 Q q => ⟨i, k, f1, f2, hc, q _ H H0 (Nx.refl s) rfl⟩
theorem jB0 {g : Int → Int → Bool} {i k : Int} : J2 (rI0 fun i j => .bl (g i j)) (rp i) (rp k) (rp (g i k)) := fun v1 v2 H H0 s f1 f2 Q q => ⟨i, k, f1, f2, q _ H H0 (Nx.refl s) rfl⟩
variable {i k : Int}
theorem ev_add (h1 : Ev X ρ ω a (rp i)) (h2 : Ev X ρ ω b (rp k)) : Ev X ρ ω (.BinOp a .Add b pos) (rp (i + k)) := ev_op op_add jI0 h1 h2
theorem ev_sub (h1 : Ev X ρ ω a (rp i)) (h2 : Ev X ρ ω b (rp k)) : Ev X ρ ω (.BinOp a .Sub b pos) (rp (i - k)) := ev_op op_sub jI0 h1 h2
theorem ev_mul (h1 : Ev X ρ ω a (rp i)) (h2 : Ev X ρ ω b (rp k)) (hc : CMul i k) : Ev X ρ ω (.BinOp a .Mult b pos) (rp (i * k)) := ev_op op_mul (jI hc) h1 h2
theorem ev_mod (h1 : Ev X ρ ω a (rp i)) (h2 : Ev X ρ ω b (rp k)) (hc : 0 < k) : Ev X ρ ω (.BinOp a .Mod b pos) (rp (i % k)) := ev_op op_mod (jI (C := fun _ j => 0 < j) hc) h1 h2
theorem ev_fdiv (h1 : Ev X ρ ω a (rp i)) (h2 : Ev X ρ ω b (rp k)) (hc : CDiv i k) : Ev X ρ ω (.BinOp a .FloorDiv b pos) (rp (i / k)) := ev_op op_fdiv (jI hc) h1 h2
theorem ev_lt (h1 : Ev X ρ ω a (rp i)) (h2 : Ev X ρ ω b (rp k)) : Ev X ρ ω (.Compare a [.Lt] [b] pos) (rp (decide (i < k))) := ev_cmp op_lt jB0 h1 h2 (nomark _)
theorem ev_le (h1 : Ev X ρ ω a (rp i)) (h2 : Ev X ρ ω b (rp k)) : Ev X ρ ω (.Compare a [.LtE] [b] pos) (rp (decide (i ≤ k))) := ev_cmp op_le jB0 h1 h2 (nomark _)
theorem ev_gt (h1 : Ev X ρ ω a (rp i)) (h2 : Ev X ρ ω b (rp k)) : Ev X ρ ω (.Compare a [.Gt] [b] pos) (rp (decide (k < i))) := ev_cmp op_gt jB0 h1 h2 (nomark _)
theorem ev_ge (h1 : Ev X ρ ω a (rp i)) (h2 : Ev X ρ ω b (rp k)) : Ev X ρ ω (.Compare a [.GtE] [b] pos) (rp (decide (k ≤ i))) := ev_cmp op_ge jB0 h1 h2 (nomark _)
/-- == of ints, bools, texts -/
class Sc (α : Type) extends R α where
  val : α → V
  dec : DecidableEq α
  rpv : ∀ a : α, rp a = valM (val a)
  scal : ∀ a b : α, L2.scal (val a) (val b) = true
  inj : ∀ a b : α, val a = val b → a = b
end
end DF

namespace DF
open R (rp)
open PySem L2

section
variable {X : Cx} {ρ : En} {ω : Ow} {e a b c : Expr} {es : List Expr} {P P1 P2 P3 : MP} {φ ψ : MO} {pos : Pos}
/-! ### tests, and, or, not, a if t else b -/
theorem et_cmp {op : CmpOp} {r : R2} {k : Bool} (ho : OpR X (compareOp op) r) (j : J2 r P1 P2 (rp k)) (h1 : Ev X ρ ω a P1) (h2 : Ev X ρ ω b P2) (hm : behindInMarks op b = false) : EvT X ρ ω (.Compare a [op] [b] pos) k := .mk fun B B0 σ H H0 S Q q =>
  wT_of (pt_cmpR ho pe_w pe_w hm) (h1.run B B0 σ H H0 S _ fun v1 H1 H01 n1 f1 => h2.run B B0 σ H1 H01 (S.step n1) _ fun v2 H2 H02 n2 f2 => j v1 v2 H2 H02 n2.c (P1.mono n2.b f1) f2 _ fun v H3 H03 n3 f3 => ⟨k, f3, q H3 H03 ((n1.trans n2).trans n3)⟩)
theorem et_val {k : Bool} (h : Ev X ρ ω e (rp k)) (he : ∀ whole, isTrue e X.env whole = (do let v ← whole; standAt e.pos; holding [v] (truthy v)) := by exact it_plain rfl) : EvT X ρ ω e k := .mk fun B B0 σ H H0 S Q q =>
  wT_of (pt_val pe_w he) (h.run B B0 σ H H0 S _ fun v H' H0' n f => ⟨k, f, q H' H0' n⟩)
theorem et_w {k : Bool} (h : EvW X ρ ω e k) : EvT X ρ ω e k := .mk fun B B0 σ H H0 S Q q => wT_of (PW.pt pw_w) (h.run B B0 σ H H0 S Q q)
theorem et_not {k : Bool} (h : EvT X ρ ω a k) : EvT X ρ ω (.UnaryOp .Not a pos) (!k) := .mk fun B B0 σ H H0 S Q q => wT_of (pt_not pt_w) (h.run B B0 σ H H0 S _ fun H' H0' n => q H' H0' n)
theorem ew_and1 {k : Bool} (h : EvT X ρ ω a k) : EvW X ρ ω (.BoolOp .And [a] pos) k := .mk fun B B0 σ H H0 S Q q => wW_of (pw_and1 pt_w) (h.run B B0 σ H H0 S Q q)
theorem ew_or1 {k : Bool} (h : EvT X ρ ω a k) : EvW X ρ ω (.BoolOp .Or [a] pos) k := .mk fun B B0 σ H H0 S Q q => wW_of (pw_or1 pt_w) (h.run B B0 σ H H0 S Q q)
theorem ew_and {k l : Bool} {rest : List Expr} (h1 : EvT X ρ ω a k) (h2 : k = true → EvW X ρ ω (.BoolOp .And (b :: rest) pos) l) : EvW X ρ ω (.BoolOp .And (a :: b :: rest) pos) (k && l) := .mk fun B B0 σ H H0 S Q q =>
  wW_of (pw_and pt_w pw_w) (h1.run B B0 σ H H0 S _ fun H1 H01 n1 => by
    cases k with
    | true =>
      show wW _ _ _ _ _
      exact (h2 rfl).run B B0 σ H1 H01 (S.step n1) _ fun H2 H02 n2 => q H2 H02 (n1.trans n2)
    | false => exact q H1 H01 n1)
theorem ew_or {k l : Bool} {rest : List Expr} (h1 : EvT X ρ ω a k) (h2 : k = false → EvW X ρ ω (.BoolOp .Or (b :: rest) pos) l) : EvW X ρ ω (.BoolOp .Or (a :: b :: rest) pos) (k || l) := .mk fun B B0 σ H H0 S Q q =>
  wW_of (pw_or pt_w pw_w) (h1.run B B0 σ H H0 S _ fun H1 H01 n1 => by
    cases k with
    | false =>
      show wW _ _ _ _ _
      exact (h2 rfl).run B B0 σ H1 H01 (S.step n1) _ fun H2 H02 n2 => q H2 H02 (n1.trans n2)
    | true => exact q H1 H01 n1)
/-- .. as values -/
theorem ev_not {k : Bool} (h : Ev X ρ ω a (rp k)) : Ev X ρ ω (.UnaryOp .Not a pos) (rp (!k)) := .mk fun B B0 σ H H0 S Q q => wE_of (pe_not pe_w) (h.run B B0 σ H H0 S _ fun v H' H0' n f => ⟨k, f, q _ H' H0' n rfl⟩)
theorem ev_one {op} (h : Ev X ρ ω a P) : Ev X ρ ω (.BoolOp op [a] pos) P := .mk fun B B0 σ H H0 S Q q => wE_of (pe_one pe_w) (h.run B B0 σ H H0 S Q q)
theorem ev_and {k l : Bool} {rest : List Expr} (h1 : Ev X ρ ω a (rp k)) (h2 : k = true → Ev X ρ ω (.BoolOp .And (b :: rest) pos) (rp l)) : Ev X ρ ω (.BoolOp .And (a :: b :: rest) pos) (rp (k && l)) := .mk fun B B0 σ H H0 S Q q =>
  wE_of (pe_and pe_w pe_w) (h1.run B B0 σ H H0 S _ fun v H1 H01 n1 f1 => ⟨k, f1, by
    cases k with
    | true =>
      show wE _ _ _ _ _
      exact (h2 rfl).run B B0 σ H1 H01 (S.step n1) _ fun v H2 H02 n2 f2 => q v H2 H02 (n1.trans n2) f2
    | false => exact q _ H1 H01 n1 rfl⟩)
theorem ev_or {k l : Bool} {rest : List Expr} (h1 : Ev X ρ ω a (rp k)) (h2 : k = false → Ev X ρ ω (.BoolOp .Or (b :: rest) pos) (rp l)) : Ev X ρ ω (.BoolOp .Or (a :: b :: rest) pos) (rp (k || l)) := .mk fun B B0 σ H H0 S Q q =>
  wE_of (pe_or pe_w pe_w) (h1.run B B0 σ H H0 S _ fun v H1 H01 n1 f1 => ⟨k, f1, by
    cases k with
    | false =>
      show wE _ _ _ _ _
      exact (h2 rfl).run B B0 σ H1 H01 (S.step n1) _ fun v H2 H02 n2 f2 => q v H2 H02 (n1.trans n2) f2
    | true => exact q _ H1 H01 n1 rfl⟩)
theorem ev_if {k : Bool} (h : EvT X ρ ω c k) (h1 : k = true → Ev X ρ ω a P) (h2 : k = false → Ev X ρ ω b P) : Ev X ρ ω (.IfExp c a b pos) P := .mk fun B B0 σ H H0 S Q q =>
  wE_of (pe_ifExp pt_w pe_w pe_w) (h.run B B0 σ H H0 S _ fun H1 H01 n1 => by
    cases k with
    | true =>
      show wE _ _ _ _ _
      exact (h1 rfl).run B B0 σ H1 H01 (S.step n1) _ fun v H2 H02 n2 f2 => q v H2 H02 (n1.trans n2) f2
    | false =>
      show wE _ _ _ _ _
      exact (h2 rfl).run B B0 σ H1 H01 (S.step n1) _ fun v H2 H02 n2 f2 => q v H2 H02 (n1.trans n2) f2)
theorem evn_if {k : Bool} (h : EvT X ρ ω c k) (h1 : k = true → EvN X ρ ω a φ) (h2 : k = false → EvN X ρ ω b φ) : EvN X ρ ω (.IfExp c a b pos) φ := .mk fun B B0 σ H H0 S Q q =>
  wE_of (pe_ifExp pt_w pe_w pe_w) (h.run B B0 σ H H0 S _ fun H1 H01 n1 => by
    cases k with
    | true =>
      show wE _ _ _ _ _
      exact (h1 rfl).run B B0 σ H1 H01 (S.step n1) _ fun p o H2 H02 n2 hp => q p o H2 H02 (n1.trans n2) (n1.a.free hp)
    | false =>
      show wE _ _ _ _ _
      exact (h2 rfl).run B B0 σ H1 H01 (S.step n1) _ fun p o H2 H02 n2 hp => q p o H2 H02 (n1.trans n2) (n1.a.free hp))
theorem rp_ite {α : Type} [R α] {c : Bool} {x y : α} : (if c = true then rp x else rp y) = rp (if c = true then x else y) := by cases c <;> rfl
/-- a < b < c and its like, of ints -/
theorem ev_chain {op op' : CmpOp} {g g' : Int → Int → Bool} {i j k : Int} (ho : OpR X (compareOp op) (rI0 fun i j => .bl (g i j))) (ho' : OpR X (compareOp op') (rI0 fun i j => .bl (g' i j)))
    (h1 : Ev X ρ ω a (rp i)) (h2 : Ev X ρ ω b (rp j)) (h3 : g i j = true → Ev X ρ ω c (rp k)) (hm : lastMarks [op, op'] [b, c] = false := by exact lm_plain rfl) : EvT X ρ ω (.Compare a [op, op'] [b, c] pos) (g i j && g' j k) := .mk fun B B0 σ H H0 S Q q =>
  wT_of (pt_chain ho ho' pe_w pe_w pe_w hm) (h1.run B B0 σ H H0 S _ fun v1 H1 H01 n1 f1 => h2.run B B0 σ H1 H01 (S.step n1) _ fun v2 H2 H02 n2 f2 => ⟨i, j, f1, f2, g i j, rfl, by
    cases hg : g i j with
    | true =>
      refine iteT ((h3 hg).run B B0 σ H2 H02 (S.step (n1.trans n2)) _ fun v3 H3 H03 n3 f3 => ⟨j, k, f2, f3, g' j k, rfl, ?_⟩)
      have := q H3 H03 ((n1.trans n2).trans n3)
      rw [hg, Bool.true_and] at this
      exact this
    | false =>
      refine iteF ⟨false, rfl, ?_⟩
      have := q H2 H02 (n1.trans n2)
      rw [hg, Bool.false_and] at this
      exact this⟩)

theorem et_lt {i k : Int} (h1 : Ev X ρ ω a (rp i)) (h2 : Ev X ρ ω b (rp k)) : EvT X ρ ω (.Compare a [.Lt] [b] pos) (decide (i < k)) := et_cmp op_lt jB0 h1 h2 (nomark _)
theorem et_le {i k : Int} (h1 : Ev X ρ ω a (rp i)) (h2 : Ev X ρ ω b (rp k)) : EvT X ρ ω (.Compare a [.LtE] [b] pos) (decide (i ≤ k)) := et_cmp op_le jB0 h1 h2 (nomark _)
theorem et_gt {i k : Int} (h1 : Ev X ρ ω a (rp i)) (h2 : Ev X ρ ω b (rp k)) : EvT X ρ ω (.Compare a [.Gt] [b] pos) (decide (k < i)) := et_cmp op_gt jB0 h1 h2 (nomark _)
theorem et_ge {i k : Int} (h1 : Ev X ρ ω a (rp i)) (h2 : Ev X ρ ω b (rp k)) : EvT X ρ ω (.Compare a [.GtE] [b] pos) (decide (k ≤ i)) := et_cmp op_ge jB0 h1 h2 (nomark _)
/-! ### is None -/
theorem et_isN {x : V} (h : Ev X ρ ω a (valM x)) {j : Nat} {pos' : Pos} : EvT X ρ ω (.Compare a [.Is] [.Constant .none j pos'] pos) (decide (x = .non)) := .mk fun B B0 σ H H0 S Q q =>
  wT_of (pt_cmpR op_isN pe_w pe_non (nomark _)) (h.run B B0 σ H H0 S _ fun v H' H0' n f => by
    have f : v = x := f
    subst f
    exact ⟨rfl, _, rfl, q H' H0' n⟩)
theorem ev_isN {x : V} (h : Ev X ρ ω a (valM x)) {j : Nat} {pos' : Pos} : Ev X ρ ω (.Compare a [.Is] [.Constant .none j pos'] pos) (rp (decide (x = .non))) := .mk fun B B0 σ H H0 S Q q =>
  wE_of (pe_cmpR op_isN pe_w pe_non (nomark _)) (h.run B B0 σ H H0 S _ fun v H' H0' n f => by
    have f : v = x := f
    subst f
    exact ⟨rfl, q _ H' H0' n rfl⟩)
/-- .. by what is known of the value alone -/
theorem ev_isNf {k : Bool} (h : Ev X ρ ω a P) (hk : ∀ H v, P.f H v → decide (v = .non) = k) {j : Nat} {pos' : Pos} : Ev X ρ ω (.Compare a [.Is] [.Constant .none j pos'] pos) (rp k) := .mk fun B B0 σ H H0 S Q q =>
  wE_of (pe_cmpR op_isN pe_w pe_non (nomark _)) (h.run B B0 σ H H0 S _ fun v H' H0' n f => ⟨rfl, by rw [hk _ _ f]; exact q _ H' H0' n rfl⟩)
end

/-! ### data: what is compared -/
class Dt (α : Type) extends R α where
  toD : α → PyData
  dep : Nat
  ok : α → Prop
  dp : ∀ (K : PySem.W.Frag) (H : Hp) (v : V) (a : α), (rp a).f H v → Dp K H v (toD a)
  lay : ∀ a, ok a → (toD a).canLay0 = true
  hdep : ∀ a, (toD a).depth ≤ dep
  eqv : ∀ a b, PyData.eqv (toD a) (toD b) = true ↔ a = b
theorem Dt.eqd {α : Type} [Dt α] (a b : α) [Decidable (a = b)] : PyData.eqv (Dt.toD a) (Dt.toD b) = decide (a = b) := by
  rw [Bool.eq_iff_iff, Dt.eqv, decide_eq_true_iff]
open Dt (toD)
instance : Dt Int where
  toD := .int
  dep := 0
  ok := fun _ => True
  dp := fun K H v a h => by have h : v = .int a := h; subst h; exact .int a
  lay := fun a _ => by simp [PyData.canLay0]
  hdep := fun a => by simp [PyData.depth]
  eqv := fun a b => by simp only [PyData.eqv]; exact beq_iff_eq
instance : Dt Bool where
  toD := .bool
  dep := 0
  ok := fun _ => True
  dp := fun K H v a h => by have h : v = .bl a := h; subst h; exact .bl a
  lay := fun a _ => by simp [PyData.canLay0]
  hdep := fun a => by simp [PyData.depth]
  eqv := fun a b => by simp only [PyData.eqv]; exact beq_iff_eq
instance : Dt Str where
  toD := .str
  dep := 0
  ok := fun x => PySem.PyData.strOk x = true
  dp := fun K H v a h => by have h : v = .str a := h; subst h; exact .str a
  lay := fun a h => by simp only [PyData.canLay0]; exact h
  hdep := fun a => by simp [PyData.depth]
  eqv := fun a b => by simp only [PyData.eqv]; exact beq_iff_eq
theorem dpAll_of {α : Type} [Dt α] {K : PySem.W.Frag} {H : Hp} : ∀ {vs : List V} {xs : List α}, All2 H vs (xs.map rp) → DpAll K H vs (xs.map toD)
  | _, [], h => by cases h; exact .nil
  | _, x :: xs, h => by
    cases h with
    | cons h1 h2 => exact .cons (Dt.dp K H _ x h1) (dpAll_of h2)
theorem layAll {α : Type} [Dt α] : ∀ (xs : List α), (∀ x ∈ xs, Dt.ok x) → PyData.canLayAll0 (xs.map toD) = true
  | [], _ => by simp [PyData.canLayAll0]
  | x :: xs, h => by
    simp only [List.map_cons, PyData.canLayAll0, Bool.and_eq_true]
    exact ⟨Dt.lay x (h x (by simp)), layAll xs fun y hy => h y (by simp [hy])⟩
theorem depAll {α : Type} [Dt α] : ∀ (xs : List α), PyData.depthAll (xs.map toD) ≤ Dt.dep α
  | [] => by simp [PyData.depthAll]
  | x :: xs => by
    have h1 := depAll xs
    have h2 := Dt.hdep x
    simp only [List.map_cons, PyData.depthAll]
    omega
theorem eqvAll {α : Type} [Dt α] : ∀ (xs ys : List α), PyData.eqvAll (xs.map toD) (ys.map toD) = true ↔ xs = ys
  | [], [] => by simp [PyData.eqvAll]
  | [], y :: ys => by simp [PyData.eqvAll]
  | x :: xs, [] => by simp [PyData.eqvAll]
  | x :: xs, y :: ys => by
    simp only [List.map_cons, PyData.eqvAll, Bool.and_eq_true, List.cons.injEq]
    rw [Dt.eqv, eqvAll xs ys]
instance {α : Type} [Dt α] : Dt (List α) where
  toD := fun xs => .list (xs.map toD)
  dep := Dt.dep α + 1
  ok := fun xs => ∀ x ∈ xs, Dt.ok x
  dp := fun K H v xs h => by
    obtain ⟨a, o, rfl, ha, vs, rfl, h2⟩ := h
    exact .lst (SqL.of ha) (dpAll_of h2)
  lay := fun xs h => by simp only [PyData.canLay0]; exact layAll xs h
  hdep := fun xs => by
    have h1 := depAll xs
    simp only [PyData.depth]
    omega
  eqv := fun xs ys => by simp only [PyData.eqv]; exact eqvAll xs ys
instance {α β : Type} [Dt α] [Dt β] : Dt (α × β) where
  toD := fun x => .tuple [toD x.1, toD x.2]
  dep := max (Dt.dep α) (Dt.dep β) + 1
  ok := fun x => Dt.ok x.1 ∧ Dt.ok x.2
  dp := fun K H v x h => by
    obtain ⟨a, vs, rfl, ha, h2⟩ := h
    cases h2 with
    | cons q1 h2 =>
      cases h2 with
      | cons q2 h2 =>
        cases h2
        exact .tup (SqT.of ha) (.cons (Dt.dp K H _ x.1 q1) (.cons (Dt.dp K H _ x.2 q2) .nil))
  lay := fun x h => by
    simp only [PyData.canLay0, PyData.canLayAll0, Bool.and_eq_true]
    exact ⟨Dt.lay x.1 h.1, Dt.lay x.2 h.2, trivial⟩
  hdep := fun x => by
    have h1 := Dt.hdep x.1
    have h2 := Dt.hdep x.2
    simp only [PyData.depth, PyData.depthAll]
    omega
  eqv := fun x y => by
    obtain ⟨a, b⟩ := x
    obtain ⟨a', b'⟩ := y
    simp only [PyData.eqv, PyData.eqvAll, Bool.and_eq_true, Prod.mk.injEq, and_true]
    rw [Dt.eqv, Dt.eqv]
theorem shaped_of {α : Type} [Dt α] (x : α) (h : Dt.ok x) (hd : Dt.dep α ≤ 64) : SeqAt.shaped (toD x) = true := by
  have h2 := Dt.hdep x
  show ((toD x).canLay0 && decide ((toD x).depth ≤ 64)) = true
  rw [Bool.and_eq_true]
  exact ⟨Dt.lay x h, decide_eq_true (by omega)⟩
mutual
theorem Dp.mono {K : PySem.W.Frag} {H H' : Hp} (s : Same H H') : ∀ (d : PyData) (v : V), Dp K H v d → Dp K H' v d
  | .none, _, h => by cases h; exact .non
  | .bool b, _, h => by cases h; exact .bl b
  | .int i, _, h => by cases h; exact .int i
  | .str x, _, h => by cases h; exact .str x
  | .list ds, _, h => by
    cases h with
    | lst hs ha => exact .lst (s.seq hs) (DpAll.mono s ds _ ha)
  | .tuple ds, _, h => by
    cases h with
    | tup hs ha =>
      refine .tup ?_ (DpAll.mono s ds _ ha)
      rcases hs with (hs | ⟨o, hs⟩) | hs
      · exact .inl (.inl (s _ _ hs))
      · exact .inl (.inr ⟨o, s _ _ hs⟩)
      · exact .inr hs
  | .dict _, _, h => by cases h
theorem DpAll.mono {K : PySem.W.Frag} {H H' : Hp} (s : Same H H') : ∀ (ds : List PyData) (vs : List V), DpAll K H vs ds → DpAll K H' vs ds
  | [], _, h => by cases h; exact .nil
  | d :: ds, _, h => by
    cases h with
    | cons h1 h2 => exact .cons (Dp.mono s d _ h1) (DpAll.mono s ds _ h2)
end
/-- it evaluates to a thing that reads as d -/
structure EvD (X : Cx) (ρ : En) (ω : Ow) (e : Expr) (d : PyData) : Prop where
  run : ∀ B B0 σ H H0, Sat B B0 ρ ω σ H H0 → ∀ Q : VK, (∀ v H' H0', Nx H H0 H' H0' → Dp X.K H' v d → Q v H') → wE X e σ H Q
section
variable {X : Cx} {ρ : En} {ω : Ow} {e a b c : Expr} {es : List Expr} {P P1 P2 P3 : MP} {φ ψ : MO} {pos : Pos} {α β : Type}
theorem Ev.evd [Dt α] {x : α} (h : Ev X ρ ω e (rp x)) : EvD X ρ ω e (toD x) := .mk fun B B0 σ H H0 S Q q => h.run B B0 σ H H0 S Q fun v H' H0' n f => q v H' H0' n (Dp.mono n.c _ _ (Dt.dp X.K H0' v x f))
theorem EvC.evd [Dt α] {xs : List α} (h : EvC X ρ ω e (lsO xs)) : EvD X ρ ω e (toD xs) := .mk fun B B0 σ H H0 S Q q => h.run B B0 σ H H0 S Q fun p o H' H0' n h' ⟨vs, e1, f⟩ => q (.ref p) H' H0' n (by
  subst e1
  exact .lst (SqL.of h') (DpAll.mono n.c _ _ (dpAll_of f)))
theorem EvD.cast {d d' : PyData} (h : EvD X ρ ω e d) (q : d = d') : EvD X ρ ω e d' := q ▸ h
theorem ev_eqD {d d' : PyData} (hu : X.A.units + 64 < cLine) (h1 : EvD X ρ ω a d) (h2 : EvD X ρ ω b d') (s1 : SeqAt.shaped d = true) (s2 : SeqAt.shaped d' = true) : Ev X ρ ω (.Compare a [.Eq] [b] pos) (rp (PyData.eqv d d')) := .mk fun B B0 σ H H0 S Q q =>
  wE_of (pe_cmpR (op_eqD hu) pe_w pe_w (nomark _)) (h1.run B B0 σ H H0 S _ fun v1 H1 H01 n1 f1 => h2.run B B0 σ H1 H01 (S.step n1) _ fun v2 H2 H02 n2 f2 => ⟨d, d', Dp.mono n2.a _ _ f1, f2, s1, s2, q _ H2 H02 (n1.trans n2) rfl⟩)
theorem ev_neD {d d' : PyData} (hu : X.A.units + 64 < cLine) (h1 : EvD X ρ ω a d) (h2 : EvD X ρ ω b d') (s1 : SeqAt.shaped d = true) (s2 : SeqAt.shaped d' = true) : Ev X ρ ω (.Compare a [.NotEq] [b] pos) (rp (!PyData.eqv d d')) := .mk fun B B0 σ H H0 S Q q =>
  wE_of (pe_cmpR (op_neD hu) pe_w pe_w (nomark _)) (h1.run B B0 σ H H0 S _ fun v1 H1 H01 n1 f1 => h2.run B B0 σ H1 H01 (S.step n1) _ fun v2 H2 H02 n2 f2 => ⟨d, d', Dp.mono n2.a _ _ f1, f2, s1, s2, q _ H2 H02 (n1.trans n2) rfl⟩)
theorem ev_inD {d : PyData} {ds : List PyData} (hu : X.A.units + 65 < cLine) (h1 : EvD X ρ ω a d) (h2 : EvD X ρ ω b (.list ds)) (s1 : SeqAt.shaped d = true) (s2 : SeqAt.shaped (.list ds) = true) (hm : behindInMarks .In b = false) : Ev X ρ ω (.Compare a [.In] [b] pos) (rp (ds.any fun z => PyData.eqv z d)) := .mk fun B B0 σ H H0 S Q q =>
  wE_of (pe_cmpR (op_inD hu) pe_w pe_w hm) (h1.run B B0 σ H H0 S _ fun v1 H1 H01 n1 f1 => h2.run B B0 σ H1 H01 (S.step n1) _ fun v2 H2 H02 n2 f2 => ⟨d, ds, Dp.mono n2.a _ _ f1, f2, s1, s2, q _ H2 H02 (n1.trans n2) rfl⟩)
theorem ev_niD {d : PyData} {ds : List PyData} (hu : X.A.units + 65 < cLine) (h1 : EvD X ρ ω a d) (h2 : EvD X ρ ω b (.list ds)) (s1 : SeqAt.shaped d = true) (s2 : SeqAt.shaped (.list ds) = true) (hm : behindInMarks .NotIn b = false) : Ev X ρ ω (.Compare a [.NotIn] [b] pos) (rp (!ds.any fun z => PyData.eqv z d)) := .mk fun B B0 σ H H0 S Q q =>
  wE_of (pe_cmpR (op_notInD hu) pe_w pe_w hm) (h1.run B B0 σ H H0 S _ fun v1 H1 H01 n1 f1 => h2.run B B0 σ H1 H01 (S.step n1) _ fun v2 H2 H02 n2 f2 => ⟨d, ds, Dp.mono n2.a _ _ f1, f2, s1, s2, q _ H2 H02 (n1.trans n2) rfl⟩)
theorem et_eqD {d d' : PyData} (hu : X.A.units + 64 < cLine) (h1 : EvD X ρ ω a d) (h2 : EvD X ρ ω b d') (s1 : SeqAt.shaped d = true) (s2 : SeqAt.shaped d' = true) : EvT X ρ ω (.Compare a [.Eq] [b] pos) (PyData.eqv d d') := .mk fun B B0 σ H H0 S Q q =>
  wT_of (pt_cmpR (op_eqD hu) pe_w pe_w (nomark _)) (h1.run B B0 σ H H0 S _ fun v1 H1 H01 n1 f1 => h2.run B B0 σ H1 H01 (S.step n1) _ fun v2 H2 H02 n2 f2 => ⟨d, d', Dp.mono n2.a _ _ f1, f2, s1, s2, _, rfl, q H2 H02 (n1.trans n2)⟩)
theorem et_neD {d d' : PyData} (hu : X.A.units + 64 < cLine) (h1 : EvD X ρ ω a d) (h2 : EvD X ρ ω b d') (s1 : SeqAt.shaped d = true) (s2 : SeqAt.shaped d' = true) : EvT X ρ ω (.Compare a [.NotEq] [b] pos) (!PyData.eqv d d') := .mk fun B B0 σ H H0 S Q q =>
  wT_of (pt_cmpR (op_neD hu) pe_w pe_w (nomark _)) (h1.run B B0 σ H H0 S _ fun v1 H1 H01 n1 f1 => h2.run B B0 σ H1 H01 (S.step n1) _ fun v2 H2 H02 n2 f2 => ⟨d, d', Dp.mono n2.a _ _ f1, f2, s1, s2, _, rfl, q H2 H02 (n1.trans n2)⟩)
theorem et_inD {d : PyData} {ds : List PyData} (hu : X.A.units + 65 < cLine) (h1 : EvD X ρ ω a d) (h2 : EvD X ρ ω b (.list ds)) (s1 : SeqAt.shaped d = true) (s2 : SeqAt.shaped (.list ds) = true) (hm : behindInMarks .In b = false) : EvT X ρ ω (.Compare a [.In] [b] pos) (ds.any fun z => PyData.eqv z d) := .mk fun B B0 σ H H0 S Q q =>
  wT_of (pt_cmpR (op_inD hu) pe_w pe_w hm) (h1.run B B0 σ H H0 S _ fun v1 H1 H01 n1 f1 => h2.run B B0 σ H1 H01 (S.step n1) _ fun v2 H2 H02 n2 f2 => ⟨d, ds, Dp.mono n2.a _ _ f1, f2, s1, s2, _, rfl, q H2 H02 (n1.trans n2)⟩)
theorem et_niD {d : PyData} {ds : List PyData} (hu : X.A.units + 65 < cLine) (h1 : EvD X ρ ω a d) (h2 : EvD X ρ ω b (.list ds)) (s1 : SeqAt.shaped d = true) (s2 : SeqAt.shaped (.list ds) = true) (hm : behindInMarks .NotIn b = false) : EvT X ρ ω (.Compare a [.NotIn] [b] pos) (!ds.any fun z => PyData.eqv z d) := .mk fun B B0 σ H H0 S Q q =>
  wT_of (pt_cmpR (op_notInD hu) pe_w pe_w hm) (h1.run B B0 σ H H0 S _ fun v1 H1 H01 n1 f1 => h2.run B B0 σ H1 H01 (S.step n1) _ fun v2 H2 H02 n2 f2 => ⟨d, ds, Dp.mono n2.a _ _ f1, f2, s1, s2, _, rfl, q H2 H02 (n1.trans n2)⟩)
theorem any_eqv [Dt α] (x : α) : ∀ (xs : List α) [Decidable (x ∈ xs)], ((xs.map toD).any fun z => PyData.eqv z (toD x)) = decide (x ∈ xs) := fun xs _ => by
  rw [Bool.eq_iff_iff, decide_eq_true_iff, List.any_eq_true]
  constructor
  · rintro ⟨d, hd, he⟩
    obtain ⟨y, hy, rfl⟩ := List.mem_map.mp hd
    rw [← (Dt.eqv y x).mp he]; exact hy
  · intro h
    exact ⟨_, List.mem_map.mpr ⟨x, h, rfl⟩, (Dt.eqv x x).mpr rfl⟩
/-- == of two things of one kind -/
theorem ev_eq [Dt α] {x y : α} [Decidable (x = y)] (h1 : EvD X ρ ω a (toD x)) (h2 : EvD X ρ ω b (toD y)) (hu : X.A.units + 64 < cLine) (o1 : Dt.ok x) (o2 : Dt.ok y) (hd : Dt.dep α ≤ 64) : Ev X ρ ω (.Compare a [.Eq] [b] pos) (rp (decide (x = y))) :=
  (ev_eqD hu h1 h2 (shaped_of x o1 hd) (shaped_of y o2 hd)).cast (by rw [Dt.eqd])
theorem ev_ne [Dt α] {x y : α} [Decidable (x = y)] (h1 : EvD X ρ ω a (toD x)) (h2 : EvD X ρ ω b (toD y)) (hu : X.A.units + 64 < cLine) (o1 : Dt.ok x) (o2 : Dt.ok y) (hd : Dt.dep α ≤ 64) : Ev X ρ ω (.Compare a [.NotEq] [b] pos) (rp (!decide (x = y))) :=
  (ev_neD hu h1 h2 (shaped_of x o1 hd) (shaped_of y o2 hd)).cast (by rw [Dt.eqd])
theorem ev_in [Dt α] {x : α} {xs : List α} [Decidable (x ∈ xs)] (h1 : EvD X ρ ω a (toD x)) (h2 : EvD X ρ ω b (toD xs)) (hu : X.A.units + 65 < cLine) (o1 : Dt.ok x) (o2 : Dt.ok xs) (hd : Dt.dep α + 1 ≤ 64) (hm : behindInMarks .In b = false) : Ev X ρ ω (.Compare a [.In] [b] pos) (rp (decide (x ∈ xs))) :=
  (ev_inD hu h1 h2 (shaped_of x o1 (by omega)) (shaped_of xs o2 hd) hm).cast (by rw [any_eqv])
theorem ev_ni [Dt α] {x : α} {xs : List α} [Decidable (x ∈ xs)] (h1 : EvD X ρ ω a (toD x)) (h2 : EvD X ρ ω b (toD xs)) (hu : X.A.units + 65 < cLine) (o1 : Dt.ok x) (o2 : Dt.ok xs) (hd : Dt.dep α + 1 ≤ 64) (hm : behindInMarks .NotIn b = false) : Ev X ρ ω (.Compare a [.NotIn] [b] pos) (rp (!decide (x ∈ xs))) :=
  (ev_niD hu h1 h2 (shaped_of x o1 (by omega)) (shaped_of xs o2 hd) hm).cast (by rw [any_eqv])

theorem et_eq [Dt α] {x y : α} [Decidable (x = y)] (h1 : EvD X ρ ω a (toD x)) (h2 : EvD X ρ ω b (toD y)) (hu : X.A.units + 64 < cLine) (o1 : Dt.ok x) (o2 : Dt.ok y) (hd : Dt.dep α ≤ 64) : EvT X ρ ω (.Compare a [.Eq] [b] pos) (decide (x = y)) :=
  (et_eqD hu h1 h2 (shaped_of x o1 hd) (shaped_of y o2 hd)).cast (by rw [Dt.eqd])
theorem et_ne [Dt α] {x y : α} [Decidable (x = y)] (h1 : EvD X ρ ω a (toD x)) (h2 : EvD X ρ ω b (toD y)) (hu : X.A.units + 64 < cLine) (o1 : Dt.ok x) (o2 : Dt.ok y) (hd : Dt.dep α ≤ 64) : EvT X ρ ω (.Compare a [.NotEq] [b] pos) (!decide (x = y)) :=
  (et_neD hu h1 h2 (shaped_of x o1 hd) (shaped_of y o2 hd)).cast (by rw [Dt.eqd])
theorem et_in [Dt α] {x : α} {xs : List α} [Decidable (x ∈ xs)] (h1 : EvD X ρ ω a (toD x)) (h2 : EvD X ρ ω b (toD xs)) (hu : X.A.units + 65 < cLine) (o1 : Dt.ok x) (o2 : Dt.ok xs) (hd : Dt.dep α + 1 ≤ 64) (hm : behindInMarks .In b = false) : EvT X ρ ω (.Compare a [.In] [b] pos) (decide (x ∈ xs)) :=
  (et_inD hu h1 h2 (shaped_of x o1 (by omega)) (shaped_of xs o2 hd) hm).cast (by rw [any_eqv])
theorem et_ni [Dt α] {x : α} {xs : List α} [Decidable (x ∈ xs)] (h1 : EvD X ρ ω a (toD x)) (h2 : EvD X ρ ω b (toD xs)) (hu : X.A.units + 65 < cLine) (o1 : Dt.ok x) (o2 : Dt.ok xs) (hd : Dt.dep α + 1 ≤ 64) (hm : behindInMarks .NotIn b = false) : EvT X ρ ω (.Compare a [.NotIn] [b] pos) (!decide (x ∈ xs)) :=
  (et_niD hu h1 h2 (shaped_of x o1 (by omega)) (shaped_of xs o2 hd) hm).cast (by rw [any_eqv])

/-! ### lists -/
theorem lsO_get {α : Type} [R α] {xs : List α} {H : Hp} {vs : List V} {j : Nat} {x : α} (h : All2 H vs (xs.map rp)) (e : xs[j]? = some x) : ∃ v, vs[j]? = some v ∧ (rp x).f H v := by
  have e' : (xs.map rp)[j]? = some (rp x) := by rw [List.getElem?_map, e]; rfl
  exact Paired.get h e'
theorem atI_of {xs : List V} {ys : List MP} {H : Hp} {i : Int} {P : MP} (h : All2 H xs ys) (e : atI ys i = some P) : ∃ v, atI xs i = some v ∧ P.f H v := by
  have hl : xs.length = ys.length := Paired.length h
  unfold atI at e ⊢
  rw [hl]
  cases hx : ixN ys.length i with
  | none => rw [hx] at e; cases e
  | some j =>
    rw [hx] at e
    exact Paired.get h e
theorem ev_ix {Ps : List MP} {i : Int} (h1 : EvC X ρ ω a (lsM Ps)) (h2 : Ev X ρ ω b (rp i)) (hi : atI Ps i = some P) (hs : PlainIx b) : Ev X ρ ω (.Subscript a b pos) P := .mk fun B B0 σ H H0 S Q q =>
  wE_of (pe_ix ix_list pe_w pe_w hs) (h1.run B B0 σ H H0 S _ fun p o H1 H01 n1 hp ⟨vs, e1, f1⟩ => h2.run B B0 σ H1 H01 (S.step n1) _ fun v2 H2 H02 n2 f2 => by
    subst e1
    obtain ⟨v, hv, f⟩ := atI_of (f1.mono n2.b) hi
    exact ⟨p, vs, i, v, rfl, f2, SqL.of (n2.a _ _ hp), hv, q v H2 H02 (n1.trans n2) f⟩)
theorem ev_ixT {Ps : List MP} (h1 : Ev X ρ ω a (tupM Ps)) {i : Int} (h2 : Ev X ρ ω b (rp i)) (hi : atI Ps i = some P) (hs : PlainIx b) : Ev X ρ ω (.Subscript a b pos) P := .mk fun B B0 σ H H0 S Q q =>
  wE_of (pe_ix ix_tup pe_w pe_w hs) (h1.run B B0 σ H H0 S _ fun v1 H1 H01 n1 ⟨p, vs, e1, hp, f1⟩ => h2.run B B0 σ H1 H01 (S.step n1) _ fun v2 H2 H02 n2 f2 => by
    obtain ⟨v, hv, f⟩ := atI_of (f1.mono n2.b) hi
    exact ⟨p, vs, i, v, e1, f2, SqT.of (n2.c _ _ (n2.b _ _ hp)), hv, q v H2 H02 (n1.trans n2) f⟩)
theorem ev_lst {Ps : List MP} (h : EvA X ρ ω es Ps) (hl : Ps.length ≤ 100000) : EvN X ρ ω (.List es pos) (lsM Ps) := .mk fun B B0 σ H H0 S Q q =>
  wE_of (pe_lst pa_w) (h.run B B0 σ H H0 S _ fun vs H1 H01 n1 f1 => ⟨by rw [Paired.length f1]; exact Nat.le_trans hl (by decide), fun p hp => q p _ _ H01 (n1.trans (Nx.fresh n1.c hp)) (n1.a.free hp) (n1.c.free hp) upd_same ⟨vs, rfl, f1⟩⟩)
theorem ev_tup {Ps : List MP} {k : Nat} (h : EvA X ρ ω es Ps) (hl : Ps.length ≤ 100000) : Ev X ρ ω (.Tuple es k pos) (tupM Ps) := .mk fun B B0 σ H H0 S Q q =>
  wE_of (pe_tup pa_w) (h.run B B0 σ H H0 S _ fun vs H1 H01 n1 f1 => ⟨by rw [Paired.length f1]; exact Nat.le_trans hl (by decide), fun p hp => by
    have n2 := Nx.new (o := .tup vs) n1.c hp
    exact q (.ref p) _ _ (n1.trans n2) ⟨p, vs, rfl, upd_same, f1.mono n2.b⟩⟩)
end
end DF

namespace DF
open R (rp)
open Dt (toD)
open PySem L2

/-! ### 5. built-ins -/
/-- the built-ins' names stand for the built-ins -/
def Bl (mg : Str → Option Value) : Prop := ∀ x ∈ (["len", "range", "abs", "all", "any", "sorted", "min", "max", "sum", "int", "str", "list", "set", "isinstance", "enumerate", "zip", "ValueError", "bool", "tuple"] : List Str), mg x = none
structure EvG (X : Cx) (ρ : En) (ω : Ow) (e : Expr) (A : V → Hp → Hp → Prop) : Prop where
  run : ∀ B B0 σ H H0, Sat B B0 ρ ω σ H H0 → ∀ Q : VK, (∀ v H' H0', Nx H H0 H' H0' → A v H' H0' → Q v H') → wE X e σ H Q
/-- what a rule for a call, a one-place operator gives -/
abbrev GoodV (P : MP) (H H0 : Hp) (Q : VK) : Prop := ∀ v H' H0', Nx H H0 H' H0' → P.f H0' v → Q v H'
abbrev GoodN (φ : MO) (H H0 : Hp) (Q : VK) : Prop := ∀ p o H' H0', Nx H H0 H' H0' → H p = none → H0' p = none → H' p = some o → φ.f H0' o → Q (.ref p) H'
theorem GoodN.step {φ : MO} {H H0 H1 H01 : Hp} {Q : VK} (n : Nx H H0 H1 H01) (q : GoodN φ H H0 Q) : GoodN φ H1 H01 Q := fun p o H' H0' n' hp => q p o H' H0' (n.trans n') (n.a.free hp)
theorem GoodV.step {P : MP} {H H0 H1 H01 : Hp} {Q : VK} (n : Nx H H0 H1 H01) (q : GoodV P H H0 Q) : GoodV P H1 H01 Q := fun v H' H0' n' => q v H' H0' (n.trans n')
section
variable {X : Cx} {ρ : En} {ω : Ow} {e a b c : Expr} {es : List Expr} {P P1 P2 P3 : MP} {φ ψ : MO} {pos p : Pos} {α β : Type} {x : Str} {id T : String} {r : List V → Hp → VK → Prop} {A : V → Hp → Hp → Prop}
theorem Ev.evg (h : Ev X ρ ω e P) : EvG X ρ ω e (fun v _ H0 => P.f H0 v) := .mk h.run
theorem EvC.evg (h : EvC X ρ ω e φ) : EvG X ρ ω e (fun v H H0 => ∃ p o, v = .ref p ∧ H p = some o ∧ φ.f H0 o) := .mk fun B B0 σ H H0 S Q q => h.run B B0 σ H H0 S Q fun p o H' H0' n h1 h2 => q _ H' H0' n ⟨p, o, rfl, h1, h2⟩
theorem EvD.evg {d : PyData} (h : EvD X ρ ω e d) : EvG X ρ ω e (fun v H _ => Dp X.K H v d) := .mk h.run
theorem g_cb1 (hc : CallR X (.builtin id) r) (hg : Gl X x) (hm : X.mg x = none) (hv : bootBuiltins x = some (.builtin id)) (h : EvG X ρ ω e A) (hn : x ≠ "__name__") (hdb : (x == ("__debug__" : Str)) = false)
    (he : starEach [e] X.env = [(false, eval e X.env)]) (j : ∀ v H H0, Same H0 H → A v H H0 → ∀ Q, GoodV P H H0 Q → r [v] H Q) : Ev X ρ ω (.Call (.Name x p) [e] [] pos) P := .mk fun B B0 σ H H0 S Q q =>
  wE_of (pe_callB hc hg hm hv (pa_cons pe_w pa_nil (by rw [he]; rfl)) hn hdb (by rw [he]; rfl) (by rfl)) (h.run B B0 σ H H0 S _ fun v H1 H01 n1 f1 => j v H1 H01 n1.c f1 Q (GoodV.step n1 q))
theorem g_cb1N (hc : CallR X (.builtin id) r) (hg : Gl X x) (hm : X.mg x = none) (hv : bootBuiltins x = some (.builtin id)) (h : EvG X ρ ω e A) (hn : x ≠ "__name__") (hdb : (x == ("__debug__" : Str)) = false)
    (he : starEach [e] X.env = [(false, eval e X.env)]) (j : ∀ v H H0, Same H0 H → A v H H0 → ∀ Q, GoodN φ H H0 Q → r [v] H Q) : EvN X ρ ω (.Call (.Name x p) [e] [] pos) φ := .mk fun B B0 σ H H0 S Q q =>
  wE_of (pe_callB hc hg hm hv (pa_cons pe_w pa_nil (by rw [he]; rfl)) hn hdb (by rw [he]; rfl) (by rfl)) (h.run B B0 σ H H0 S _ fun v H1 H01 n1 f1 => j v H1 H01 n1.c f1 Q (GoodN.step n1 q))
theorem g_ct1 (hc : CallR X (.type T) r) (hg : Gl X x) (hm : X.mg x = none) (hv : bootBuiltins x = some (.type T)) (h : EvG X ρ ω e A) (hn : x ≠ "__name__") (hdb : (x == ("__debug__" : Str)) = false)
    (he : starEach [e] X.env = [(false, eval e X.env)]) (j : ∀ v H H0, Same H0 H → A v H H0 → ∀ Q, GoodV P H H0 Q → r [v] H Q) : Ev X ρ ω (.Call (.Name x p) [e] [] pos) P := .mk fun B B0 σ H H0 S Q q =>
  wE_of (pe_callTy hc hg hm hv (pa_cons pe_w pa_nil (by rw [he]; rfl)) hn hdb (by rw [he]; rfl) (by rfl)) (h.run B B0 σ H H0 S _ fun v H1 H01 n1 f1 => j v H1 H01 n1.c f1 Q (GoodV.step n1 q))
theorem g_ct1N (hc : CallR X (.type T) r) (hg : Gl X x) (hm : X.mg x = none) (hv : bootBuiltins x = some (.type T)) (h : EvG X ρ ω e A) (hn : x ≠ "__name__") (hdb : (x == ("__debug__" : Str)) = false)
    (he : starEach [e] X.env = [(false, eval e X.env)]) (j : ∀ v H H0, Same H0 H → A v H H0 → ∀ Q, GoodN φ H H0 Q → r [v] H Q) : EvN X ρ ω (.Call (.Name x p) [e] [] pos) φ := .mk fun B B0 σ H H0 S Q q =>
  wE_of (pe_callTy hc hg hm hv (pa_cons pe_w pa_nil (by rw [he]; rfl)) hn hdb (by rw [he]; rfl) (by rfl)) (h.run B B0 σ H H0 S _ fun v H1 H01 n1 f1 => j v H1 H01 n1.c f1 Q (GoodN.step n1 q))
variable (B : Bl X.mg)
include B
theorem ev_len {Ps : List MP} (hg : Gl X "len") (h : EvC X ρ ω e (lsM Ps)) (he : starEach [e] X.env = [(false, eval e X.env)] := by exact se_one rfl) : Ev X ρ ω (.Call (.Name "len" p) [e] [] pos) (rp (Ps.length : Int)) :=
  g_cb1 call_len_seq hg (B _ (by decide +kernel)) PySem.boot_len h.evg (by decide +kernel) (by decide +kernel) he fun v H H0 s ⟨p, o, e1, hp, vs, e2, f⟩ Q q => by
    subst e2
    have hl := Paired.length f
    exact ⟨p, vs, by rw [e1], .inl (SqL.of hp), by rw [hl]; exact q _ H H0 (Nx.refl s) rfl⟩
theorem ev_lenL [R α] {xs : List α} (hg : Gl X "len") (h : EvC X ρ ω e (lsO xs)) (he : starEach [e] X.env = [(false, eval e X.env)] := by exact se_one rfl) : Ev X ρ ω (.Call (.Name "len" p) [e] [] pos) (rp (xs.length : Int)) :=
  (ev_len B hg h he).cast (by rw [List.length_map])
theorem ev_lenS {z : Str} (hg : Gl X "len") (h : Ev X ρ ω e (rp z)) (hz : z.length ≤ 100000) (he : starEach [e] X.env = [(false, eval e X.env)] := by exact se_one rfl) : Ev X ρ ω (.Call (.Name "len" p) [e] [] pos) (rp (z.length : Int)) :=
  g_cb1 call_len_str hg (B _ (by decide +kernel)) PySem.boot_len h.evg (by decide +kernel) (by decide +kernel) he fun v H H0 s f Q q => ⟨z, by rw [show v = .str z from f], Nat.le_trans hz (by decide), q _ H H0 (Nx.refl s) rfl⟩
theorem ev_abs {i : Int} (hg : Gl X "abs") (h : Ev X ρ ω e (rp i)) (he : starEach [e] X.env = [(false, eval e X.env)] := by exact se_one rfl) : Ev X ρ ω (.Call (.Name "abs" p) [e] [] pos) (rp (if i < 0 then -i else i)) :=
  g_cb1 call_abs hg (B _ (by decide +kernel)) (by decide +kernel) h.evg (by decide +kernel) (by decide +kernel) he fun v H H0 s f Q q => ⟨i, by rw [show v = .int i from f], q _ H H0 (Nx.refl s) rfl⟩
theorem ev_intB {k : Bool} (hg : Gl X "int") (h : Ev X ρ ω e (rp k)) (he : starEach [e] X.env = [(false, eval e X.env)] := by exact se_one rfl) : Ev X ρ ω (.Call (.Name "int" p) [e] [] pos) (rp (if k then 1 else 0 : Int)) :=
  g_ct1 call_int1 hg (B _ (by decide +kernel)) (by decide +kernel) h.evg (by decide +kernel) (by decide +kernel) he fun v H H0 s f Q q => .inr ⟨k, by rw [show v = .bl k from f], q _ H H0 (Nx.refl s) rfl⟩
theorem ev_intS {z : Str} {i : Int} (hg : Gl X "int") (h : Ev X ρ ω e (rp z)) (hz : PySem.intText? z = some i) (hl : z.length ≤ 640) (he : starEach [e] X.env = [(false, eval e X.env)] := by exact se_one rfl) : Ev X ρ ω (.Call (.Name "int" p) [e] [] pos) (rp i) :=
  g_ct1 call_int_str hg (B _ (by decide +kernel)) (by decide +kernel) h.evg (by decide +kernel) (by decide +kernel) he fun v H H0 s f Q q => ⟨z, i, by rw [show v = .str z from f], hz, hl, q _ H H0 (Nx.refl s) rfl⟩
theorem ev_strI {i : Int} (hg : Gl X "str") (h : Ev X ρ ω e (rp i)) (hz : i.natAbs.log2 < 1920) (he : starEach [e] X.env = [(false, eval e X.env)] := by exact se_one rfl) : Ev X ρ ω (.Call (.Name "str" p) [e] [] pos) (rp (toString i : Str)) :=
  g_ct1 call_str_int hg (B _ (by decide +kernel)) (by decide +kernel) h.evg (by decide +kernel) (by decide +kernel) he fun v H H0 s f Q q => ⟨i, by rw [show v = .int i from f], hz, q _ H H0 (Nx.refl s) rfl⟩
theorem evn_list {Ps : List MP} (hg : Gl X "list") (h : EvC X ρ ω e (lsM Ps)) (he : starEach [e] X.env = [(false, eval e X.env)] := by exact se_one rfl) : EvN X ρ ω (.Call (.Name "list" p) [e] [] pos) (lsM Ps) :=
  g_ct1N call_list_of hg (B _ (by decide +kernel)) (by decide +kernel) h.evg (by decide +kernel) (by decide +kernel) he fun v H H0 s ⟨p, o, e1, hp, vs, e2, f⟩ Q q => by
    subst e2
    exact ⟨p, vs, by rw [e1], .inl (SqL.of hp), fun l hl => q l _ _ H0 (Nx.fresh s hl) hl (s.free hl) upd_same ⟨vs, rfl, f⟩⟩
omit B
theorem bls_of {H : Hp} : ∀ {vs : List V} {bs : List Bool}, All2 H vs (bs.map rp) → vs = bs.map V.bl
  | _, [], h => by cases h; rfl
  | _, b :: bs, h => by
    cases h with
    | cons h1 h2 =>
      have h1 : _ = V.bl b := h1
      rw [h1, bls_of h2, List.map_cons]
theorem ints_of {H : Hp} : ∀ {vs : List V} {bs : List Int}, All2 H vs (bs.map rp) → vs = bs.map V.int
  | _, [], h => by cases h; rfl
  | _, b :: bs, h => by
    cases h with
    | cons h1 h2 =>
      have h1 : _ = V.int b := h1
      rw [h1, ints_of h2, List.map_cons]
theorem strs_of {H : Hp} : ∀ {vs : List V} {bs : List Str}, All2 H vs (bs.map rp) → vs = bs.map V.str
  | _, [], h => by cases h; rfl
  | _, b :: bs, h => by
    cases h with
    | cons h1 h2 =>
      have h1 : _ = V.str b := h1
      rw [h1, strs_of h2, List.map_cons]
theorem of_ints {H : Hp} : ∀ {bs : List Int}, All2 H (bs.map V.int) (bs.map rp)
  | [] => .nil
  | b :: bs => .cons rfl of_ints
include B
theorem ev_all {bs : List Bool} (hc : X.calm = true) (hg : Gl X "all") (h : EvC X ρ ω e (lsO bs)) (he : starEach [e] X.env = [(false, eval e X.env)] := by exact se_one rfl) : Ev X ρ ω (.Call (.Name "all" p) [e] [] pos) (rp (bs.all fun k => k)) :=
  g_cb1 (cr_all hc) hg (B _ (by decide +kernel)) (by decide +kernel) h.evg (by decide +kernel) (by decide +kernel) he fun v H H0 s ⟨p, o, e1, hp, vs, e2, f⟩ Q q => by
    subst e2
    exact ⟨p, bs, by rw [e1], by rw [← bls_of f]; exact SqL.of hp, q _ H H0 (Nx.refl s) rfl⟩
theorem ev_any {bs : List Bool} (hc : X.calm = true) (hg : Gl X "any") (h : EvC X ρ ω e (lsO bs)) (he : starEach [e] X.env = [(false, eval e X.env)] := by exact se_one rfl) : Ev X ρ ω (.Call (.Name "any" p) [e] [] pos) (rp (bs.any fun k => k)) :=
  g_cb1 (cr_any hc) hg (B _ (by decide +kernel)) (by decide +kernel) h.evg (by decide +kernel) (by decide +kernel) he fun v H H0 s ⟨p, o, e1, hp, vs, e2, f⟩ Q q => by
    subst e2
    exact ⟨p, bs, by rw [e1], by rw [← bls_of f]; exact SqL.of hp, q _ H H0 (Nx.refl s) rfl⟩
theorem ev_sum {ns : List Int} (hc : X.calm = true) (hg : Gl X "sum") (h : EvC X ρ ω e (lsO ns)) (he : starEach [e] X.env = [(false, eval e X.env)] := by exact se_one rfl) : Ev X ρ ω (.Call (.Name "sum" p) [e] [] pos) (rp ns.sum) :=
  g_cb1 (cr_sum hc) hg (B _ (by decide +kernel)) (by decide +kernel) h.evg (by decide +kernel) (by decide +kernel) he fun v H H0 s ⟨p, o, e1, hp, vs, e2, f⟩ Q q => by
    subst e2
    exact ⟨p, ns, by rw [e1], by rw [← ints_of f]; exact SqL.of hp, q _ H H0 (Nx.refl s) rfl⟩
theorem ev_minL {ns : List Int} {m : Int} (hc : X.calm = true) (hg : Gl X "min") (h : EvC X ρ ω e (lsO ns)) (hm : m ∈ ns) (hle : ∀ y ∈ ns, m ≤ y) (he : starEach [e] X.env = [(false, eval e X.env)] := by exact se_one rfl) : Ev X ρ ω (.Call (.Name "min" p) [e] [] pos) (rp m) :=
  g_cb1 (cr_min hc) hg (B _ (by decide +kernel)) (by decide +kernel) h.evg (by decide +kernel) (by decide +kernel) he fun v H H0 s ⟨p, o, e1, hp, vs, e2, f⟩ Q q => by
    subst e2
    refine ⟨p, ns, by rw [e1], by rw [← ints_of f]; exact SqL.of hp, List.length_pos_of_mem hm, fun m' hm' hle' => ?_⟩
    have : m' = m := Int.le_antisymm (hle' m hm) (hle m' hm')
    rw [this]
    exact q _ H H0 (Nx.refl s) rfl

/-! sorted -/
omit B
class Od (α : Type) extends Dt α where
  lt : α → α → Bool
  [deq : DecidableEq α]
  [od : PySem.W.DatumOrd α]
  same : ∀ a : α, PySem.W.Datum.toD a = Dt.toD a
  lts : ∀ a b, PySem.W.DatumOrd.lt a b = lt a b
  shape : (∀ a : α, ∃ x r, Dt.toD a = .tuple (x :: r)) ∨ ∀ a : α, Dt.toD a ≠ .none ∧ ∀ xs, Dt.toD a ≠ .tuple xs
/-- sorted(xs) -/
def psort [Od α] (xs : List α) : List α := xs.mergeSort fun a b => !Od.lt b a
instance : Od Int where
  lt a b := decide (a < b)
  same _ := rfl
  lts _ _ := rfl
  shape := .inr fun a => ⟨(fun h => nomatch h), (fun xs h => nomatch h)⟩
abbrev Cell := Int × Int
def clt (a b : Cell) : Bool := decide (a.1 < b.1 ∨ (a.1 = b.1 ∧ a.2 < b.2))
instance : Od Cell where
  lt := clt
  deq := inferInstance
  od := inferInstance
  same _ := rfl
  lts a b := by
    show (if a.1 = b.1 then decide (a.2 < b.2) else decide (a.1 < b.1)) = clt a b
    unfold clt
    by_cases h : a.1 = b.1
    · rw [if_pos h]; congr 1; apply propext; omega
    · rw [if_neg h]; congr 1; apply propext; omega
  shape := .inl fun a => ⟨.int a.1, [.int a.2], rfl⟩
def rowlt : List Cell → List Cell → Bool
  | [], [] => false
  | [], _ :: _ => true
  | _ :: _, [] => false
  | x :: xs, y :: ys => if x = y then rowlt xs ys else clt x y
theorem rowlt_eq : ∀ a b : List Cell, PySem.W.DatumOrd.lt a b = rowlt a b
  | [], [] => rfl
  | [], _ :: _ => rfl
  | _ :: _, [] => rfl
  | x :: xs, y :: ys => by
    show (if x = y then PySem.W.listLt xs ys else PySem.W.DatumOrd.lt x y) = (if x = y then rowlt xs ys else clt x y)
    have h1 : PySem.W.listLt xs ys = rowlt xs ys := rowlt_eq xs ys
    have h2 : PySem.W.DatumOrd.lt x y = clt x y := Od.lts x y
    rw [h1, h2]
instance : Od (List Cell) where
  lt := rowlt
  deq := inferInstance
  od := inferInstance
  same a := rfl
  lts := rowlt_eq
  shape := .inr fun a => ⟨(fun h => nomatch h), (fun xs h => nomatch h)⟩
theorem each_of_paired {α β : Type} {F : α → β → Prop} : ∀ {l₁ : List α} {l₂ : List β}, Paired F l₁ l₂ → PySem.W.EachIs F l₁ l₂
  | _, _, .nil => .nil
  | _, _, .cons r t => .cons r (each_of_paired t)
theorem paired_of_each {α β : Type} {F : α → β → Prop} : ∀ {l₁ : List α} {l₂ : List β}, PySem.W.EachIs F l₁ l₂ → Paired F l₁ l₂
  | _, _, .nil => .nil
  | _, _, .cons r t => .cons r (paired_of_each t)
theorem paired_three {α β γ : Type} {F : α → β → Prop} {G : α → γ → Prop} : ∀ {l₁ : List α} {l₂ : List β} {l₃ : List γ}, Paired F l₁ l₂ → Paired G l₁ l₃ → Paired (fun b c => ∃ a, F a b ∧ G a c) l₂ l₃
  | _, _, _, .nil, .nil => .nil
  | _, _, _, .cons r t, .cons r' t' => .cons ⟨_, r, r'⟩ (paired_three t t')
theorem paired_split {α β γ : Type} {F : α → β → Prop} {G : α → γ → Prop} : ∀ {l₂ : List β} {l₃ : List γ}, Paired (fun b c => ∃ a, F a b ∧ G a c) l₂ l₃ → ∃ l₁, Paired F l₁ l₂ ∧ Paired G l₁ l₃
  | _, _, .nil => ⟨[], .nil, .nil⟩
  | _, _, .cons ⟨a, h1, h2⟩ t => let ⟨l, q1, q2⟩ := paired_split t; ⟨a :: l, .cons h1 q1, .cons h2 q2⟩
theorem paired_map {α β γ : Type} {F : α → γ → Prop} {g : β → γ} : ∀ {l₁ : List α} {l₂ : List β}, Paired F l₁ (l₂.map g) ↔ Paired (fun a b => F a (g b)) l₁ l₂
  | l₁, [] => by constructor <;> (intro h; cases h; exact .nil)
  | l₁, b :: bs => by
    constructor
    · intro h
      cases h with
      | cons h1 h2 => exact .cons h1 (paired_map.mp h2)
    · intro h
      cases h with
      | cons h1 h2 => exact .cons h1 (paired_map.mpr h2)
def rSortG (K : PySem.W.Frag) (α : Type) [Od α] : List V → Hp → VK → Prop := fun vs H Q => ∃ (a : Addr) (xs : List V) (ys : List α) (F : V → α → Prop), vs = [V.ref a] ∧ SqL K H a xs ∧ Paired (fun v y => F v y ∧ Dp K H v (toD y)) xs ys ∧
  ∀ (zs : List V) (p : Addr), Paired F zs (psort ys) → H p = none → Q (.ref p) (upd H p (.lst zs))
theorem cr_sortG [Od α] (hu : X.A.units + 2 + Dt.dep α < cLine) : CallR X (.builtin "sorted") (rSortG X.K α) := by
  intro pins s σ H vs us Q I r h
  obtain ⟨a, xs, ys, F, rfl, hs, hp, q⟩ := h
  obtain ⟨its, rv, hl, hz⟩ := I.list hs
  rw [Vals.ref1 r]
  have hlen : its.length = ys.length := by rw [← rv.length]; exact Paired.length hp
  have hlx : xs.length = ys.length := Paired.length hp
  have e1 : Paired (fun (u : Value) (y : α) => ∃ v, RelV v u ∧ (F v y ∧ Dp X.K H v (toD y))) its ys := paired_three rv hp
  have e2 : PySem.W.EachIs (fun (u : Value) (y : α) => ∃ v, RelV v u ∧ F v y) its ys := each_of_paired (Paired.mapP e1 fun u y ⟨v, h1, h2, _⟩ => ⟨v, h1, h2⟩)
  have e3 : PySem.W.EachIs (fun (u : Value) (y : α) => ∃ as, Reads s.heap u (toD y) as) its ys := each_of_paired (Paired.mapP e1 fun u y ⟨v, h1, _, h3⟩ => Dp.reads I _ v u h3 h1)
  have hal : PySem.W.AllAlike (ys.map fun y => toD y) := PySem.W.AllAlike.of fun b b' => by
    rw [← Od.same b, ← Od.same b']; exact Od.od.alike b b'
  have hk : PySem.W.Sortable (ys.map fun y => toD y) := by
    rcases (Od.shape (α := α)) with z | z
    · exact PySem.W.Sortable.tuples z
    · exact PySem.W.Sortable.others z
  refine PySem.W.sorted_data hl.isList e2 e3 hal hk (by omega) (fun b _ => by have := Dt.hdep b; omega) fun out ho hout => ?_
  obtain ⟨ep, he'⟩ := PyProof.Rows.sortedAll_at s.heap its out.toArray
  have hsort : ys.mergeSort (PySem.W.dataLe false fun y => toD y) = psort ys := by
    unfold psort
    congr 1
    funext p q
    rw [PySem.W.dataLe_eq]
    show (!PySem.W.dataLt (toD q) (toD p)) = _
    congr 1
    rw [← Od.same p, ← Od.same q, ← Od.lts]
    exact Od.od.lt_eq q p
  rw [hsort] at hout
  obtain ⟨zs, z1, z2⟩ := paired_split (F := fun v u => RelV v u) (G := F) (paired_of_each hout)
  have hzl : zs.length ≤ sizeLine := by rw [Paired.length z1, ho]; omega
  exact ⟨.ref _, upd H (s.heap.objs.size + 1) (.lst zs), I.laid (t' := s.toks) (fun _ _ => PyProof.Rows.sortedAll_old) (Nat.le_succ _) ⟨hzl, out, ep, z1, he'⟩, rfl, q zs _ z2 (I.hok.fresh (Nat.le_succ _))⟩
include B
theorem evn_sorted [Od α] {xs : List α} (hu : X.A.units + 64 < cLine) (hd : Dt.dep α ≤ 60) (hg : Gl X "sorted") (h : EvC X ρ ω e (lsO xs)) (he : starEach [e] X.env = [(false, eval e X.env)] := by exact se_one rfl) : EvN X ρ ω (.Call (.Name "sorted" p) [e] [] pos) (lsO (psort xs)) :=
  g_cb1N (cr_sortG (α := α) (by omega)) hg (B _ (by decide +kernel)) (by decide +kernel) h.evg (by decide +kernel) (by decide +kernel) he fun v H H0 s ⟨p, o, e1, hp, vs, e2, f⟩ Q q => by
    subst e2
    refine ⟨p, vs, xs, fun v y => (rp y).f H0 v, by rw [e1], SqL.of hp, Paired.mapP (paired_map.mp f) fun v y hy => ⟨hy, Dp.mono s _ _ (Dt.dp X.K H0 v y hy)⟩, fun zs l hz hl => ?_⟩
    exact q l _ _ H0 (Nx.fresh s hl) hl (s.free hl) upd_same ⟨zs, rfl, paired_map.mpr hz⟩
omit B

/-! lists: +, slices, * -/
theorem evn_cat {Ps Ps' : List MP} (h1 : EvC X ρ ω a (lsM Ps)) (h2 : EvC X ρ ω b (lsM Ps')) (hl : Ps.length + Ps'.length ≤ 1000000) : EvN X ρ ω (.BinOp a .Add b pos) (lsM (Ps ++ Ps')) := .mk fun B B0 σ H H0 S Q q =>
  wE_of (pe_op op_cat pe_w pe_w) (h1.run B B0 σ H H0 S _ fun p o H1 H01 n1 hp ⟨vs, e1, f1⟩ => h2.run B B0 σ H1 H01 (S.step n1) _ fun p' o' H2 H02 n2 hp' ⟨vs', e2, f2⟩ => by
    subst e1; subst e2
    have g1 := Paired.length f1
    have g2 := Paired.length f2
    refine ⟨p, p', vs, vs', rfl, rfl, n2.a _ _ hp, hp', Nat.le_trans (by rw [g1, g2]; exact hl) (by decide), fun l hz => ?_⟩
    exact q l _ _ H02 ((n1.trans n2).trans (Nx.fresh n2.c hz)) (n1.a.free (n2.a.free hz)) (n2.c.free hz) upd_same ⟨_, rfl, Paired.app (f1.mono n2.b) f2⟩)
theorem evn_catL [R α] {xs ys : List α} (h1 : EvC X ρ ω a (lsO xs)) (h2 : EvC X ρ ω b (lsO ys)) (hl : xs.length + ys.length ≤ 1000000) : EvN X ρ ω (.BinOp a .Add b pos) (lsO (xs ++ ys)) :=
  (evn_cat h1 h2 (by rw [List.length_map, List.length_map]; exact hl)).cast (by unfold lsO; rw [List.map_append])
theorem paired_rep {α β : Type} {F : α → β → Prop} {l₁ : List α} {l₂ : List β} (h : Paired F l₁ l₂) : ∀ n : Nat, Paired F (List.replicate n l₁).flatten (List.replicate n l₂).flatten
  | 0 => .nil
  | n + 1 => by
    rw [List.replicate_succ, List.replicate_succ, List.flatten_cons, List.flatten_cons]
    exact Paired.app h (paired_rep h n)
theorem evn_rep {Ps : List MP} {k : Int} (h1 : EvC X ρ ω a (lsM Ps)) (h2 : Ev X ρ ω b (rp k)) (hk : -1000 ≤ k ∧ k ≤ 1000) (hl : Ps.length ≤ 1000) : EvN X ρ ω (.BinOp a .Mult b pos) (lsM (List.replicate k.toNat Ps).flatten) := .mk fun B B0 σ H H0 S Q q =>
  wE_of (pe_op op_rep pe_w pe_w) (h1.run B B0 σ H H0 S _ fun p o H1 H01 n1 hp ⟨vs, e1, f1⟩ => h2.run B B0 σ H1 H01 (S.step n1) _ fun v2 H2 H02 n2 f2 => by
    subst e1
    have g1 := Paired.length f1
    refine ⟨p, k, vs, rfl, f2, n2.a _ _ hp, by omega, by omega, ?_, fun l hz => ?_⟩
    · refine Nat.le_trans ?_ (show 1000 * 1000 ≤ sizeLine by decide)
      exact Nat.mul_le_mul (by omega) (by omega)
    exact q l _ _ H02 ((n1.trans n2).trans (Nx.fresh n2.c hz)) (n1.a.free (n2.a.free hz)) (n2.c.free hz) upd_same ⟨_, rfl, paired_rep (f1.mono n2.b) _⟩)
/-- the parts of a slice -/
def EvO (X : Cx) (ρ : En) (ω : Ow) (e : Option Expr) (o : Option Int) : Prop := ∃ t : TO, PO X e t ∧ ∀ B B0 σ H H0, Sat B B0 ρ ω σ H H0 → ∀ Q : Option Int → Hp → Prop, (∀ H' H0', Nx H H0 H' H0' → Q o H') → t σ H Q
theorem eo_none : EvO X ρ ω none none := ⟨_, po_none, fun B B0 σ H H0 S Q q => q H H0 (Nx.refl S.sub)⟩
theorem eo_some {i : Int} (h : Ev X ρ ω e (rp i)) : EvO X ρ ω (some e) (some i) := ⟨_, po_some pe_w, fun B B0 σ H H0 S Q q => h.run B B0 σ H H0 S _ fun v H' H0' n f => ⟨i, f, q H' H0' n⟩⟩
def cutL {α : Type} (xs : List α) (lo hi : Option Int) : List α := (xs.drop (HT.sIx xs.length 0 lo)).take (HT.sIx xs.length xs.length hi - HT.sIx xs.length 0 lo)
theorem cutL_map {α β : Type} (f : α → β) (xs : List α) (lo hi : Option Int) : cutL (xs.map f) lo hi = (cutL xs lo hi).map f := by
  unfold cutL
  rw [List.length_map, List.map_take, List.map_drop]
theorem evn_slice {Ps : List MP} {lo hi : Option Expr} {l h : Option Int} {p2 : Pos} (h1 : EvC X ρ ω a (lsM Ps)) (h2 : EvO X ρ ω lo l) (h3 : EvO X ρ ω hi h) : EvN X ρ ω (.Subscript a (.Slice lo hi none p2) pos) (lsM (cutL Ps l h)) := .mk fun B B0 σ H H0 S Q q => by
  obtain ⟨t2, q2, r2⟩ := h2
  obtain ⟨t3, q3, r3⟩ := h3
  refine wE_of (pe_slice sl_list pe_w q2 q3) (h1.run B B0 σ H H0 S _ fun p o H1 H01 n1 hp ⟨vs, e1, f1⟩ => r2 B B0 σ H1 H01 (S.step n1) _ fun H2 H02 n2 => r3 B B0 σ H2 H02 (S.step (n1.trans n2)) _ fun H3 H03 n3 => ?_)
  subst e1
  have n := n2.trans n3
  refine ⟨p, vs, rfl, SqL.of (n.a _ _ hp), fun z hz => ?_⟩
  have g := Paired.length f1
  refine q z _ _ H03 ((n1.trans n).trans (Nx.fresh n.c hz)) (n1.a.free (n.a.free hz)) (n.c.free hz) upd_same ⟨_, rfl, ?_⟩
  unfold cutV cutL
  rw [g]
  exact Paired.take _ (Paired.drop _ (f1.mono n.b))
theorem evn_sliceL [R α] {xs : List α} {lo hi : Option Expr} {l h : Option Int} {p2 : Pos} (h1 : EvC X ρ ω a (lsO xs)) (h2 : EvO X ρ ω lo l) (h3 : EvO X ρ ω hi h) : EvN X ρ ω (.Subscript a (.Slice lo hi none p2) pos) (lsO (cutL xs l h)) :=
  (evn_slice h1 h2 h3).cast (by unfold lsO; rw [cutL_map])
/-! texts -/
theorem ev_addS {y z : Str} (h1 : Ev X ρ ω a (rp y)) (h2 : Ev X ρ ω b (rp z)) (hl : y.length + z.length ≤ 1000000) : Ev X ρ ω (.BinOp a .Add b pos) (rp (y ++ z)) :=
  ev_op op_add_str (fun v1 v2 H H0 s f1 f2 Q q => ⟨y, z, f1, f2, Nat.le_trans hl (by decide), q _ H H0 (Nx.refl s) rfl⟩) h1 h2
theorem ev_ixS {z : Str} {i : Int} {c : Nat} (h1 : Ev X ρ ω a (rp z)) (h2 : Ev X ρ ω b (rp i)) (hl : z.length ≤ 1000000) (hc : atI z.cps.toList i = some c) (hs : PlainIx b) : Ev X ρ ω (.Subscript a b pos) (rp (⟨#[c]⟩ : Str)) :=
  ev_2 (t := fun _ _ _ => True) (pe_ix ix_str pe_w pe_w hs) h1 h2 fun v1 v2 H H0 s f1 f2 Q q => ⟨z, i, c, f1, f2, Nat.le_trans hl (by decide), hc, q _ H H0 (Nx.refl s) rfl⟩
theorem ev_sliceS {z : Str} {lo hi : Option Expr} {l h : Option Int} {p2 : Pos} (h1 : Ev X ρ ω a (rp z)) (h2 : EvO X ρ ω lo l) (h3 : EvO X ρ ω hi h) (hl : z.length ≤ 1000000) : Ev X ρ ω (.Subscript a (.Slice lo hi none p2) pos) (rp (cutS z l h)) := .mk fun B B0 σ H H0 S Q q => by
  obtain ⟨t2, q2, r2⟩ := h2
  obtain ⟨t3, q3, r3⟩ := h3
  refine wE_of (pe_slice sl_str pe_w q2 q3) (h1.run B B0 σ H H0 S _ fun v H1 H01 n1 f1 => r2 B B0 σ H1 H01 (S.step n1) _ fun H2 H02 n2 => r3 B B0 σ H2 H02 (S.step (n1.trans n2)) _ fun H3 H03 n3 => ?_)
  exact ⟨z, f1, Nat.le_trans hl (by decide), q _ H3 H03 ((n1.trans n2).trans n3) rfl⟩
theorem ev_inS {z : Str} {c : Nat} (h1 : Ev X ρ ω a (rp (⟨#[c]⟩ : Str))) (h2 : Ev X ρ ω b (rp z)) (hm : behindInMarks .In b = false) : Ev X ρ ω (.Compare a [.In] [b] pos) (rp (decide (c ∈ z.cps.toList))) :=
  ev_cmp op_in_sign (fun v1 v2 H H0 s f1 f2 Q q => ⟨c, z, f1, f2, q _ H H0 (Nx.refl s) rfl⟩) h1 h2 hm
theorem et_inS {z : Str} {c : Nat} (h1 : Ev X ρ ω a (rp (⟨#[c]⟩ : Str))) (h2 : Ev X ρ ω b (rp z)) (hm : behindInMarks .In b = false) : EvT X ρ ω (.Compare a [.In] [b] pos) (decide (c ∈ z.cps.toList)) :=
  et_cmp op_in_sign (fun v1 v2 H H0 s f1 f2 Q q => ⟨c, z, f1, f2, q _ H H0 (Nx.refl s) rfl⟩) h1 h2 hm
theorem ev_eqS {y z : Str} (h1 : Ev X ρ ω a (rp y)) (h2 : Ev X ρ ω b (rp z)) : Ev X ρ ω (.Compare a [.Eq] [b] pos) (rp (decide (y = z))) :=
  ev_cmp op_eq (fun v1 v2 H H0 s f1 f2 Q q => by
    have f1 : v1 = .str y := f1
    have f2 : v2 = .str z := f2
    subst f1; subst f2
    exact ⟨rfl, by rw [show decide (V.str y = V.str z) = decide (y = z) by simp]; exact q _ H H0 (Nx.refl s) rfl⟩) h1 h2 (nomark _)
theorem et_eqS {y z : Str} (h1 : Ev X ρ ω a (rp y)) (h2 : Ev X ρ ω b (rp z)) : EvT X ρ ω (.Compare a [.Eq] [b] pos) (decide (y = z)) :=
  et_cmp op_eq (fun v1 v2 H H0 s f1 f2 Q q => by
    have f1 : v1 = .str y := f1
    have f2 : v2 = .str z := f2
    subst f1; subst f2
    exact ⟨rfl, by rw [show decide (V.str y = V.str z) = decide (y = z) by simp]; exact q _ H H0 (Nx.refl s) rfl⟩) h1 h2 (nomark _)
theorem ev_eqI {y z : Int} (h1 : Ev X ρ ω a (rp y)) (h2 : Ev X ρ ω b (rp z)) : Ev X ρ ω (.Compare a [.Eq] [b] pos) (rp (decide (y = z))) :=
  ev_cmp op_eq (fun v1 v2 H H0 s f1 f2 Q q => by
    have f1 : v1 = .int y := f1
    have f2 : v2 = .int z := f2
    subst f1; subst f2
    exact ⟨rfl, by rw [show decide (V.int y = V.int z) = decide (y = z) by simp]; exact q _ H H0 (Nx.refl s) rfl⟩) h1 h2 (nomark _)
theorem et_eqI {y z : Int} (h1 : Ev X ρ ω a (rp y)) (h2 : Ev X ρ ω b (rp z)) : EvT X ρ ω (.Compare a [.Eq] [b] pos) (decide (y = z)) :=
  et_cmp op_eq (fun v1 v2 H H0 s f1 f2 Q q => by
    have f1 : v1 = .int y := f1
    have f2 : v2 = .int z := f2
    subst f1; subst f2
    exact ⟨rfl, by rw [show decide (V.int y = V.int z) = decide (y = z) by simp]; exact q _ H H0 (Nx.refl s) rfl⟩) h1 h2 (nomark _)
theorem ev_neI {y z : Int} (h1 : Ev X ρ ω a (rp y)) (h2 : Ev X ρ ω b (rp z)) : Ev X ρ ω (.Compare a [.NotEq] [b] pos) (rp (!decide (y = z))) :=
  ev_cmp op_ne (fun v1 v2 H H0 s f1 f2 Q q => by
    have f1 : v1 = .int y := f1
    have f2 : v2 = .int z := f2
    subst f1; subst f2
    exact ⟨rfl, by rw [show decide (V.int y = V.int z) = decide (y = z) by simp]; exact q _ H H0 (Nx.refl s) rfl⟩) h1 h2 (nomark _)
theorem et_neI {y z : Int} (h1 : Ev X ρ ω a (rp y)) (h2 : Ev X ρ ω b (rp z)) : EvT X ρ ω (.Compare a [.NotEq] [b] pos) (!decide (y = z)) :=
  et_cmp op_ne (fun v1 v2 H H0 s f1 f2 Q q => by
    have f1 : v1 = .int y := f1
    have f2 : v2 = .int z := f2
    subst f1; subst f2
    exact ⟨rfl, by rw [show decide (V.int y = V.int z) = decide (y = z) by simp]; exact q _ H H0 (Nx.refl s) rfl⟩) h1 h2 (nomark _)
end
end DF

namespace DF
open R (rp)
open Dt (toD)
open PySem L2

/-! ### 6. statements -/
/-- what stays later covers what stayed before -/
def Up (B B0 B1 : Hp) : Prop := ∀ H' H0', Nx B B1 H' H0' → Nx B B0 H' H0'
theorem Up.refl {B B0 : Hp} : Up B B0 B0 := fun _ _ n => n
theorem Up.trans {B B0 B1 B2 : Hp} (a : Up B B0 B1) (b : Up B B1 B2) : Up B B0 B2 := fun _ _ n => a _ _ (b _ _ n)
theorem Nx.up {B B0 H1 H01 : Hp} (n : Nx B B0 H1 H01) : Up B B0 H01 := fun H' H0' m => ⟨m.a, n.b.trans m.b, m.c, fun x o h h0 => m.d x o h (n.d x o h h0), m.e⟩
theorem Nx.base {B B0 H1 H01 : Hp} (n : Nx B B0 H1 H01) : Nx B H01 H1 H01 := ⟨n.a, Same.refl _, n.c, fun _ _ _ h => h, n.e⟩
section
variable {B B0 B1 H H0 H' H0' : Hp} {ρ ρ' : En} {ω ω' : Ow} {σ : L2.St}
theorem Sat.down (S : Sat B B1 ρ ω σ H H0) (u : Up B B0 B1) : Sat B B0 ρ ω σ H H0 := ⟨u _ _ S.nx, S.len, S.sl, S.ow, S.nd, S.tp⟩
theorem Sat.base (S : Sat B B0 ρ ω σ H H0) : Sat B H0 ρ ω σ H H0 := ⟨S.nx.base, S.len, S.sl, S.ow, S.nd, S.tp⟩
end
structure Go (X : Cx) (B B0 : Hp) (ρ : En) (ω : Ow) (ss : List Stmt) (D : Ends) : Prop where
  run : ∀ B1, Up B B0 B1 → ∀ σ H H0, Sat B B1 ρ ω σ H H0 → wB X ss D σ H
/-- less is known -/
def Le (ρ : En) (ω : Ow) (ρ' : En) (ω' : Ow) : Prop := ∀ B B0 σ H H0, Sat B B0 ρ ω σ H H0 → ∃ H0', Sat B B0 ρ' ω' σ H H0'
inductive Lsl : En → En → Prop
  | nil : Lsl [] []
  | keep {P : Option MP} {ρ ρ' : En} : Lsl ρ ρ' → Lsl (P :: ρ) (P :: ρ')
  | drop {P : Option MP} {ρ ρ' : En} : Lsl ρ ρ' → Lsl (P :: ρ) (none :: ρ')
theorem Lsl.refl : ∀ ρ : En, Lsl ρ ρ
  | [] => .nil
  | _ :: ρ => .keep (Lsl.refl ρ)
theorem Lsl.get : ∀ {ρ ρ' : En}, Lsl ρ ρ' → ρ'.length = ρ.length ∧ ∀ (i : Nat) (P : MP), ρ'[i]? = some (some P) → ρ[i]? = some (some P)
  | _, _, .nil => ⟨rfl, fun i P h => by simp at h⟩
  | _, _, .keep t => ⟨by simp [(Lsl.get t).1], fun i P h => by
    cases i with
    | zero => simpa using h
    | succ i => simpa using (Lsl.get t).2 i P (by simpa using h)⟩
  | _, _, .drop t => ⟨by simp [(Lsl.get t).1], fun i P h => by
    cases i with
    | zero => simp at h
    | succ i => simpa using (Lsl.get t).2 i P (by simpa using h)⟩
theorem Sat.less {B B0 H H0 : Hp} {ρ ρ' : En} {ω ω' : Ow} {σ : L2.St} (S : Sat B B0 ρ ω σ H H0) (h : Lsl ρ ρ') (hω : ω'.Sublist ω) : Sat B B0 ρ' ω' σ H H0 :=
  ⟨S.nx, by rw [h.get.1]; exact S.len, fun i P hi => S.sl i P (h.get.2 i P hi), fun a φ hm => S.ow a φ (hω.subset hm), S.nd.sublist (hω.map _), S.tp⟩
theorem Le.refl {ρ : En} {ω : Ow} : Le ρ ω ρ ω := fun B B0 σ H H0 S => ⟨H0, S⟩
theorem Le.of {ρ ρ' : En} {ω ω' : Ow} (h : Lsl ρ ρ') (hω : ω'.Sublist ω) : Le ρ ω ρ' ω' := fun B B0 σ H H0 S => ⟨H0, S.less h hω⟩
theorem Le.trans {ρ ρ' ρ'' : En} {ω ω' ω'' : Ow} (a : Le ρ ω ρ' ω') (b : Le ρ' ω' ρ'' ω'') : Le ρ ω ρ'' ω'' := fun B B0 σ H H0 S => let ⟨H1, S1⟩ := a B B0 σ H H0 S; b B B0 σ H H1 S1
/-- an object of ours stays from now on -/
theorem Le.freeze {ρ : En} {ω : Ow} {p : Addr} {φ : MO} {i : Nat} (hs : ρ[i]? = some (some (atM p))) : Le ρ ((p, φ) :: ω) (ρ.set i (some (obM φ))) ω := fun B B0 σ H H0 S => by
  obtain ⟨hB, h0, o, hp, f⟩ := S.ow p φ List.mem_cons_self
  have hne : ∀ b u, H0 b = some u → b ≠ p := fun b u e z => by subst z; rw [h0] at e; cases e
  have s0 : Same H0 (upd H0 p o) := fun b u e => by rw [upd_ne (hne b u e)]; exact e
  obtain ⟨v, hv, e⟩ := S.sl i _ hs
  have e : v = .ref p := e
  subst e
  have nd : p ∉ ω.map (·.1) ∧ (ω.map (·.1)).Nodup := List.nodup_cons.mp S.nd
  have S1 : Sat B B0 ρ ω σ H (upd H0 p o) := by
    refine ⟨⟨S.nx.a, S.nx.b.trans s0, fun b u e => ?_, fun x u e e0 => ?_, fun x vs e e0 => s0 _ _ (S.tp x vs e)⟩, S.len, fun j P hj => let ⟨w, q1, q2⟩ := S.sl j P hj; ⟨w, q1, P.mono s0 q2⟩, fun a ψ hm => ?_, nd.2, fun x vs e => s0 _ _ (S.tp x vs e)⟩
    · by_cases hb : b = p
      · subst hb; rw [upd_same] at e; rw [hp, ← e]
      · rw [upd_ne hb] at e; exact S.nx.c _ _ e
    · rw [upd_ne (ne_of_none e hB)]; exact S.nx.d x u e e0
    · obtain ⟨q1, q2, u, q3, q4⟩ := S.ow a ψ (List.mem_cons_of_mem _ hm)
      refine ⟨q1, ?_, u, q3, ψ.mono s0 q4⟩
      rw [upd_ne]
      · exact q2
      · intro z; subst z; exact nd.1 (List.mem_map.mpr ⟨_, hm, rfl⟩)
  have hset := S1.set (P := obM φ) (v := .ref p) i ⟨p, o, rfl, upd_same, φ.mono s0 f⟩
  refine ⟨upd H0 p o, ?_⟩
  have es : σ.set i (some (.ref p)) = σ := by
    apply List.ext_getElem?
    intro j
    by_cases hj : i = j
    · subst hj
      have hl : i < σ.length := (List.getElem?_eq_some_iff.mp hv).1
      rw [List.getElem?_set_self hl, hv]
    · rw [List.getElem?_set_ne hj]
  rw [es] at hset
  exact hset
section
variable {X : Cx} {B B0 : Hp} {ρ ρ' : En} {ω ω' : Ow} {e a b c o : Expr} {es : List Expr} {P P1 P2 : MP} {φ ψ : MO} {pos p p2 : Pos} {x : Str} {rest body orelse : List Stmt} {D : Ends} {st : Stmt}
theorem Go.le (h : Go X B B0 ρ' ω' rest D) (l : Le ρ ω ρ' ω') : Go X B B0 ρ ω rest D := .mk fun B1 u σ H H0 S => let ⟨H1, S1⟩ := l B B1 σ H H0 S; h.run B1 u σ H H1 S1
theorem Go.up {B1 : Hp} (h : Go X B B0 ρ ω rest D) (u : Up B B0 B1) : Go X B B1 ρ ω rest D := .mk fun B2 u2 σ H H0 S => h.run B2 (u.trans u2) σ H H0 S
theorem go_nil (h : ∀ B1, Up B B0 B1 → ∀ σ H H0, Sat B B1 ρ ω σ H H0 → D.nx σ H) : Go X B B0 ρ ω [] D := .mk fun B1 u σ H H0 S => wB_of pss_nil (h B1 u σ H H0 S)
/-- the end of an if's branch: on with what is behind the if -/
theorem go_fall {D' : Ends} (h : Go X B B0 ρ ω rest D) : Go X B B0 ρ ω [] { D' with nx := wB X rest D } := go_nil h.run
theorem go_st {t : TS} (hp : PS X st t) (h : ∀ B1, Up B B0 B1 → ∀ σ H H0, Sat B B1 ρ ω σ H H0 → t { D with nx := wB X rest D } σ H) : Go X B B0 ρ ω (st :: rest) D := .mk fun B1 u σ H H0 S => wB_of (pss_cons hp pss_w) (h B1 u σ H H0 S)
abbrev Rt (B B0 : Hp) (P : MP) (D : Ends) : Prop := ∀ v H' H0', Nx B B0 H' H0' → P.f H0' v → D.rt v H'
abbrev RtN (B B0 : Hp) (φ : MO) (D : Ends) : Prop := ∀ p o H' H0', Nx B B0 H' H0' → B p = none → H0' p = none → H' p = some o → φ.f H0' o → D.rt (.ref p) H'
theorem go_ret (h : Ev X ρ ω e P) (k : Rt B B0 P D) : Go X B B0 ρ ω (.Return (some e) pos :: rest) D :=
  go_st (ps_ret pe_w) fun B1 u σ H H0 S => h.run B B1 σ H H0 S _ fun v H' H0' n f => k v H' H0' (u _ _ (S.nx.trans n)) f
theorem go_retN (h : EvN X ρ ω e φ) (k : RtN B B0 φ D) : Go X B B0 ρ ω (.Return (some e) pos :: rest) D :=
  go_st (ps_ret pe_w) fun B1 u σ H H0 S => h.run B B1 σ H H0 S _ fun q ob H' H0' n hq h0 h' f => k q ob H' H0' (u _ _ (S.nx.trans n)) (S.nx.a.free hq) h0 h' f
theorem go_retO {i : Nat} {q : Addr} (hs : ρ[i]? = some (some (atM q))) (hw : (q, φ) ∈ ω) (hN : X.N[i]? = some x) (hv : Vis X.env.scope x) (hd : (x == ("__debug__" : Str)) = false) (hcd : (x == ("__classdict__" : Str)) = false) (k : RtN B B0 φ D) :
    Go X B B0 ρ ω (.Return (some (.Name x p)) pos :: rest) D :=
  go_st (ps_ret (pe_var hN hv hd hcd)) fun B1 u σ H H0 S => by
    obtain ⟨v, h1, h2⟩ := S.sl i _ hs
    have h2 : v = .ref q := h2
    subst h2
    obtain ⟨hB, h0, ob, hq, f⟩ := S.ow q φ hw
    exact ⟨_, h1, k q ob H H0 (u _ _ S.nx) hB h0 hq f⟩
theorem go_retNone (k : Rt B B0 nonM D) : Go X B B0 ρ ω (.Return none pos :: rest) D := go_st ps_retN fun B1 u σ H H0 S => k .non H H0 (u _ _ S.nx) rfl
theorem go_if {k : Bool} (h : EvT X ρ ω c k) (h1 : k = true → Go X B B0 ρ ω body { D with nx := wB X rest D }) (h2 : k = false → Go X B B0 ρ ω orelse { D with nx := wB X rest D }) : Go X B B0 ρ ω (.If c body orelse pos :: rest) D :=
  go_st (ps_if pt_w pss_w pss_w) fun B1 u σ H H0 S => h.run B B1 σ H H0 S _ fun H' H0' n => by
    cases k with
    | true => exact iteT ((h1 rfl).run B1 u σ H' H0' (S.step n))
    | false => exact iteF ((h2 rfl).run B1 u σ H' H0' (S.step n))
theorem go_ifT (h : EvT X ρ ω c true) (h1 : Go X B B0 ρ ω body { D with nx := wB X rest D }) : Go X B B0 ρ ω (.If c body orelse pos :: rest) D := go_if h (fun _ => h1) fun z => nomatch z
theorem go_ifF (h : EvT X ρ ω c false) (h1 : Go X B B0 ρ ω orelse { D with nx := wB X rest D }) : Go X B B0 ρ ω (.If c body orelse pos :: rest) D := go_if h (fun z => nomatch z) fun _ => h1
theorem go_asg (i : Nat) (h : Ev X ρ ω e P) (hN : X.N.Nodup) (hi : X.N[i]? = some x) (hx : Loc X.env.scope x) (hf : X.fn x = true ∨ X.env.scope.names.lookup x = some .local) (k : Go X B B0 (ρ.set i (some P)) ω rest D)
    (hs : swapsWithSole [.Name x p] e pos.line X.env = pure false := by exact sw_sole rfl) (hw : swappedStores [.Name x p] e X.env = pure none := by exact ss_name)
    (h1 : (assignEach [.Name x p] X.env).map (·.2) = [assign (.Name x p) X.env] := by exact ae_name) : Go X B B0 ρ ω (.Assign [.Name x p] e pos :: rest) D :=
  go_st (ps_asg pe_w (pg_name hN hi hx hf) hs hw h1) fun B1 u σ H H0 S => h.run B B1 σ H H0 S _ fun v H' H0' n f => k.run B1 u _ H' H0' ((S.step n).set i f)
theorem go_asgN (i : Nat) (h : EvN X ρ ω e φ) (hN : X.N.Nodup) (hi : X.N[i]? = some x) (hx : Loc X.env.scope x) (hf : X.fn x = true ∨ X.env.scope.names.lookup x = some .local) (k : ∀ q : Addr, Go X B B0 (ρ.set i (some (atM q))) ((q, φ) :: ω) rest D)
    (hs : swapsWithSole [.Name x p] e pos.line X.env = pure false := by exact sw_sole rfl) (hw : swappedStores [.Name x p] e X.env = pure none := by exact ss_name)
    (h1 : (assignEach [.Name x p] X.env).map (·.2) = [assign (.Name x p) X.env] := by exact ae_name) : Go X B B0 ρ ω (.Assign [.Name x p] e pos :: rest) D :=
  go_st (ps_asg pe_w (pg_name hN hi hx hf) hs hw h1) fun B1 u σ H H0 S => h.run B B1 σ H H0 S _ fun q ob H' H0' n hq h0 h' f => (k q).run B1 u _ H' H0' (by
    have S1 := S.step n
    refine (S1.own (fun a ψ hm => ?_) (S.nx.a.free hq) h0 h' f).set i rfl
    obtain ⟨_, _, w, q3, _⟩ := S.ow a ψ hm
    exact ne_of_none q3 hq)
/-- a call whose value is dropped -/
theorem go_drop (h : Ev X ρ ω e P) (k : Go X B B0 ρ ω rest D) (hs : swapsWith e none pos.line X.env = pure false := by exact sw_any rfl) : Go X B B0 ρ ω (.Expr e pos :: rest) D :=
  go_st (ps_expr pe_w hs) fun B1 u σ H H0 S => h.run B B1 σ H H0 S _ fun v H' H0' n f => k.run B1 u σ H' H0' (S.step n)
theorem go_doc {z : Str} {j : Nat} (k : Go X B B0 ρ ω rest D) : Go X B B0 ρ ω (.Expr (.Constant (.str z) j p) pos :: rest) D := go_st ps_doc fun B1 u σ H H0 S => k.run B1 u σ H H0 S
theorem go_pass (k : Go X B B0 ρ ω rest D) : Go X B B0 ρ ω (.Pass pos :: rest) D := go_st ps_pass fun B1 u σ H H0 S => k.run B1 u σ H H0 S
/-- l.append(e), l a list of ours -/
theorem go_app {Ps : List MP} {q : Addr} (j : Nat) {i : Nat} (hs : ρ[i]? = some (some (atM q))) (hw : ω[j]? = some (q, lsM Ps)) (h : Ev X ρ ω e P) (hl : Ps.length < 1000000) (hN : X.N[i]? = some x) (hv : Vis X.env.scope x) (hd : (x == ("__debug__" : Str)) = false) (hcd : (x == ("__classdict__" : Str)) = false)
    (k : Go X B B0 ρ (ω.set j (q, lsM (Ps ++ [P]))) rest D) {apos : Pos}
    (hfew : ((backTo pos (starEach [e] X.env)).all (fun x => !x.1) && (backToKw pos (keywordEach [] X.env)).all (fun x => x.1.isSome) && decide ([e].length + ([] : List Keyword).length + (if ([] : List Keyword).isEmpty then 0 else 1) < 30)) = true := by exact se_few rfl)
    (hline : (apos.endLine == pos.line) = true := by rfl) (hst : starEach [e] X.env = (false, eval e X.env) :: starEach [] X.env := by exact se_cons rfl)
    (hsw : swapsWith (.Call (.Attribute (.Name x p) "append" apos) [e] [] pos) none p2.line X.env = pure false := by exact sw_any rfl) (hbase : attributeBase (.Name x p) "append" X.env (eval (.Name x p) X.env) = eval (.Name x p) X.env := by exact ab_plain rfl) :
    Go X B B0 ρ ω (.Expr (.Call (.Attribute (.Name x p) "append" apos) [e] [] pos) p2 :: rest) D :=
  go_st (ps_expr (pe_bm PySem.F.plainAttrs_list PySem.F.slot_list_append PySem.F.type_list_append mt_append (pe_var hN hv hd hcd) (pa_cons pe_w pa_nil hst) hbase hfew hline hst (by rfl)) hsw) fun B1 u σ H H0 S => by
    obtain ⟨v, h1, h2⟩ := S.sl i _ hs
    have h2 : v = .ref q := h2
    subst h2
    obtain ⟨hB, h0, ob, hq, vs, e1, f⟩ := S.ow q _ (List.mem_of_getElem? hw)
    subst e1
    refine ⟨_, h1, .inl ⟨rfl, vs, SqL.of hq⟩, h.run B B1 σ H H0 S _ fun w H' H0' n g => ?_⟩
    have hl' := Paired.length f
    refine ⟨q, vs, w, rfl, rfl, n.a _ _ hq, Nat.lt_of_lt_of_le (by rw [hl']; exact hl) (by decide), ?_⟩
    exact k.run B1 u σ _ H0' ((S.step n).put hw ⟨_, rfl, Paired.app (f.mono n.b) (.cons g .nil)⟩)
theorem go_appL {α : Type} [R α] {xs : List α} {y : α} {q : Addr} (j : Nat) {i : Nat} (hs : ρ[i]? = some (some (atM q))) (hw : ω[j]? = some (q, lsO xs)) (h : Ev X ρ ω e (rp y)) (hl : xs.length < 1000000) (hN : X.N[i]? = some x) (hv : Vis X.env.scope x) (hd : (x == ("__debug__" : Str)) = false) (hcd : (x == ("__classdict__" : Str)) = false)
    (k : Go X B B0 ρ (ω.set j (q, lsO (xs ++ [y]))) rest D) {apos : Pos}
    (hfew : ((backTo pos (starEach [e] X.env)).all (fun x => !x.1) && (backToKw pos (keywordEach [] X.env)).all (fun x => x.1.isSome) && decide ([e].length + ([] : List Keyword).length + (if ([] : List Keyword).isEmpty then 0 else 1) < 30)) = true := by exact se_few rfl)
    (hline : (apos.endLine == pos.line) = true := by rfl) (hst : starEach [e] X.env = (false, eval e X.env) :: starEach [] X.env := by exact se_cons rfl)
    (hsw : swapsWith (.Call (.Attribute (.Name x p) "append" apos) [e] [] pos) none p2.line X.env = pure false := by exact sw_any rfl) (hbase : attributeBase (.Name x p) "append" X.env (eval (.Name x p) X.env) = eval (.Name x p) X.env := by exact ab_plain rfl) :
    Go X B B0 ρ ω (.Expr (.Call (.Attribute (.Name x p) "append" apos) [e] [] pos) p2 :: rest) D :=
  go_app j hs hw h (by rw [List.length_map]; exact hl) hN hv hd hcd (by
    have e : lsM (xs.map rp ++ [rp y]) = lsO (xs ++ [y]) := by unfold lsO; rw [List.map_append]; rfl
    rw [e]; exact k) hfew hline hst hsw hbase
/-- l.extend(e), l a list of ours, e a list -/
theorem go_ext {Ps Ps' : List MP} {q : Addr} (j : Nat) {i : Nat} (hs : ρ[i]? = some (some (atM q))) (hw : ω[j]? = some (q, lsM Ps)) (h : EvC X ρ ω e (lsM Ps')) (hl : Ps.length + Ps'.length < 1000000) (hN : X.N[i]? = some x) (hv : Vis X.env.scope x) (hd : (x == ("__debug__" : Str)) = false) (hcd : (x == ("__classdict__" : Str)) = false)
    (k : Go X B B0 ρ (ω.set j (q, lsM (Ps ++ Ps'))) rest D) {apos : Pos}
    (hfew : ((backTo pos (starEach [e] X.env)).all (fun x => !x.1) && (backToKw pos (keywordEach [] X.env)).all (fun x => x.1.isSome) && decide ([e].length + ([] : List Keyword).length + (if ([] : List Keyword).isEmpty then 0 else 1) < 30)) = true := by exact se_few rfl)
    (hline : (apos.endLine == pos.line) = true := by rfl) (hst : starEach [e] X.env = (false, eval e X.env) :: starEach [] X.env := by exact se_cons rfl)
    (hsw : swapsWith (.Call (.Attribute (.Name x p) "extend" apos) [e] [] pos) none p2.line X.env = pure false := by exact sw_any rfl) (hbase : attributeBase (.Name x p) "extend" X.env (eval (.Name x p) X.env) = eval (.Name x p) X.env := by exact ab_plain rfl) :
    Go X B B0 ρ ω (.Expr (.Call (.Attribute (.Name x p) "extend" apos) [e] [] pos) p2 :: rest) D :=
  go_st (ps_expr (pe_bm PySem.F.plainAttrs_list PySem.F.slot_list_extend PySem.F.type_list_extend mt_extend (pe_var hN hv hd hcd) (pa_cons pe_w pa_nil hst) hbase hfew hline hst (by rfl)) hsw) fun B1 u σ H H0 S => by
    obtain ⟨v, h1, h2⟩ := S.sl i _ hs
    have h2 : v = .ref q := h2
    subst h2
    obtain ⟨hB, h0, ob, hq, vs, e1, f⟩ := S.ow q _ (List.mem_of_getElem? hw)
    subst e1
    refine ⟨_, h1, .inl ⟨rfl, vs, SqL.of hq⟩, h.run B B1 σ H H0 S _ fun w ow H' H0' n hw' ⟨ws, e2, g⟩ => ?_⟩
    subst e2
    have hl1 := Paired.length f
    have hl2 := Paired.length g
    refine ⟨q, w, vs, ws, rfl, rfl, n.a _ _ hq, hw', Nat.le_trans (by rw [hl1, hl2]; exact Nat.le_of_lt hl) (by decide), ?_⟩
    exact k.run B1 u σ _ H0' ((S.step n).put hw ⟨_, rfl, Paired.app (f.mono n.b) g⟩)
theorem go_extL {α : Type} [R α] {xs ys : List α} {q : Addr} (j : Nat) {i : Nat} (hs : ρ[i]? = some (some (atM q))) (hw : ω[j]? = some (q, lsO xs)) (h : EvC X ρ ω e (lsO ys)) (hl : xs.length + ys.length < 1000000) (hN : X.N[i]? = some x) (hv : Vis X.env.scope x) (hd : (x == ("__debug__" : Str)) = false) (hcd : (x == ("__classdict__" : Str)) = false)
    (k : Go X B B0 ρ (ω.set j (q, lsO (xs ++ ys))) rest D) {apos : Pos}
    (hfew : ((backTo pos (starEach [e] X.env)).all (fun x => !x.1) && (backToKw pos (keywordEach [] X.env)).all (fun x => x.1.isSome) && decide ([e].length + ([] : List Keyword).length + (if ([] : List Keyword).isEmpty then 0 else 1) < 30)) = true := by exact se_few rfl)
    (hline : (apos.endLine == pos.line) = true := by rfl) (hst : starEach [e] X.env = (false, eval e X.env) :: starEach [] X.env := by exact se_cons rfl)
    (hsw : swapsWith (.Call (.Attribute (.Name x p) "extend" apos) [e] [] pos) none p2.line X.env = pure false := by exact sw_any rfl) (hbase : attributeBase (.Name x p) "extend" X.env (eval (.Name x p) X.env) = eval (.Name x p) X.env := by exact ab_plain rfl) :
    Go X B B0 ρ ω (.Expr (.Call (.Attribute (.Name x p) "extend" apos) [e] [] pos) p2 :: rest) D :=
  go_ext j hs hw h (by rw [List.length_map, List.length_map]; exact hl) hN hv hd hcd (by
    have e : lsM (xs.map rp ++ ys.map rp) = lsO (xs ++ ys) := by unfold lsO; rw [List.map_append]
    rw [e]; exact k) hfew hline hst hsw hbase
end

/-! ### 7. loops -/
/-- J gives things for ys, one by one, as long as Hg stands -/
def WalkM (J : It) (ys : List MP) (Hg H0 : Hp) : Prop := ∃ G Y, Walk J ys.length G Y ∧ (∀ H2, Same Hg H2 → G H2) ∧
  ∀ i H2 v H2', i < ys.length → Same Hg H2 → Y i H2 v H2' → ∃ P, ys[i]? = some P ∧ ∀ H02, Same H0 H02 → Same H02 H2 → ∃ H02', Nx H2 H02 H2' H02' ∧ P.f H02' v
structure Itr (X : Cx) (ρ : En) (ω : Ow) (tg iter : Expr) (ys : List MP) : Prop where
  run : ∀ B B0 σ H H0, Sat B B0 ρ ω σ H H0 → ∀ R : It → Hp → Prop, (∀ J H' H0', Nx H H0 H' H0' → WalkM J ys H0' H0' → R J H') → wI X tg iter σ H R
structure ItrC (X : Cx) (ρ : En) (ω : Ow) (tg iter : Expr) (ys : List MP) : Prop where
  run : ∀ B B0 σ H H0, Sat B B0 ρ ω σ H H0 → ∀ R : It → Hp → Prop, (∀ J H' H0', Nx H H0 H' H0' → WalkM J ys H' H0' → R J H') → wI X tg iter σ H R
section
variable {X : Cx} {B B0 : Hp} {ρ ρ' : En} {ω ω' : Ow} {e a b c o tg iter : Expr} {es : List Expr} {P P1 P2 : MP} {φ ψ : MO} {pos p p2 : Pos} {x : Str} {rest body orelse : List Stmt} {D : Ends} {st : Stmt} {Ps Ps' : List MP}
theorem WalkM.mono {J : It} {ys : List MP} {Hg Hg' H0 : Hp} (h : WalkM J ys Hg H0) (s : Same Hg Hg') : WalkM J ys Hg' H0 := by
  obtain ⟨G, Y, w, g, y⟩ := h
  exact ⟨G, Y, w, fun H2 s2 => g H2 (s.trans s2), fun i H2 v H2' hi s2 => y i H2 v H2' hi (s.trans s2)⟩
theorem Itr.toC (h : Itr X ρ ω tg iter Ps) : ItrC X ρ ω tg iter Ps := .mk fun B B0 σ H H0 S R r => h.run B B0 σ H H0 S R fun J H' H0' n w => r J H' H0' n (w.mono n.c)
theorem walkM_list {p : Addr} {vs : List V} {H H0 : Hp} {K : PySem.W.Frag} (hp : H p = some (.lst vs)) (f : All2 H0 vs Ps) : WalkM (Itl K p) Ps H H0 := by
  have hl := Paired.length f
  refine ⟨_, _, by rw [← hl]; exact walk_list, fun H2 s => SqL.of (s _ _ hp), fun i H2 v H2' hi s y => ?_⟩
  obtain ⟨e1, e2⟩ := y
  subst e1
  obtain ⟨P, h1, h2⟩ := Paired.getL f e2
  exact ⟨P, h1, fun H02 s0 s2 => ⟨H02, Nx.refl s2, P.mono s0 h2⟩⟩
/-- over a list that stays -/
theorem it_list (h : Ev X ρ ω e (obM (lsM Ps))) : Itr X ρ ω tg e Ps := .mk fun B B0 σ H H0 S R r =>
  wI_of (pi_list pe_w) (h.run B B0 σ H H0 S _ fun v H' H0' n ⟨p, o, e1, hp, vs, e2, f⟩ => by
    subst e2
    exact ⟨p, e1, ⟨vs, SqL.of (n.c _ _ hp)⟩, r _ H' H0' n (walkM_list hp f)⟩)
theorem it_listL {α : Type} [R α] {xs : List α} (h : Ev X ρ ω e (rp xs)) : Itr X ρ ω tg e (xs.map rp) := it_list h
theorem it_listC (h : EvC X ρ ω e (lsM Ps)) : ItrC X ρ ω tg e Ps := .mk fun B B0 σ H H0 S R r =>
  wI_of (pi_list pe_w) (h.run B B0 σ H H0 S _ fun p o H' H0' n hp ⟨vs, e2, f⟩ => by
    subst e2
    exact ⟨p, rfl, ⟨vs, SqL.of hp⟩, r _ H' H0' n (walkM_list hp f)⟩)
def irange (lo : Int) (n : Nat) : List Int := (List.range n).map fun (i : Nat) => lo + (i : Int)
theorem walkM_range {lo : Int} {n : Nat} {H H0 : Hp} : WalkM (L2.Itr lo n) ((irange lo n).map rp) H H0 := by
  have hl : ((irange lo n).map rp).length = n := by simp [irange]
  refine ⟨_, _, by rw [hl]; exact walk_range, fun _ _ => trivial, fun i H2 v H2' hi s y => ?_⟩
  obtain ⟨e1, e2⟩ := y
  subst e1
  rw [hl] at hi
  refine ⟨rp (lo + (i : Int)), by simp [irange, hi], fun H02 s0 s2 => ⟨H02, Nx.refl s2, e2⟩⟩
theorem it_range1 (Bb : Bl X.mg) {n : Int} (hg : Gl X "range") (h : Ev X ρ ω a (rp n)) (hn : n ≤ 1000000) (hn0 : -1000000 ≤ n) (hs : starEach [a] X.env = [(false, eval a X.env)] := by exact se_one rfl) : Itr X ρ ω tg (.Call (.Name "range" p) [a] [] pos) ((irange 0 n.toNat).map rp) := .mk fun B B0 σ H H0 S R r =>
  wI_of (pi_range1 hg (Bb _ (by decide +kernel)) (pa_cons pe_w pa_nil (by rw [hs]; rfl)) hs) (h.run B B0 σ H H0 S _ fun v H' H0' n' f => ⟨n, by rw [show v = .int n from f], by omega, by omega, r _ H' H0' n' walkM_range⟩)
theorem it_range2 (Bb : Bl X.mg) {m n : Int} (hg : Gl X "range") (h : Ev X ρ ω a (rp m)) (h2 : Ev X ρ ω b (rp n)) (hm : -1000000 ≤ m ∧ m ≤ 1000000) (hn : -1000000 ≤ n ∧ n ≤ 1000000)
    (hs : starEach [a, b] X.env = [(false, eval a X.env), (false, eval b X.env)] := by exact se_two rfl rfl) (hs2 : starEach [b] X.env = [(false, eval b X.env)] := by exact se_one rfl) : Itr X ρ ω tg (.Call (.Name "range" p) [a, b] [] pos) ((irange m (n - m).toNat).map rp) := .mk fun B B0 σ H H0 S R r =>
  wI_of (pi_range2 hg (Bb _ (by decide +kernel)) (pa_cons pe_w (pa_cons pe_w pa_nil (by rw [hs2]; rfl)) (by rw [hs, hs2])) hs hs2) (h.run B B0 σ H H0 S _ fun v H1 H01 n1 f1 => h2.run B B0 σ H1 H01 (S.step n1) _ fun v2 H' H0' n' f2 => ⟨m, n, by rw [show v = .int m from f1, show v2 = .int n from f2], ⟨by omega, by omega, by omega, by omega⟩, r _ H' H0' (n1.trans n') walkM_range⟩)
/-- targets -/
def GJ (g : TG) (P : MP) (ρ ρ' : En) (vs : List Nat) : Prop := ∀ B B0 ω σ H H0 v, Sat B B0 ρ ω σ H H0 → P.f H0 v → ∀ Q : L2.St → Hp → Prop, (∀ σ', Sat B B0 ρ' ω σ' H H0 → wipe σ' vs = wipe σ vs → Q σ' H) → g v σ H Q
theorem wipe_set {σ : L2.St} {i : Nat} {v : Option V} : ∀ {vs : List Nat}, i ∈ vs → wipe (σ.set i v) vs = wipe σ vs
  | [], h => by simp at h
  | w :: vs, h => by
    unfold wipe
    by_cases hi : i ∈ vs
    · rw [wipe_set hi]
    · have hw : i = w := by
        rcases List.mem_cons.mp h with z | z
        · exact z
        · exact absurd z hi
      subst hw
      have key : ∀ (us : List Nat), i ∉ us → wipe (σ.set i v) us = (wipe σ us).set i v := by
        intro us
        induction us with
        | nil => intro _; rfl
        | cons u us ih =>
          intro hu
          have h1 : i ≠ u := fun z => hu (by simp [z])
          have h2 : i ∉ us := fun z => hu (by simp [z])
          unfold wipe
          rw [ih h2, List.set_comm _ _ h1]
      rw [key vs hi, List.set_set]
theorem gj_name {i : Nat} {vs : List Nat} (hi : i ∈ vs) : GJ (gName i) P ρ (ρ.set i (some P)) vs := fun B B0 ω σ H H0 v S f Q q => q _ (S.set i f) (wipe_set hi)
theorem gj_pair {K : PySem.W.Frag} {i j : Nat} {vs : List Nat} (hi : i ∈ vs) (hj : j ∈ vs) : GJ (gTup K 2 (gCons (gName i) (gCons (gName j) gNil))) (tupM [P1, P2]) ρ ((ρ.set i (some P1)).set j (some P2)) vs := fun B B0 ω σ H H0 v S f Q q => by
  obtain ⟨p, vs', e1, hp, f⟩ := f
  cases f with
  | cons f1 f =>
    cases f with
    | cons f2 f =>
      cases f
      exact ⟨p, _, e1, SqT.of (S.sub _ _ hp), rfl, _, _, rfl, _, _, rfl, rfl, q _ ((S.set i f1).set j f2) (by rw [wipe_set hj, wipe_set hi])⟩
abbrev PostL (B B1 : Hp) {α S : Type} (I : List α → S → Prop) (env : S → En) (own : S → Ow) (ys : List α) : L2.St → Hp → Prop := fun σ H => ∃ s H0, I ys s ∧ Sat B B1 (env s) (own s) σ H H0
/-- a for: what holds ahead of a turn, by what is still to come -/
theorem go_for {α S : Type} {xs : List α} {pm : α → MP} {g : TG} {vs : List Nat} (env : S → En) (own : S → Ow) (I : List α → S → Prop) (env' : α → S → En) (hp : PassesOwn (model X.prog X.w) X.A X.env X.xe) (hc : X.calm = true) (hI : Itr X ρ ω tg iter (xs.map pm))
    (hg : PG X tg g) (hgj : ∀ x s, GJ g (pm x) (env s) (env' x s) vs) (s0 : S) (h0 : I xs s0) (hle : Le ρ ω (env s0) (own s0))
    (hbody : ∀ B1, Up B B0 B1 → ∀ x ys s, I (x :: ys) s → Go X B B1 (env' x s) (own s) body { nx := PostL B B1 I env own ys, rt := D.rt, bk := wB X rest D, ct := PostL B B1 I env own ys })
    (hrest : ∀ s, I [] s → Go X B B0 (env s) (own s) rest D) (hs : ∀ x, foldedSetIterable iter X.env x = pure x := by exact fs_plain rfl) : Go X B B0 ρ ω (.For tg iter body [] pos :: rest) D :=
  go_st (ps_for hp hc pi_w hg pss_w hs) fun B1 u σ H H0 S0 => hI.run B B1 σ H H0 S0 _ fun J H1 H01 n1 ⟨G, Y, w, hG, hY⟩ => by
    obtain ⟨H0', S1⟩ := hle B H01 σ H1 H01 (S0.step n1).base
    have u1 : Up B B0 H01 := u.trans (S0.step n1).nx.up
    have hlen : (xs.map pm).length = xs.length := List.length_map ..
    refine for_it (G := G) (Y := Y) (n := (xs.map pm).length) w (fun i σ2 H2 => ∃ s H02, I (xs.drop i) s ∧ Sat B H01 (env s) (own s) σ2 H2 H02) ⟨s0, H0', h0, S1⟩ (fun i σ2 H2 _ ⟨s, H02, _, S2⟩ => hG H2 (S2.nx.b.trans S2.sub)) (fun i v σ2 H2 H2' hi ⟨s, H02, hI2, S2⟩ y => ?_) (fun σ2 H2 ⟨s, H02, hI2, S2⟩ => ?_)
    · obtain ⟨P, hP, hv⟩ := hY i H2 v H2' hi (S2.nx.b.trans S2.sub) y
      obtain ⟨H02', n2, f⟩ := hv H02 S2.nx.b S2.sub
      rw [hlen] at hi
      have ex : xs.drop i = xs[i] :: xs.drop (i + 1) := List.drop_eq_getElem_cons hi
      have eP : P = pm xs[i] := by
        rw [List.getElem?_map, List.getElem?_eq_getElem hi] at hP
        exact (Option.some.inj hP).symm
      subst eP
      rw [ex] at hI2
      refine hgj xs[i] s B H01 (own s) σ2 H2' H02' v (S2.step n2) f _ fun σ3 S3 _ => ?_
      exact (hbody H01 u1 xs[i] (xs.drop (i + 1)) s hI2).run H01 Up.refl σ3 H2' H02' S3
    · rw [hlen, List.drop_length] at hI2
      exact (hrest s hI2).run H01 u1 σ2 H2 H02 S2
/-- a while -/
theorem go_while {S : Type} (env : S → En) (own : S → Ow) (I : S → Prop) (m : S → Nat) (t : S → Bool) (hp : PassesOwn (model X.prog X.w) X.A X.env X.xe) (s0 : S) (h0 : I s0) (hle : Le ρ ω (env s0) (own s0)) (ht : ∀ s, I s → EvT X (env s) (own s) c (t s))
    (hbody : ∀ s, I s → t s = true → Go X B B0 (env s) (own s) body { nx := fun σ H => ∃ s' H0, I s' ∧ m s' < m s ∧ Sat B B0 (env s') (own s') σ H H0, rt := D.rt, bk := wB X rest D, ct := fun σ H => ∃ s' H0, I s' ∧ m s' < m s ∧ Sat B B0 (env s') (own s') σ H H0 })
    (hrest : ∀ s, I s → t s = false → Go X B B0 (env s) (own s) rest D) : Go X B B0 ρ ω (.While c body [] pos :: rest) D :=
  go_st (ps_while hp pt_w pss_w) fun B1 u σ H H0 S0 => by
    obtain ⟨H0', S1⟩ := hle B B1 σ H H0 S0
    refine ⟨fun n σ2 H2 => ∃ s H02, n = m s ∧ I s ∧ Sat B B0 (env s) (own s) σ2 H2 H02, ⟨m s0, s0, H0', rfl, h0, S1.down u⟩, ?_⟩
    rintro n σ2 H2 ⟨s, H02, rfl, hi, S2⟩
    refine (ht s hi).run B B0 σ2 H2 H02 S2 _ fun H3 H03 n3 => ?_
    cases hb : t s with
    | true =>
      refine iteT ⟨fun σ4 H4 => ∃ s' H0, I s' ∧ m s' < m s ∧ Sat B B0 (env s') (own s') σ4 H4 H0, fun σ4 H4 ⟨s', H04, q1, q2, q3⟩ => ⟨m s', q2, s', H04, rfl, q1, q3⟩, ?_⟩
      exact (hbody s hi hb).run B0 Up.refl σ2 H3 H03 (S2.step n3)
    | false => exact iteF ((hrest s hi hb).run B0 Up.refl σ2 H3 H03 (S2.step n3))

/-! ### 8. comprehensions -/
abbrev BX (X : Cx) (scope : Scope) (s : Shared) (H : Hp) (C : Addr) (cl : List (Str × Addr)) (fp : List Addr) : Cx := X.blk s H scope (compEnvC scope cl C X.env) fp
def wipeE (ρ : En) : List Nat → En
  | [] => ρ
  | v :: vs => (wipeE ρ vs).set v none
theorem Sat.wipe {B B0 H H0 : Hp} {σ : L2.St} (S : Sat B B0 ρ ω σ H H0) : ∀ vs : List Nat, Sat B B0 (wipeE ρ vs) ω (L2.wipe σ vs) H H0
  | [] => S
  | v :: vs => by
    have S1 := Sat.wipe S vs
    refine ⟨S1.nx, ?_, fun i P h => ?_, S1.ow, S1.nd, S1.tp⟩
    · show ((wipeE ρ vs).set v none).length = ((L2.wipe σ vs).set v none).length
      rw [List.length_set, List.length_set]; exact S1.len
    · have h : ((wipeE ρ vs).set v none)[i]? = some (some P) := h
      show ∃ w, ((L2.wipe σ vs).set v none)[i]? = some (some w) ∧ P.f H0 w
      by_cases hi : v = i
      · subst hi
        by_cases hv : v < (wipeE ρ vs).length
        · rw [List.getElem?_set_self hv] at h; cases h
        · rw [List.getElem?_eq_none (by simpa using hv)] at h; cases h
      · rw [List.getElem?_set_ne hi] at h
        obtain ⟨w, q1, q2⟩ := S1.sl i P h
        exact ⟨w, by rw [List.getElem?_set_ne hi]; exact q1, q2⟩
theorem lc_all {α : Type} {xs : List α} {pm : α → MP} {g : TG} {tt : TT} {te : TE} {vs : List Nat} {B B0 H H0 : Hp} {σ : L2.St} {J : It} (keep : α → Bool) (pe : α → MP) (ρ' : α → En) (S : Sat B B0 ρ ω σ H H0) (w : WalkM J (xs.map pm) H H0) (hl : xs.length < 1000000)
    (hgj : ∀ x, GJ g (pm x) (wipeE ρ vs) (ρ' x) vs)
    (ht : ∀ x ∈ xs, ∀ σ H H0, Sat B B0 (ρ' x) ω σ H H0 → ∀ Q : Bool → Hp → Prop, (∀ H' H0', Nx H H0 H' H0' → Q (keep x) H') → tt σ H Q)
    (he : ∀ x ∈ xs, keep x = true → ∀ σ H H0, Sat B B0 (ρ' x) ω σ H H0 → ∀ Q : VK, (∀ v H' H0', Nx H H0 H' H0' → (pe x).f H0' v → Q v H') → te σ H Q) (Dl : Addr) (hD : H Dl = none) (Qd : Hp → Prop)
    (hq : ∀ acc H' H0', Nx H H0 H' H0' → H0' Dl = none → H' Dl = some (.lst acc) → All2 H0' acc ((xs.filter keep).map pe) → Qd H') :
    ∃ W : Nat → Nat → Hp → Prop, (∃ m, W 0 m (upd H Dl (.lst []))) ∧ ∀ i m H, W i m H →
      (J.stop i H ∧ Qd H) ∨ (J.go i H ∧ ∃ Nxt : Hp → Prop, (∀ H', Nxt H' → ∃ m', m' < m ∧ W (i + 1) m' H') ∧ ∀ x H', J.yld i H x H' → g x (wipe σ vs) H' fun σ2 H2 => wipe σ2 vs = wipe σ vs ∧ tt σ2 H2 fun b H3 =>
        if b = true then te σ2 H3 fun y H4 => ∃ acc, H4 Dl = some (.lst acc) ∧ acc.length < sizeLine ∧ Nxt (upd H4 Dl (.lst (acc ++ [y]))) else Nxt H3) := by
  obtain ⟨G, Y, w, hG, hY⟩ := w
  have hlen : (xs.map pm).length = xs.length := List.length_map ..
  have hD0 : H0 Dl = none := S.sub.free hD
  have s1 : Same H (upd H Dl (.lst [])) := fun b u e => by rw [upd_ne (ne_of_none e hD)]; exact e
  have stepP : ∀ {H2 H02 : Hp}, Nx H H0 H2 H02 → ∀ {acc}, H2 Dl = some (.lst acc) → H02 Dl = none → ∀ {acc'}, Nx H H0 (upd H2 Dl (.lst acc')) H02 := fun {H2 H02} n acc e1 e2 acc' =>
    ⟨fun b u e => by rw [upd_ne (ne_of_none e hD)]; exact n.a _ _ e, n.b, fun b u e => by rw [upd_ne (ne_of_none e e2)]; exact n.c _ _ e, n.d, fun x vs e e0 => n.e x vs (by
      by_cases hb : x = Dl
      · subst hb; rw [upd_same] at e; cases e
      · rw [upd_ne hb] at e; exact e) e0⟩
  have wwipe : ∀ us : List Nat, wipe (wipe σ us) us = wipe σ us := by
    intro us
    apply List.ext_getElem?
    intro i
    have key : ∀ (ts : List Nat) (τ : L2.St), (wipe τ ts)[i]? = if i ∈ ts then (if i < τ.length then some none else none) else τ[i]? := by
      intro ts
      induction ts with
      | nil => intro τ; simp [wipe]
      | cons t ts ih =>
        intro τ
        show ((wipe τ ts).set t none)[i]? = _
        by_cases hi : t = i
        · subst hi
          by_cases hl : t < τ.length
          · rw [List.getElem?_set_self (by rw [wipe_length]; exact hl)]; simp [hl]
          · rw [List.getElem?_eq_none (by rw [List.length_set, wipe_length]; omega)]; simp [hl]
        · rw [List.getElem?_set_ne hi, ih τ]
          have : i ∈ t :: ts ↔ i ∈ ts := by simp [Ne.symm hi]
          by_cases hm : i ∈ ts <;> simp [hm, Ne.symm hi]
    rw [key us (wipe σ us), wipe_length, key us σ]
    by_cases hm : i ∈ us <;> simp [hm]
  refine lc_it (n := (xs.map pm).length) w (fun i H2 => ∃ H02 acc, Nx H H0 H2 H02 ∧ H02 Dl = none ∧ H2 Dl = some (.lst acc) ∧ All2 H02 acc (((xs.take i).filter keep).map pe)) ?_ (fun i H2 _ ⟨H02, acc, n, _⟩ => hG H2 n.a) (fun i v H2 H2' hi ⟨H02, acc, n, e0, e1, f⟩ y => ?_) (fun H2 ⟨H02, acc, n, e0, e1, f⟩ => ?_)
  · exact ⟨H0, [], ⟨s1, Same.refl _, S.sub.trans s1, fun _ _ _ h => h, fun x vs e e0 => by
      by_cases hb : x = Dl
      · subst hb; rw [upd_same] at e; cases e
      · rw [upd_ne hb] at e; rw [e0] at e; cases e⟩, hD0, upd_same, by simp; exact .nil⟩
  · obtain ⟨P, hP, hv⟩ := hY i H2 v H2' hi n.a y
    obtain ⟨H02', n2, fv⟩ := hv H02 n.b n.c
    rw [hlen] at hi
    have eP : P = pm xs[i] := by
      rw [List.getElem?_map, List.getElem?_eq_getElem hi] at hP
      exact (Option.some.inj hP).symm
    subst eP
    have hm : xs[i] ∈ xs := List.getElem_mem hi
    have etake : xs.take (i + 1) = xs.take i ++ [xs[i]] := by rw [List.take_add_one, List.getElem?_eq_getElem hi]; rfl
    have S2 : Sat B B0 ρ ω σ H2 H02 := S.step n
    have D2 : H02' Dl = none := n2.d _ _ e1 e0
    have E2 : H2' Dl = some (.lst acc) := n2.a _ _ e1
    refine hgj xs[i] B B0 ω (wipe σ vs) H2' H02' v ((S2.step n2).wipe vs) fv _ fun σ3 S3 hw => ⟨by rw [hw]; exact wwipe vs, ?_⟩
    refine ht xs[i] hm σ3 H2' H02' S3 _ fun H3 H03 n3 => ?_
    have D3 : H03 Dl = none := n3.d _ _ E2 D2
    have E3 : H3 Dl = some (.lst acc) := n3.a _ _ E2
    have nn := (n.trans n2).trans n3
    cases hk : keep xs[i] with
    | true =>
      refine iteT (he xs[i] hm hk σ3 H3 H03 (S3.step n3) _ fun z H4 H04 n4 fz => ?_)
      have D4 : H04 Dl = none := n4.d _ _ E3 D3
      have E4 : H4 Dl = some (.lst acc) := n4.a _ _ E3
      have hal := Paired.length f
      refine ⟨acc, E4, ?_, H04, acc ++ [z], stepP (nn.trans n4) E4 D4, D4, upd_same, ?_⟩
      · rw [hal, List.length_map]
        refine Nat.lt_of_le_of_lt (List.length_filter_le _ _) (Nat.lt_of_lt_of_le (m := 1000000) ?_ (by decide))
        rw [List.length_take]; omega
      · rw [etake, List.filter_append, List.map_append]
        refine Paired.app (f.mono ((n2.b.trans n3.b).trans n4.b)) ?_
        simp only [List.filter_cons, hk, if_true, List.filter_nil, List.map_cons, List.map_nil]
        exact .cons fz .nil
    | false =>
      refine iteF ⟨H03, acc, nn, D3, E3, ?_⟩
      rw [etake, List.filter_append, List.map_append]
      simp only [List.filter_cons, hk, List.filter_nil, List.map_nil, List.append_nil]
      simpa using f.mono (n2.b.trans n3.b)
  · rw [hlen, List.take_length] at f
    exact hq acc H2 H02 n e0 e1 f
/-- [elt for tg in iter] -/
theorem evn_lc0 {α : Type} {xs : List α} {pm : α → MP} {g : TG} {elt : Expr} {scope : Scope} {own : List (Str × Nat)} (pe : α → MP) (ρ' : α → En) (hc : X.calm = true) (hN : X.N.Nodup) (hI : ItrC X ρ ω tg iter (xs.map pm)) (hl : xs.length < 1000000) (ok : BlkOk X.N X.env.scope scope own)
    (hg : ∀ s H C cl fp, PG (BX X scope s H C cl fp) tg g) (hgj : ∀ x, GJ g (pm x) (wipeE ρ (own.map (·.2))) (ρ' x) (own.map (·.2)))
    (he : ∀ s H C cl fp, ∀ x ∈ xs, Ev (BX X scope s H C cl fp) (ρ' x) ω elt (pe x)) (hs : ∀ x, foldedSetIterable iter X.env x = pure x := by exact fs_plain rfl) : EvN X ρ ω (.ListComp elt [⟨tg, iter, [], 0⟩] scope pos) (lsM (xs.map pe)) := .mk fun B B0 σ H H0 S Q q =>
  wE_of (pe_lc (g := g) (tt := tYes) (te := fun σ H Q => ∀ s H' C cl fp, wE (BX X scope s H' C cl fp) elt σ H Q) hc hN pi_w ok hg (fun _ _ _ _ _ => pts_nil) (fun s H' C cl fp => ⟨fun pins sh σ H Q I h => h s H' C cl fp pins sh I⟩) hs)
    (hI.run B B0 σ H H0 S _ fun J H1 H01 n1 w => fun Dl hD => lc_all (fun _ => true) pe ρ' (S.step n1) w hl hgj (fun x _ σ H H0 S2 Q q => q H H0 (Nx.refl S2.sub)) (fun x hx _ σ H H0 S2 Q q s H' C cl fp => (he s H' C cl fp x hx).run B B0 σ H H0 S2 Q q) Dl hD _ fun acc H' H0' n e0 e1 f =>
      q Dl _ H' H0' (n1.trans n) (n1.a.free hD) e0 e1 ⟨acc, rfl, by rw [List.filter_eq_self.mpr (fun _ _ => rfl)] at f; exact f⟩)
/-- [elt for tg in iter if c] -/
theorem evn_lc1 {α : Type} {xs : List α} {pm : α → MP} {g : TG} {elt : Expr} {scope : Scope} {own : List (Str × Nat)} (keep : α → Bool) (pe : α → MP) (ρ' : α → En) (hc : X.calm = true) (hN : X.N.Nodup) (hI : ItrC X ρ ω tg iter (xs.map pm)) (hl : xs.length < 1000000) (ok : BlkOk X.N X.env.scope scope own)
    (hg : ∀ s H C cl fp, PG (BX X scope s H C cl fp) tg g) (hgj : ∀ x, GJ g (pm x) (wipeE ρ (own.map (·.2))) (ρ' x) (own.map (·.2)))
    (ht : ∀ s H C cl fp, ∀ x ∈ xs, EvT (BX X scope s H C cl fp) (ρ' x) ω c (keep x))
    (he : ∀ s H C cl fp, ∀ x ∈ xs, keep x = true → Ev (BX X scope s H C cl fp) (ρ' x) ω elt (pe x)) (hs : ∀ x, foldedSetIterable iter X.env x = pure x := by exact fs_plain rfl) : EvN X ρ ω (.ListComp elt [⟨tg, iter, [c], 0⟩] scope pos) (lsM ((xs.filter keep).map pe)) := .mk fun B B0 σ H H0 S Q q =>
  wE_of (pe_lc (g := g) (tt := fun σ H Q => ∀ s H' C cl fp, wT (BX X scope s H' C cl fp) c σ H Q) (te := fun σ H Q => ∀ s H' C cl fp, wE (BX X scope s H' C cl fp) elt σ H Q) hc hN pi_w ok hg
      (fun s H' C cl fp => pts_one ⟨fun pins sh σ H Q I h => h s H' C cl fp pins sh I⟩) (fun s H' C cl fp => ⟨fun pins sh σ H Q I h => h s H' C cl fp pins sh I⟩) hs)
    (hI.run B B0 σ H H0 S _ fun J H1 H01 n1 w => fun Dl hD => lc_all keep pe ρ' (S.step n1) w hl hgj (fun x hx σ H H0 S2 Q q s H' C cl fp => (ht s H' C cl fp x hx).run B B0 σ H H0 S2 Q q) (fun x hx hk σ H H0 S2 Q q s H' C cl fp => (he s H' C cl fp x hx hk).run B B0 σ H H0 S2 Q q) Dl hD _ fun acc H' H0' n e0 e1 f =>
      q Dl _ H' H0' (n1.trans n) (n1.a.free hD) e0 e1 ⟨acc, rfl, f⟩)
end
end DF

namespace DF
open R (rp)
open Dt (toD)
open PySem L2

/-! ### 9. defs: promises, calls -/
structure Pm (ι : Type) where
  args : ι → List MP
  pre : ι → Prop
  ret : ι → Hp → Hp → VK → XK → Prop
def spOf {ι : Type} (m : Pm ι) : Sp := fun vs H Q E => ∃ i H0, (Same H0 H ∧ Tp H H0) ∧ All2 H0 vs (m.args i) ∧ m.pre i ∧ m.ret i H H0 Q E
abbrev retV (P : MP) : Hp → Hp → VK → XK → Prop := fun H H0 Q _ => GoodV P H H0 Q
abbrev retN (φ : MO) : Hp → Hp → VK → XK → Prop := fun H H0 Q _ => GoodN φ H H0 Q
/-- it raises an exception of the class at C -/
abbrev retX (C : Addr) : Hp → Hp → VK → XK → Prop := fun H _ _ E => ∀ H', Same H H' → E (.ref C) none H'
def retE {ε α : Type} (r : Except ε α) (cl : ε → Addr) (g : α → Hp → Hp → VK → XK → Prop) : Hp → Hp → VK → XK → Prop := match r with
  | .ok a => g a
  | .error c => retX (cl c)

/-- what stands behind the def's name keeps the promise -/
structure Cal (P : Program) (w : World) (K : PySem.W.Frag) (mg : Str → Option Value) (base : Heap) (x : Str) (k : Nat) (sp : Sp) : Prop where
  ex : ∃ f fd ps, FnOk P w K mg base (L2.CX P w) k f fd ps sp ∧ mg x = some (.ref f) ∧ PySem.W.keepIn K (.ref f) = true ∧ Binds K fd ps []
structure CalM (P : Program) (w : World) (K : PySem.W.Frag) (mg : Str → Option Value) (base : Heap) (C : Addr) (x : Str) (k : Nat) (sp : Sp) : Prop where
  cl : Cls K C
  ex : ∃ f fd ps, FnOk P w K mg base (L2.CX P w) k f fd ps sp ∧ Meth K C x f ∧ Binds K fd ps []
structure CalC (P : Program) (w : World) (K : PySem.W.Frag) (mg : Str → Option Value) (base : Heap) (x : Str) (C : Addr) (k : Nat) (sp : Sp) : Prop where
  cl : Cls K C
  mgC : mg x = some (.ref C)
  ex : ∃ f fd ps, FnOk P w K mg base (L2.CX P w) k f fd ps sp ∧ Mk K C f ∧ Binds K fd ps []
section
variable {P : Program} {w : World} {K : PySem.W.Frag} {mg : Str → Option Value} {base : Heap}
theorem Cal.mono {x : Str} {k l : Nat} {sp : Sp} (c : Cal P w K mg base x k sp) (h : k ≤ l) : Cal P w K mg base x l sp := ⟨let ⟨f, fd, ps, F, r⟩ := c.ex; ⟨f, fd, ps, F.mono h, r⟩⟩
theorem CalM.mono {C : Addr} {x : Str} {k l : Nat} {sp : Sp} (c : CalM P w K mg base C x k sp) (h : k ≤ l) : CalM P w K mg base C x l sp := ⟨c.cl, let ⟨f, fd, ps, F, r⟩ := c.ex; ⟨f, fd, ps, F.mono h, r⟩⟩
end
abbrev fX (P : Program) (w : World) (K : PySem.W.Frag) (mg : Str → Option Value) (base : Heap) (N : List Str) (qual : Str) (st : Stmt) (f : Addr) (cdv : Value) (A : Around) (outer : List Env) (s : Shared) (H : Hp) (E : XK) : Cx := cxOf (L2.CX P w) P w K mg base N qual (defScope st) f cdv A outer s H E
theorem fX_takes {P : Program} {w : World} {K : PySem.W.Frag} {mg : Str → Option Value} {base : Heap} {N : List Str} {qual : Str} {st : Stmt} {f : Addr} {cdv : Value} {A : Around} {outer : List Env} {s : Shared} {H : Hp} {E : XK} : Takes (fX P w K mg base N qual st f cdv A outer s H E) (fun cls d _ H => E cls d H) := takes_of rfl rfl rfl rfl
theorem fX_passes {P : Program} {w : World} {K : PySem.W.Frag} {mg : Str → Option Value} {base : Heap} {N : List Str} {qual : Str} {st : Stmt} {f : Addr} {cdv : Value} {A : Around} {outer : List Env} {s : Shared} {H : Hp} {E : XK} : PassesOwn (model P w) (fX P w K mg base N qual st f cdv A outer s H E).A (fX P w K mg base N qual st f cdv A outer s H E).env (fX P w K mg base N qual st f cdv A outer s H E).xe := passes_of (X := fX P w K mg base N qual st f cdv A outer s H E) rfl
/-- the state at a def's entry -/
theorem sat_start {N : List Str} {vs : List V} {Ps : List MP} {H H0 : Hp} {n : Nat} (s0 : Same H0 H) (t0 : Tp H H0) (f : All2 H0 vs Ps) (hl : Ps.length = n) : Sat H H0 (Ps.map some ++ List.replicate (N.length - n) none) [] (L2.start N vs) H H0 := by
  have hv := Paired.length f
  refine ⟨Nx.refl s0, by simp [L2.start, hv, hl], fun i P hi => ?_, fun a φ h => by simp at h, by simp, t0⟩
  by_cases hlt : i < Ps.length
  · rw [List.getElem?_append_left (by rw [List.length_map]; exact hlt), List.getElem?_map] at hi
    cases e : Ps[i]? with
    | none => rw [e] at hi; cases hi
    | some P' =>
      rw [e] at hi
      have hi : P' = P := Option.some.inj (Option.some.inj hi)
      subst hi
      obtain ⟨v, h1, h2⟩ := Paired.get f e
      refine ⟨v, ?_, h2⟩
      unfold L2.start
      rw [List.getElem?_append_left (by rw [List.length_map, hv]; exact hlt), List.getElem?_map, h1]
      rfl
  · rw [List.getElem?_append_right (by rw [List.length_map]; omega)] at hi
    rw [List.getElem?_replicate] at hi
    split at hi <;> cases hi
/-- THE RULE for a def -/
theorem fn_go {P : Program} {w : World} {K : PySem.W.Frag} {mg : Str → Option Value} {base : Heap} {ι : Type} {m : Pm ι} {x qual : Str} {st : Stmt} {f : Addr} {fd : FuncData} {N ps : List Str} {k : Nat} (F : Fun K x qual st f fd) (S : FnScope N ps (defScope st)) (hlen : ∀ i, (m.args i).length = ps.length)
    (body : ∀ (cdv : Value) (A : Around) (outer : List Env) (s : Shared) (H H0 : Hp) (Q : VK) (E : XK) (i : ι), Room k (fX P w K mg base N qual st f cdv A outer s H E).A → m.pre i → m.ret i H H0 Q E → Same H0 H →
      Go (fX P w K mg base N qual st f cdv A outer s H E) H H0 ((m.args i).map some ++ List.replicate (N.length - ps.length) none) [] (defBody st) { nx := fun _ H' => Q .non H', rt := Q }) : FnOk P w K mg base (L2.CX P w) (k + 1) f fd ps (spOf m) := by
  refine F.okX S (fun vs H Q E ⟨i, H0, s0, ha, _, _⟩ => (Paired.length ha).trans (hlen i)) fun cdv A outer s H vs Q E hr ⟨i, H0, ⟨s0, t0⟩, ha, hp, hret⟩ => ?_
  refine ⟨_, pss_w, ?_⟩
  exact (body cdv A outer s H H0 Q E i hr hp hret s0).run H0 Up.refl _ H H0 (sat_start s0 t0 ha (hlen i))
/-- what stays, and the new tuples -/
def addT (H H' H0 : Hp) : Hp := fun x => (H0 x).or (match H x with | none => (match H' x with | some (.tup vs) => some (.tup vs) | _ => none) | some _ => none)
theorem nx_addT {H H' H0 : Hp} (s0 : Same H0 H) (s : Same H H') : Nx H H0 H' (addT H H' H0) := by
  refine ⟨s, fun b u e => ?_, fun b u e => ?_, fun b u e e0 => ?_, fun b vs e e0 => ?_⟩
  · unfold addT; rw [e]; rfl
  · unfold addT at e
    cases h0 : H0 b with
    | some o => rw [h0] at e; cases e; exact s _ _ (s0 _ _ h0)
    | none =>
      rw [h0] at e
      cases h1 : H b with
      | some o => rw [h1] at e; cases e
      | none =>
        rw [h1] at e
        cases h2 : H' b with
        | none => rw [h2] at e; cases e
        | some o =>
          rw [h2] at e
          cases o <;> first | (cases e; done) | (cases e; rfl)
  · unfold addT; rw [e0, e]; rfl
  · unfold addT
    have : H0 b = none := s0.free e0
    rw [this, e0, e]; rfl
/-- the arguments as they stand in the whole heap -/
structure EvAC (X : Cx) (ρ : En) (ω : Ow) (es : List Expr) (Ps : List MP) : Prop where
  run : ∀ B B0 σ H H0, Sat B B0 ρ ω σ H H0 → ∀ Q : List V → Hp → Prop, (∀ vs H' H0', Nx H H0 H' H0' → All2 H' vs Ps → Q vs H') → wA X es σ H Q
/-- e raises; W: what is wanted of it -/
structure Rz (X : Cx) (W : WX) (ρ : En) (ω : Ow) (e : Expr) (C : Addr) : Prop where
  run : Takes X W → ∀ B B0 σ H H0, Sat B B0 ρ ω σ H H0 → ∀ Q : VK, (∀ H', Same H H' → W (.ref C) none σ H') → wE X e σ H Q
section
variable {X : Cx} {B B0 : Hp} {ρ ρ' : En} {ω ω' : Ow} {e a b c o : Expr} {es : List Expr} {P P1 P2 : MP} {φ ψ : MO} {pos p p2 apos : Pos} {x : Str} {rest body orelse : List Stmt} {D : Ends} {st : Stmt} {Ps Ps' : List MP} {ι : Type} {m : Pm ι} {i : ι} {k : Nat} {C : Addr} {W : WX}
theorem eac_nil : EvAC X ρ ω [] [] := .mk fun B B0 σ H H0 S Q q => wA_of pa_nil (q [] H H0 (Nx.refl S.sub) .nil)
theorem eac_cons (h : Ev X ρ ω e P) (hr : EvAC X ρ ω es Ps) (hs : starEach (e :: es) X.env = (false, eval e X.env) :: starEach es X.env := by exact se_cons rfl) : EvAC X ρ ω (e :: es) (P :: Ps) := .mk fun B B0 σ H H0 S Q q =>
  wA_of (pa_cons pe_w pa_w hs) (h.run B B0 σ H H0 S _ fun v H1 H01 n1 f1 => hr.run B B0 σ H1 H01 (S.step n1) _ fun vs H2 H02 n2 f2 => q (v :: vs) H2 H02 (n1.trans n2) (.cons (P.mono (n1.c.trans n2.a) f1) f2))
theorem eac_consC (h : EvC X ρ ω e φ) (hr : EvAC X ρ ω es Ps) (hs : starEach (e :: es) X.env = (false, eval e X.env) :: starEach es X.env := by exact se_cons rfl) : EvAC X ρ ω (e :: es) (obM φ :: Ps) := .mk fun B B0 σ H H0 S Q q =>
  wA_of (pa_cons pe_w pa_w hs) (h.run B B0 σ H H0 S _ fun p o H1 H01 n1 h1 f1 => hr.run B B0 σ H1 H01 (S.step n1) _ fun vs H2 H02 n2 f2 => q (.ref p :: vs) H2 H02 (n1.trans n2) (.cons ⟨p, o, rfl, n2.a _ _ h1, φ.mono (n1.c.trans n2.a) f1⟩ f2))
theorem w_call {sp : Sp} (G : Cal X.prog X.w X.K X.mg X.base x k sp) (hr : Room k X.A) (hg : Gl X x) (hdb : (x == ("__debug__" : Str)) = false) (E : XK) (hx : Passes (L2.CX X.prog X.w) X E)
    (he : starEach (e :: es) X.env = (false, eval e X.env) :: starEach es X.env) (hpl : (backTo pos (starEach es X.env)).any (·.1) = false) {σ : L2.St} {H : Hp} {Q : VK} (h : wA X (e :: es) σ H fun vs H1 => sp vs H1 Q E) : wE X (.Call (.Name x p) (e :: es) [] pos) σ H Q := by
  obtain ⟨f, fd, ps, F, hm, hk, hb⟩ := G.ex
  refine wE_of (pe_call F hr hg hm hk hb .nil hx pa_w hdb he hpl) ?_
  show wA X (e :: es) σ H fun vs H1 => sp (vs ++ []) H1 Q E
  simp only [List.append_nil]
  exact h
theorem ev_call (G : Cal X.prog X.w X.K X.mg X.base x k (spOf m)) (i : ι) (hr : Room k X.A) (hg : Gl X x) (hdb : (x == ("__debug__" : Str)) = false) (ha : EvA X ρ ω (e :: es) (m.args i)) (hp : m.pre i) (j : ∀ H H0 Q, GoodV P H H0 Q → m.ret i H H0 Q E0)
    (he : starEach (e :: es) X.env = (false, eval e X.env) :: starEach es X.env := by exact se_cons rfl) (hpl : (backTo pos (starEach es X.env)).any (·.1) = false := by exact se_any rfl) : Ev X ρ ω (.Call (.Name x p) (e :: es) [] pos) P := .mk fun B B0 σ H H0 S Q q =>
  w_call G hr hg hdb E0 passL he hpl (ha.run B B0 σ H H0 S _ fun vs H1 H01 n1 f1 => ⟨i, H01, ⟨n1.c, (S.step n1).tp⟩, f1, hp, j H1 H01 Q (GoodV.step n1 q)⟩)
theorem evn_call (G : Cal X.prog X.w X.K X.mg X.base x k (spOf m)) (i : ι) (hr : Room k X.A) (hg : Gl X x) (hdb : (x == ("__debug__" : Str)) = false) (ha : EvA X ρ ω (e :: es) (m.args i)) (hp : m.pre i) (j : ∀ H H0 Q, GoodN φ H H0 Q → m.ret i H H0 Q E0)
    (he : starEach (e :: es) X.env = (false, eval e X.env) :: starEach es X.env := by exact se_cons rfl) (hpl : (backTo pos (starEach es X.env)).any (·.1) = false := by exact se_any rfl) : EvN X ρ ω (.Call (.Name x p) (e :: es) [] pos) φ := .mk fun B B0 σ H H0 S Q q =>
  w_call G hr hg hdb E0 passL he hpl (ha.run B B0 σ H H0 S _ fun vs H1 H01 n1 f1 => ⟨i, H01, ⟨n1.c, (S.step n1).tp⟩, f1, hp, j H1 H01 Q (GoodN.step n1 q)⟩)
/-- a call with things of ours handed in, that hands back a plain value -/
theorem ev_callC (G : Cal X.prog X.w X.K X.mg X.base x k (spOf m)) (i : ι) (hr : Room k X.A) (hg : Gl X x) (hdb : (x == ("__debug__" : Str)) = false) (ha : EvAC X ρ ω (e :: es) (m.args i)) (hp : m.pre i) (j : ∀ H H0 Q, GoodV P H H0 Q → m.ret i H H0 Q E0) (hP : ∀ H H' v, P.f H v → P.f H' v)
    (he : starEach (e :: es) X.env = (false, eval e X.env) :: starEach es X.env := by exact se_cons rfl) (hpl : (backTo pos (starEach es X.env)).any (·.1) = false := by exact se_any rfl) : Ev X ρ ω (.Call (.Name x p) (e :: es) [] pos) P := .mk fun B B0 σ H H0 S Q q =>
  w_call G hr hg hdb E0 passL he hpl (ha.run B B0 σ H H0 S _ fun vs H1 H01 n1 f1 => ⟨i, H1, ⟨Same.refl _, fun _ _ e => e⟩, f1, hp, j H1 H1 Q fun v H' H0' n' fv => q v H' (addT H1 H' H01) (n1.trans (nx_addT n1.c n'.a)) (hP _ _ _ fv)⟩)
theorem rz_call (G : Cal X.prog X.w X.K X.mg X.base x k (spOf m)) (i : ι) (hr : Room k X.A) (hg : Gl X x) (hdb : (x == ("__debug__" : Str)) = false) (ha : EvAC X ρ ω (e :: es) (m.args i)) (hp : m.pre i) (j : ∀ H H0 Q E, (∀ H', Same H H' → E (.ref C) none H') → m.ret i H H0 Q E)
    (he : starEach (e :: es) X.env = (false, eval e X.env) :: starEach es X.env := by exact se_cons rfl) (hpl : (backTo pos (starEach es X.env)).any (·.1) = false := by exact se_any rfl) : Rz X W ρ ω (.Call (.Name x p) (e :: es) [] pos) C := .mk fun tk B B0 σ H H0 S Q q => by
  obtain ⟨f, fd, ps, F, hm, hk, hb⟩ := G.ex
  refine wE_of (pe_callS (E := WE W) F hr hg hm hk hb (fun σ => passAt tk σ) pa_w hdb he hpl) ?_
  exact ha.run B B0 σ H H0 S _ fun vs H1 H01 n1 f1 => ⟨i, H1, ⟨Same.refl _, fun _ _ e => e⟩, f1, hp, j H1 H1 Q _ fun H' s' => q H' (n1.a.trans s')⟩
/-! methods -/
def insM (C : Addr) (fl : List (Str × MP)) : MO := ⟨fun H o => ∃ dx vs, o = .ins C dx vs ∧ vs.length ≤ 100 ∧ Paired (fun (x : Str × V) (y : Str × MP) => x.1 = y.1 ∧ y.2.f H x.2) vs fl,
  fun s ⟨dx, vs, h1, hl, h2⟩ => ⟨dx, vs, h1, hl, Paired.mapP h2 fun _ y q => ⟨q.1, y.2.mono s q.2⟩⟩⟩
theorem look_ins {H : Hp} {f : Str} : ∀ {vs : List (Str × V)} {fl : List (Str × MP)}, Paired (fun (x : Str × V) (y : Str × MP) => x.1 = y.1 ∧ y.2.f H x.2) vs fl → (∀ P, fl.lookup f = some P → ∃ v, vs.lookup f = some v ∧ P.f H v) ∧ (fl.lookup f = none → vs.lookup f = none)
  | _, _, .nil => ⟨fun P h => by simp at h, fun _ => rfl⟩
  | (x :: vs), (y :: fl), .cons r t => by
    have ih := look_ins (f := f) t
    obtain ⟨x1, x2⟩ := x
    obtain ⟨y1, y2⟩ := y
    obtain ⟨r1, r2⟩ := r
    have r1 : x1 = y1 := r1
    subst r1
    cases hb : f == x1 with
    | true =>
      simp only [List.lookup_cons, hb]
      exact ⟨fun P h => by cases h; exact ⟨x2, rfl, r2⟩, fun h => nomatch h⟩
    | false =>
      simp only [List.lookup_cons, hb]
      exact ih
theorem ev_fld {fl : List (Str × MP)} {f : Str} (h : EvC X ρ ω o (insM C fl)) (c : Cls X.K C) (n : NoAttr X.K C f) (l : fl.lookup f = some P) (hb : attributeBase o f X.env (eval o X.env) = eval o X.env := by exact ab_plain rfl) : Ev X ρ ω (.Attribute o f pos) P := .mk fun B B0 σ H H0 S Q q =>
  wE_of (pe_fld pe_w hb) (h.run B B0 σ H H0 S _ fun p ob H' H0' n' hp ⟨dx, vs, e1, hl, f1⟩ => by
    subst e1
    obtain ⟨v, h1, h2⟩ := (look_ins f1).1 P l
    exact ⟨p, C, dx, vs, v, rfl, hp, c, n, h1, q v H' H0' n' h2⟩)
/-- a field that holds an object of ours -/
theorem evc_fld {fl : List (Str × MP)} {f : Str} {q : Addr} (h : EvC X ρ ω o (insM C fl)) (c : Cls X.K C) (n : NoAttr X.K C f) (l : fl.lookup f = some (atM q)) (hw : (q, φ) ∈ ω) (hb : attributeBase o f X.env (eval o X.env) = eval o X.env := by exact ab_plain rfl) : EvC X ρ ω (.Attribute o f pos) φ := .mk fun B B0 σ H H0 S Q k =>
  wE_of (pe_fld pe_w hb) (h.run B B0 σ H H0 S _ fun p ob H' H0' n' hp ⟨dx, vs, e1, hl, f1⟩ => by
    subst e1
    obtain ⟨v, h1, h2⟩ := (look_ins f1).1 _ l
    have h2 : v = .ref q := h2
    subst h2
    obtain ⟨_, _, oq, hq, fq⟩ := (S.step n').ow q φ hw
    exact ⟨p, C, dx, vs, _, rfl, hp, c, n, h1, k q oq H' H0' n' hq fq⟩)
theorem w_meth {sp : Sp} {fl : List (Str × MP)} (G : CalM X.prog X.w X.K X.mg X.base C x k sp) (hr : Room k X.A) {pl : Sem Bool} (E : XK) (hx : Passes (L2.CX X.prog X.w) X E) (h : EvC X ρ ω o (insM C fl)) (hl : fl.lookup x = none)
    (hst : starEach (e :: es) X.env = (false, eval e X.env) :: starEach es X.env) (hpl : (backTo pos (starEach es X.env)).any (·.1) = false)
    (ht : eval (.Call (.Attribute o x apos) (e :: es) [] pos) X.env = (do
      let ov ← eval o X.env
      standAt apos.atName
      let (f, first) ← holding [ov] (getMethod ov x pl)
      callWith pos f first (backTo pos (starEach (e :: es) X.env)) (backToKw pos (keywordEach [] X.env))))
    {σ : L2.St} {H H0 : Hp} {Q : VK} (S : Sat B B0 ρ ω σ H H0) (j : ∀ q ob H1 H01, Nx H H0 H1 H01 → H1 q = some ob → (insM C fl).f H01 ob → wA X (e :: es) σ H1 fun vs H2 => sp (.ref q :: vs) H2 Q E) : wE X (.Call (.Attribute o x apos) (e :: es) [] pos) σ H Q := by
  obtain ⟨f, fd, ps, F, hm, hb⟩ := G.ex
  refine wE_of (pe_meth pe_w G.cl hm F hr hb .nil hx pa_w hst hpl ht) (h.run B B0 σ H H0 S _ fun q ob H1 H01 n1 hq f1 => ?_)
  obtain ⟨dx, vs, e1, hl', f1'⟩ := id f1
  have e1' := e1
  subst e1
  refine ⟨q, dx, vs, rfl, hq, (look_ins f1').2 hl, ?_⟩
  have := j q _ H1 H01 n1 hq f1
  simpa only [List.append_nil] using this
theorem w_meth0 {sp : Sp} {fl : List (Str × MP)} (G : CalM X.prog X.w X.K X.mg X.base C x k sp) (hr : Room k X.A) {pl : Sem Bool} (E : XK) (hx : Passes (L2.CX X.prog X.w) X E) (h : EvC X ρ ω o (insM C fl)) (hl : fl.lookup x = none)
    (ht : eval (.Call (.Attribute o x apos) [] [] pos) X.env = (do
      let ov ← eval o X.env
      standAt apos.atName
      let (f, first) ← holding [ov] (getMethod ov x pl)
      callWith pos f first (backTo pos (starEach [] X.env)) (backToKw pos (keywordEach [] X.env))))
    {σ : L2.St} {H H0 : Hp} {Q : VK} (S : Sat B B0 ρ ω σ H H0) (j : ∀ q ob H1 H01, Nx H H0 H1 H01 → H1 q = some ob → (insM C fl).f H01 ob → sp [.ref q] H1 Q E) : wE X (.Call (.Attribute o x apos) [] [] pos) σ H Q := by
  obtain ⟨f, fd, ps, F, hm, hb⟩ := G.ex
  refine wE_of (pe_meth0 pe_w G.cl hm F hr hb .nil hx ht) (h.run B B0 σ H H0 S _ fun q ob H1 H01 n1 hq f1 => ?_)
  obtain ⟨dx, vs, e1, hl', f1'⟩ := id f1
  have e1' := e1
  subst e1
  refine ⟨q, dx, vs, rfl, hq, (look_ins f1').2 hl, ?_⟩
  exact j q _ H1 H01 n1 hq f1
/-- a method of an object that stays -/
theorem ev_meth {fl : List (Str × MP)} (G : CalM X.prog X.w X.K X.mg X.base C x k (spOf m)) (i : ι) (hr : Room k X.A) (h : Ev X ρ ω o (obM (insM C fl))) (hl : fl.lookup x = none) (ha : EvA X ρ ω (e :: es) Ps) (hi : m.args i = obM (insM C fl) :: Ps) (hp : m.pre i) (j : ∀ H H0 Q, GoodV P H H0 Q → m.ret i H H0 Q E0) {pl : Sem Bool}
    (hst : starEach (e :: es) X.env = (false, eval e X.env) :: starEach es X.env := by exact se_cons rfl) (hpl : (backTo pos (starEach es X.env)).any (·.1) = false := by exact se_any rfl)
    (ht : eval (.Call (.Attribute o x apos) (e :: es) [] pos) X.env = (do
      let ov ← eval o X.env
      standAt apos.atName
      let (f, first) ← holding [ov] (getMethod ov x pl)
      callWith pos f first (backTo pos (starEach (e :: es) X.env)) (backToKw pos (keywordEach [] X.env))) := by exact ev_attr rfl rfl (by decide) rfl) : Ev X ρ ω (.Call (.Attribute o x apos) (e :: es) [] pos) P := .mk fun B B0 σ H H0 S Q q => by
  obtain ⟨f, fd, ps, F, hm, hb⟩ := G.ex
  refine wE_of (pe_meth pe_w G.cl hm F hr hb .nil passL pa_w hst hpl ht) (h.run B B0 σ H H0 S _ fun v H1 H01 n1 f0 => ?_)
  obtain ⟨r, ob, rfl, hr0, dx, vs, rfl, hlen, fs⟩ := id f0
  refine ⟨r, dx, vs, rfl, n1.c _ _ hr0, (look_ins fs).2 hl, ha.run B B0 σ H1 H01 (S.step n1) _ fun us H2 H02 n2 f2 => ?_⟩
  rw [List.append_nil]
  exact ⟨i, H02, ⟨n2.c, ((S.step n1).step n2).tp⟩, by rw [hi]; exact .cons ((obM (insM C fl)).mono n2.b f0) f2, hp, j H2 H02 Q (GoodV.step (n1.trans n2) q)⟩
theorem evn_meth {fl : List (Str × MP)} (G : CalM X.prog X.w X.K X.mg X.base C x k (spOf m)) (i : ι) (hr : Room k X.A) (h : Ev X ρ ω o (obM (insM C fl))) (hl : fl.lookup x = none) (ha : EvA X ρ ω (e :: es) Ps) (hi : m.args i = obM (insM C fl) :: Ps) (hp : m.pre i) (j : ∀ H H0 Q, GoodN φ H H0 Q → m.ret i H H0 Q E0) {pl : Sem Bool}
    (hst : starEach (e :: es) X.env = (false, eval e X.env) :: starEach es X.env := by exact se_cons rfl) (hpl : (backTo pos (starEach es X.env)).any (·.1) = false := by exact se_any rfl)
    (ht : eval (.Call (.Attribute o x apos) (e :: es) [] pos) X.env = (do
      let ov ← eval o X.env
      standAt apos.atName
      let (f, first) ← holding [ov] (getMethod ov x pl)
      callWith pos f first (backTo pos (starEach (e :: es) X.env)) (backToKw pos (keywordEach [] X.env))) := by exact ev_attr rfl rfl (by decide) rfl) : EvN X ρ ω (.Call (.Attribute o x apos) (e :: es) [] pos) φ := .mk fun B B0 σ H H0 S Q q => by
  obtain ⟨f, fd, ps, F, hm, hb⟩ := G.ex
  refine wE_of (pe_meth pe_w G.cl hm F hr hb .nil passL pa_w hst hpl ht) (h.run B B0 σ H H0 S _ fun v H1 H01 n1 f0 => ?_)
  obtain ⟨r, ob, rfl, hr0, dx, vs, rfl, hlen, fs⟩ := id f0
  refine ⟨r, dx, vs, rfl, n1.c _ _ hr0, (look_ins fs).2 hl, ha.run B B0 σ H1 H01 (S.step n1) _ fun us H2 H02 n2 f2 => ?_⟩
  rw [List.append_nil]
  exact ⟨i, H02, ⟨n2.c, ((S.step n1).step n2).tp⟩, by rw [hi]; exact .cons ((obM (insM C fl)).mono n2.b f0) f2, hp, j H2 H02 Q (GoodN.step (n1.trans n2) q)⟩
theorem evn_meth0 {fl : List (Str × MP)} (G : CalM X.prog X.w X.K X.mg X.base C x k (spOf m)) (i : ι) (hr : Room k X.A) (h : Ev X ρ ω o (obM (insM C fl))) (hl : fl.lookup x = none) (hi : m.args i = [obM (insM C fl)]) (hp : m.pre i) (j : ∀ H H0 Q, GoodN φ H H0 Q → m.ret i H H0 Q E0) {pl : Sem Bool}
    (ht : eval (.Call (.Attribute o x apos) [] [] pos) X.env = (do
      let ov ← eval o X.env
      standAt apos.atName
      let (f, first) ← holding [ov] (getMethod ov x pl)
      callWith pos f first (backTo pos (starEach [] X.env)) (backToKw pos (keywordEach [] X.env))) := by exact ev_attr rfl rfl (by decide) rfl) : EvN X ρ ω (.Call (.Attribute o x apos) [] [] pos) φ := .mk fun B B0 σ H H0 S Q q => by
  obtain ⟨f, fd, ps, F, hm, hb⟩ := G.ex
  refine wE_of (pe_meth0 pe_w G.cl hm F hr hb .nil passL ht) (h.run B B0 σ H H0 S _ fun v H1 H01 n1 f0 => ?_)
  obtain ⟨r, ob, rfl, hr0, dx, vs, rfl, hlen, fs⟩ := id f0
  exact ⟨r, dx, vs, rfl, n1.c _ _ hr0, (look_ins fs).2 hl, i, H01, ⟨n1.c, (S.step n1).tp⟩, by rw [hi]; exact .cons f0 .nil, hp, j H1 H01 Q (GoodN.step n1 q)⟩

/-! raising -/
/-- what is known of an own class of errors without __init__ -/
structure Err (K : PySem.W.Frag) (mg : Str → Option Value) (x : Str) (C : Addr) : Prop where
  g : mg x = some (.ref C)
  x : PySem.W.excIn K C [.type "ValueError", .type "Exception", .type "BaseException", .type "object"] "ValueError.__new__" = true
  k : PySem.W.keepIn K (.ref C) = true
  b : PySem.W.subIn K (.ref C) (.type "BaseException") = some true
  t : PySem.W.typeIn K (.ref C) = some (.type "type")
theorem go_raise {z : Str} {j : Nat} (T : Err X.K X.mg x C) (hc : X.calm = true) (tk : Takes X W) (hg : Gl X x) (hdb : (x == ("__debug__" : Str)) = false) (k : ∀ B1, Up B B0 B1 → ∀ σ H H0, Sat B B1 ρ ω σ H H0 → W (.ref C) none σ H) : Go X B B0 ρ ω (.Raise (some (.Call (.Name x p) [.Constant (.str z) j p2] [] pos)) none apos :: rest) D :=
  go_st (ps_raise hc tk (pmk_own PySem.F.excBase_ValueError T.x T.g T.k (raises_own T.b T.t) hg hdb)) fun B1 u σ H H0 S => k B1 u σ H H0 S
/-- the value raises: so does the statement -/
theorem go_asg_rz (h : Rz X W ρ ω e C) (tk : Takes X W) (k : ∀ B1, Up B B0 B1 → ∀ σ H H0, Sat B B1 ρ ω σ H H0 → ∀ H', Same H H' → W (.ref C) none σ H') {tg : Expr} {g : TG} (hgt : PG X tg g)
    (hs : swapsWithSole [tg] e pos.line X.env = pure false := by exact sw_sole rfl) (hw : swappedStores [tg] e X.env = pure none := by exact ss_any rfl) (h1 : (assignEach [tg] X.env).map (·.2) = [assign tg X.env] := by first | exact ae_name | exact ae_tup) : Go X B B0 ρ ω (.Assign [tg] e pos :: rest) D :=
  go_st (ps_asg pe_w hgt hs hw h1) fun B1 u σ H H0 S => h.run tk B B1 σ H H0 S _ (k B1 u σ H H0 S)
theorem go_ret_rz (h : Rz X W ρ ω e C) (tk : Takes X W) (k : ∀ B1, Up B B0 B1 → ∀ σ H H0, Sat B B1 ρ ω σ H H0 → ∀ H', Same H H' → W (.ref C) none σ H') : Go X B B0 ρ ω (.Return (some e) pos :: rest) D :=
  go_st (ps_ret pe_w) fun B1 u σ H H0 S => h.run tk B B1 σ H H0 S _ (k B1 u σ H H0 S)
theorem go_drop_rz (h : Rz X W ρ ω e C) (tk : Takes X W) (k : ∀ B1, Up B B0 B1 → ∀ σ H H0, Sat B B1 ρ ω σ H H0 → ∀ H', Same H H' → W (.ref C) none σ H') (hs : swapsWith e none pos.line X.env = pure false := by exact sw_any rfl) : Go X B B0 ρ ω (.Expr e pos :: rest) D :=
  go_st (ps_expr pe_w hs) fun B1 u σ H H0 S => h.run tk B B1 σ H H0 S _ (k B1 u σ H H0 S)
/-! fields are stored -/
def putM (f : Str) (P : MP) : List (Str × MP) → List (Str × MP)
  | [] => [(f, P)]
  | (g, Q) :: r => if g = f then (g, P) :: r else (g, Q) :: putM f P r
theorem put_ins {H : Hp} {f : Str} {v : V} {P : MP} (hv : P.f H v) : ∀ {vs : List (Str × V)} {fl : List (Str × MP)}, Paired (fun (x : Str × V) (y : Str × MP) => x.1 = y.1 ∧ y.2.f H x.2) vs fl → Paired (fun (x : Str × V) (y : Str × MP) => x.1 = y.1 ∧ y.2.f H x.2) (putF f v vs) (putM f P fl)
  | _, _, .nil => .cons ⟨rfl, hv⟩ .nil
  | (x :: vs), (y :: fl), .cons r t => by
    obtain ⟨x1, x2⟩ := x
    obtain ⟨y1, y2⟩ := y
    have r1 : x1 = y1 := r.1
    subst r1
    show Paired _ (if x1 = f then (x1, v) :: vs else (x1, x2) :: putF f v vs) (if x1 = f then (x1, P) :: fl else (x1, y2) :: putM f P fl)
    by_cases h : x1 = f
    · rw [if_pos h, if_pos h]; exact .cons ⟨rfl, hv⟩ t
    · rw [if_neg h, if_neg h]; exact .cons ⟨rfl, r.2⟩ (put_ins hv t)
theorem go_setf {fl : List (Str × MP)} {f : Str} {q : Addr} {pos' : Pos} (j : Nat) {n : Nat} (hs : ρ[n]? = some (some (atM q))) (hw : ω[j]? = some (q, insM C fl)) (c : Cls X.K C) (na : NoAttr X.K C f) (h : Ev X ρ ω e P) (hlen : fl.length < 50) (hN : X.N[n]? = some x) (hv : Vis X.env.scope x) (hd : (x == ("__debug__" : Str)) = false) (hcd : (x == ("__classdict__" : Str)) = false)
    (k : Go X B B0 ρ (ω.set j (q, insM C (putM f P fl))) rest D) (hsw : swapsWith e (some (.Attribute (.Name x p) f pos')) pos.line X.env = pure false := by exact sw_any rfl) : Go X B B0 ρ ω (.Assign [.Attribute (.Name x p) f pos'] e pos :: rest) D :=
  go_st (ps_fld (pe_var hN hv hd hcd) pe_w hsw) fun B1 u σ H H0 S => h.run B B1 σ H H0 S _ fun v H' H0' n' fv => by
    obtain ⟨w, h1, h2⟩ := (S.step n').sl n _ hs
    have h2 : w = .ref q := h2
    subst h2
    obtain ⟨hB, h0, ob, hq, dx, vs, e1, hl, f1⟩ := (S.step n').ow q _ (List.mem_of_getElem? hw)
    subst e1
    have hl2 := Paired.length f1
    refine ⟨_, h1, q, C, dx, vs, rfl, hq, c, na, by omega, ?_⟩
    refine k.run B1 u σ _ H0' ((S.step n').put hw ⟨dx, _, rfl, ?_, put_ins fv f1⟩)
    have := length_putF f v vs
    omega
theorem go_setfN {fl : List (Str × MP)} {f : Str} {q : Addr} {pos' : Pos} (j : Nat) {n : Nat} (hs : ρ[n]? = some (some (atM q))) (hw : ω[j]? = some (q, insM C fl)) (c : Cls X.K C) (na : NoAttr X.K C f) (h : EvN X ρ ω e φ) (hlen : fl.length < 50) (hN : X.N[n]? = some x) (hv : Vis X.env.scope x) (hd : (x == ("__debug__" : Str)) = false) (hcd : (x == ("__classdict__" : Str)) = false)
    (k : ∀ z : Addr, Go X B B0 ρ ((z, φ) :: ω.set j (q, insM C (putM f (atM z) fl))) rest D) (hsw : swapsWith e (some (.Attribute (.Name x p) f pos')) pos.line X.env = pure false := by exact sw_any rfl) : Go X B B0 ρ ω (.Assign [.Attribute (.Name x p) f pos'] e pos :: rest) D :=
  go_st (ps_fld (pe_var hN hv hd hcd) pe_w hsw) fun B1 u σ H H0 S => h.run B B1 σ H H0 S _ fun z oz H' H0' n' hz hz0 hz' fz => by
    have S' := S.step n'
    obtain ⟨w, h1, h2⟩ := S'.sl n _ hs
    have h2 : w = .ref q := h2
    subst h2
    obtain ⟨hB, h0, ob, hq, dx, vs, e1, hl, f1⟩ := S'.ow q _ (List.mem_of_getElem? hw)
    subst e1
    have hl2 := Paired.length f1
    have hzne : ∀ a ψ, (a, ψ) ∈ ω → a ≠ z := fun a ψ hm => by
      obtain ⟨_, _, w, q3, _⟩ := S.ow a ψ hm
      exact ne_of_none q3 hz
    refine ⟨_, h1, q, C, dx, vs, rfl, hq, c, na, by omega, ?_⟩
    have S2 := S'.put (o' := .ins C dx (putF f (.ref z) vs)) (φ' := insM C (putM f (atM z) fl)) hw ⟨dx, _, rfl, by have := length_putF f (.ref z) vs; omega, put_ins rfl f1⟩
    refine (k z).run B1 u σ _ H0' (S2.own (fun a ψ hm => ?_) (S.nx.a.free hz) hz0 ?_ fz)
    · obtain ⟨i', hi'⟩ := List.getElem?_of_mem hm
      by_cases hij : j = i'
      · subst hij
        have hjl : j < ω.length := (List.getElem?_eq_some_iff.mp hw).1
        rw [List.getElem?_set_self hjl] at hi'
        cases hi'
        exact hzne q _ (List.mem_of_getElem? hw)
      · rw [List.getElem?_set_ne hij] at hi'
        exact hzne a ψ (List.mem_of_getElem? hi')
    · rw [upd_ne (hzne q _ (List.mem_of_getElem? hw)).symm]; exact hz'
end
end DF

namespace DF
open R (rp)
open Dt (toD)
open PySem L2

/-! ### 10. short words -/
section
variable {X : Cx} {B B0 : Hp} {ρ ρ' : En} {ω ω' : Ow} {e a b c o tg iter : Expr} {es : List Expr} {P P1 P2 : MP} {φ ψ : MO} {pos p p2 apos : Pos} {x : Str} {rest body orelse : List Stmt} {D : Ends} {st : Stmt} {Ps Ps' : List MP} {α β : Type}
/-- the name in slot i -/
theorem V (i : Nat) (hs : ρ[i]? = some (some P) := by rfl) (hN : X.N[i]? = some x := by rfl) (hv : Vis X.env.scope x := by first | exact Or.inl rfl | exact Or.inr (Or.inl rfl) | exact Or.inr (Or.inr rfl)) (hd : (x == ("__debug__" : Str)) = false := by decide) (hcd : (x == ("__classdict__" : Str)) = false := by decide) : Ev X ρ ω (.Name x pos) P := ev_var hs hN hv hd hcd
/-- .. of an object of ours -/
theorem VO (i : Nat) {q : Addr} (hs : ρ[i]? = some (some (atM q)) := by rfl) (hw : (q, φ) ∈ ω := by first | exact List.mem_cons_self | exact List.mem_cons_of_mem _ List.mem_cons_self | exact List.mem_cons_of_mem _ (List.mem_cons_of_mem _ List.mem_cons_self) | exact List.mem_cons_of_mem _ (List.mem_cons_of_mem _ (List.mem_cons_of_mem _ List.mem_cons_self))) (hN : X.N[i]? = some x := by rfl)
    (hv : Vis X.env.scope x := by first | exact Or.inl rfl | exact Or.inr (Or.inl rfl) | exact Or.inr (Or.inr rfl)) (hd : (x == ("__debug__" : Str)) = false := by decide) (hcd : (x == ("__classdict__" : Str)) = false := by decide) : EvC X ρ ω (.Name x pos) φ := evc_own hs hw hN hv hd hcd
theorem atI_map {β : Type} (f : α → β) {xs : List α} {i : Int} {x : α} (h : atI xs i = some x) : atI (xs.map f) i = some (f x) := by
  unfold atI at h ⊢
  rw [List.length_map]
  cases e : ixN xs.length i with
  | none => rw [e] at h; cases h
  | some j =>
    rw [e] at h
    have h : xs[j]? = some x := h
    show (xs.map f)[j]? = some (f x)
    rw [List.getElem?_map, h]; rfl
theorem ev_ixL [R α] {xs : List α} {y : α} {i : Int} (h1 : EvC X ρ ω a (lsO xs)) (h2 : Ev X ρ ω b (rp i)) (hi : atI xs i = some y) (hs : PlainIx b := by exact px_plain rfl) : Ev X ρ ω (.Subscript a b pos) (rp y) := ev_ix h1 h2 (atI_map rp hi) hs
theorem ev_fst [R α] [R β] {z : α × β} {j : Nat} (h : Ev X ρ ω a (rp z)) : Ev X ρ ω (.Subscript a (.Constant (.int 0) j p) pos) (rp z.1) := ev_ixT (Ps := [rp z.1, rp z.2]) h ev_int (atI_nat (j := 0) rfl) (fun _ _ => rfl)
theorem ev_snd [R α] [R β] {z : α × β} {j : Nat} (h : Ev X ρ ω a (rp z)) : Ev X ρ ω (.Subscript a (.Constant (.int 1) j p) pos) (rp z.2) := ev_ixT (Ps := [rp z.1, rp z.2]) h ev_int (atI_nat (j := 1) rfl) (fun _ _ => rfl)
theorem ev_neg {i : Int} (h : Ev X ρ ω a (rp i)) : Ev X ρ ω (.UnaryOp .USub a pos) (rp (-i)) := .mk fun B B0 σ H H0 S Q q =>
  wE_of (pe_un un_neg pe_w) (h.run B B0 σ H H0 S _ fun v H' H0' n f => ⟨i, f, q _ H' H0' n rfl⟩)
theorem ev_pair [R α] [R β] {y : α} {z : β} {k : Nat} (h1 : Ev X ρ ω a (rp y)) (h2 : Ev X ρ ω b (rp z)) (hs1 : starEach [a, b] X.env = (false, eval a X.env) :: starEach [b] X.env := by exact se_cons rfl) (hs2 : starEach [b] X.env = (false, eval b X.env) :: starEach [] X.env := by exact se_cons rfl) : Ev X ρ ω (.Tuple [a, b] k pos) (rp (y, z)) :=
  ev_tup (Ps := [rp y, rp z]) (eva_cons h1 (eva_cons h2 eva_nil hs2) hs1) (by show 2 ≤ 100000; omega)
/-- the items of a display, of one kind -/
def EvI (X : Cx) (ρ : En) (ω : Ow) (es : List Expr) {α : Type} [R α] (xs : List α) : Prop := EvA X ρ ω es (xs.map rp)
theorem i_nil [R α] : EvI X ρ ω [] ([] : List α) := eva_nil
theorem i_cons [R α] {y : α} {ys : List α} (h : Ev X ρ ω e (rp y)) (t : EvI X ρ ω es ys) (hs : starEach (e :: es) X.env = (false, eval e X.env) :: starEach es X.env := by exact se_cons rfl) : EvI X ρ ω (e :: es) (y :: ys) := eva_cons h t hs
theorem evn_disp [R α] {xs : List α} (h : EvI X ρ ω es xs) (hl : xs.length ≤ 1000) : EvN X ρ ω (.List es pos) (lsO xs) := ev_lst h (by rw [List.length_map]; omega)
theorem evn_nil [R α] : EvN X ρ ω (.List [] pos) (lsO ([] : List α)) := evn_disp i_nil (by show 0 ≤ 1000; omega)
/-- comprehensions whose items are of one kind -/
theorem evn_lcL0 [R β] {xs : List α} {pm : α → MP} {g : TG} {elt : Expr} {scope : Scope} {own : List (Str × Nat)} {f : α → β} {ρ' : α → En} (hc : X.calm = true) (hN : X.N.Nodup) (hI : ItrC X ρ ω tg iter (xs.map pm)) (hl : xs.length < 1000000) (ok : BlkOk X.N X.env.scope scope own)
    (hg : ∀ s H C cl fp, PG (BX X scope s H C cl fp) tg g) (hgj : ∀ x, GJ g (pm x) (wipeE ρ (own.map (·.2))) (ρ' x) (own.map (·.2)))
    (he : ∀ s H C cl fp, ∀ x ∈ xs, Ev (BX X scope s H C cl fp) (ρ' x) ω elt (rp (f x))) (hs : ∀ x, foldedSetIterable iter X.env x = pure x := by exact fs_plain rfl) : EvN X ρ ω (.ListComp elt [⟨tg, iter, [], 0⟩] scope pos) (lsO (xs.map f)) :=
  (evn_lc0 (fun x => rp (f x)) ρ' hc hN hI hl ok hg hgj he hs).cast (by unfold lsO; rw [List.map_map]; rfl)
theorem evn_lcL1 [R β] {xs : List α} {pm : α → MP} {g : TG} {elt : Expr} {scope : Scope} {own : List (Str × Nat)} {keep : α → Bool} {f : α → β} {ρ' : α → En} (hc : X.calm = true) (hN : X.N.Nodup) (hI : ItrC X ρ ω tg iter (xs.map pm)) (hl : xs.length < 1000000) (ok : BlkOk X.N X.env.scope scope own)
    (hg : ∀ s H C cl fp, PG (BX X scope s H C cl fp) tg g) (hgj : ∀ x, GJ g (pm x) (wipeE ρ (own.map (·.2))) (ρ' x) (own.map (·.2)))
    (ht : ∀ s H C cl fp, ∀ x ∈ xs, EvT (BX X scope s H C cl fp) (ρ' x) ω c (keep x))
    (he : ∀ s H C cl fp, ∀ x ∈ xs, keep x = true → Ev (BX X scope s H C cl fp) (ρ' x) ω elt (rp (f x))) (hs : ∀ x, foldedSetIterable iter X.env x = pure x := by exact fs_plain rfl) : EvN X ρ ω (.ListComp elt [⟨tg, iter, [c], 0⟩] scope pos) (lsO ((xs.filter keep).map f)) :=
  (evn_lc1 keep (fun x => rp (f x)) ρ' hc hN hI hl ok hg hgj ht he hs).cast (by unfold lsO; rw [List.map_map]; rfl)
/-- the script -/
def scrM (K : PySem.W.Frag) (ns : List Int) : MP := ⟨fun H v => ∃ a, v = .ref a ∧ SqL K H a (ns.map V.int), fun s ⟨a, h1, h2⟩ => ⟨a, h1, s.seq h2⟩⟩
theorem ev_lenScr {ns : List Int} (Bb : Bl X.mg) (hg : Gl X "len") (h : Ev X ρ ω e (scrM X.K ns)) (he : starEach [e] X.env = [(false, eval e X.env)] := by exact se_one rfl) : Ev X ρ ω (.Call (.Name "len" p) [e] [] pos) (rp (ns.length : Int)) :=
  g_cb1 call_len_seq hg (Bb _ (by decide +kernel)) PySem.boot_len h.evg (by decide +kernel) (by decide +kernel) he fun v H H0 s ⟨q, e1, hp⟩ Q k => ⟨q, ns.map V.int, by rw [e1], .inl (s.seq hp), by rw [List.length_map]; exact k _ H H0 (Nx.refl s) rfl⟩
theorem ev_ixScr {ns : List Int} {i : Int} {y : Int} (h1 : Ev X ρ ω a (scrM X.K ns)) (h2 : Ev X ρ ω b (rp i)) (hi : atI ns i = some y) (hs : PlainIx b := by exact px_plain rfl) : Ev X ρ ω (.Subscript a b pos) (rp y) :=
  ev_2 (t := fun _ _ _ => True) (pe_ix ix_list pe_w pe_w hs) h1 h2 fun v1 v2 H H0 s ⟨q, e1, hp⟩ f2 Q k => ⟨q, ns.map V.int, i, V.int y, e1, f2, s.seq hp, by
    have := atI_map V.int hi
    exact this, k _ H H0 (Nx.refl s) rfl⟩
end
/-! ### 11. where the defs stand -/
structure DefAt (K : PySem.W.Frag) (mg : Str → Option Value) (x : Str) (st : Stmt) (ps : List Str) : Prop where
  ex : ∃ f fd, Fun K x x st f fd ∧ mg x = some (.ref f) ∧ PySem.W.keepIn K (.ref f) = true ∧ Binds K fd ps []
structure MethAt (K : PySem.W.Frag) (C : Addr) (x qual : Str) (st : Stmt) (ps : List Str) : Prop where
  ex : ∃ f fd, Fun K x qual st f fd ∧ PySem.W.findIn K (.ref C) x = some (some (.ref f)) ∧ PySem.W.isFn K (.ref f) = true ∧ PySem.W.keepIn K (.ref f) = true ∧ Binds K fd ps []
structure ClsAt (K : PySem.W.Frag) (mg : Str → Option Value) (x : Str) (C : Addr) : Prop where
  cl : Cls K C
  g : mg x = some (.ref C)
  mks : PySem.W.makesIn K C = true
  kp : PySem.W.keepIn K (.ref C) = true
section
variable {P : Program} {w : World} {K : PySem.W.Frag} {mg : Str → Option Value} {base : Heap} {ι : Type} {m : Pm ι} {x qual : Str} {st : Stmt} {N ps : List Str} {k : Nat} {C : Addr}
theorem cal_go (d : DefAt K mg x st ps) (S : FnScope N ps (defScope st)) (hlen : ∀ i, (m.args i).length = ps.length)
    (body : ∀ (f : Addr) (cdv : Value) (A : Around) (outer : List Env) (s : Shared) (H H0 : Hp) (Q : VK) (E : XK) (i : ι), Room k (fX P w K mg base N x st f cdv A outer s H E).A → m.pre i → m.ret i H H0 Q E → Same H0 H →
      Go (fX P w K mg base N x st f cdv A outer s H E) H H0 ((m.args i).map some ++ List.replicate (N.length - ps.length) none) [] (defBody st) { nx := fun _ H' => Q .non H', rt := Q }) : Cal P w K mg base x (k + 1) (spOf m) := by
  obtain ⟨f, fd, F, h1, h2, h3⟩ := d.ex
  exact ⟨f, fd, ps, fn_go F S hlen (body f), h1, h2, h3⟩
theorem calM_go {qx : Str} (c : ClsAt K mg qx C) (d : MethAt K C x qual st ps) (S : FnScope N ps (defScope st)) (hlen : ∀ i, (m.args i).length = ps.length)
    (body : ∀ (f : Addr) (cdv : Value) (A : Around) (outer : List Env) (s : Shared) (H H0 : Hp) (Q : VK) (E : XK) (i : ι), Room k (fX P w K mg base N qual st f cdv A outer s H E).A → m.pre i → m.ret i H H0 Q E → Same H0 H →
      Go (fX P w K mg base N qual st f cdv A outer s H E) H H0 ((m.args i).map some ++ List.replicate (N.length - ps.length) none) [] (defBody st) { nx := fun _ H' => Q .non H', rt := Q }) : CalM P w K mg base C x (k + 1) (spOf m) := by
  obtain ⟨f, fd, F, h1, h2, h3, h4⟩ := d.ex
  exact ⟨c.cl, f, fd, ps, fn_go F S hlen (body f), ⟨h1, h2, h3⟩, h4⟩
end
end DF

namespace DF
open R (rp)
open Dt (toD)
open PySem L2
section
variable {X : Cx} {B B0 : Hp} {ρ ρ' : En} {ω ω' : Ow} {e a b c o tg iter : Expr} {es : List Expr} {P P1 P2 : MP} {φ ψ : MO} {pos p p2 apos : Pos} {x y : Str} {rest body orelse : List Stmt} {D : Ends} {st : Stmt} {Ps Ps' : List MP} {α β : Type}
/-! targets -/
theorem PN (nd : X.N.Nodup) (i : Nat) (hi : X.N[i]? = some x := by rfl) (hx : Loc X.env.scope x := by first | exact Or.inl rfl | exact Or.inr rfl) (hf : X.fn x = true ∨ X.env.scope.names.lookup x = some .local := by first | exact Or.inl rfl | exact Or.inr rfl) : PG X (.Name x pos) (gName i) := pg_name nd hi hx hf
theorem PT2 (nd : X.N.Nodup) (hc : X.calm = true) (i j : Nat) {k : Nat} {xp yp : Pos} (hi : X.N[i]? = some x := by rfl) (hx : Loc X.env.scope x := by first | exact Or.inl rfl | exact Or.inr rfl) (hf : X.fn x = true ∨ X.env.scope.names.lookup x = some .local := by first | exact Or.inl rfl | exact Or.inr rfl)
    (hj : X.N[j]? = some y := by rfl) (hy : Loc X.env.scope y := by first | exact Or.inl rfl | exact Or.inr rfl) (hf' : X.fn y = true ∨ X.env.scope.names.lookup y = some .local := by first | exact Or.inl rfl | exact Or.inr rfl) :
    PG X (.Tuple [.Name x xp, .Name y yp] k pos) (gTup X.K 2 (gCons (gName i) (gCons (gName j) gNil))) := pg_tup hc (pgs_cons (pg_name nd hi hx hf) (pgs_cons (pg_name nd hj hy hf') pgs_nil rfl) rfl) rfl rfl
theorem PT3 (nd : X.N.Nodup) (hc : X.calm = true) (i j l : Nat) {k : Nat} {z : Str} {xp yp zp : Pos} (hi : X.N[i]? = some x := by rfl) (hx : Loc X.env.scope x := by first | exact Or.inl rfl | exact Or.inr rfl) (hf : X.fn x = true ∨ X.env.scope.names.lookup x = some .local := by first | exact Or.inl rfl | exact Or.inr rfl)
    (hj : X.N[j]? = some y := by rfl) (hy : Loc X.env.scope y := by first | exact Or.inl rfl | exact Or.inr rfl) (hf' : X.fn y = true ∨ X.env.scope.names.lookup y = some .local := by first | exact Or.inl rfl | exact Or.inr rfl)
    (hl : X.N[l]? = some z := by rfl) (hz : Loc X.env.scope z := by first | exact Or.inl rfl | exact Or.inr rfl) (hf'' : X.fn z = true ∨ X.env.scope.names.lookup z = some .local := by first | exact Or.inl rfl | exact Or.inr rfl) :
    PG X (.Tuple [.Name x xp, .Name y yp, .Name z zp] k pos) (gTup X.K 3 (gCons (gName i) (gCons (gName j) (gCons (gName l) gNil)))) := pg_tup hc (pgs_cons (pg_name nd hi hx hf) (pgs_cons (pg_name nd hj hy hf') (pgs_cons (pg_name nd hl hz hf'') pgs_nil rfl) rfl) rfl) rfl rfl
theorem gj_pairL [R α] [R β] {K : PySem.W.Frag} {i j : Nat} {vs : List Nat} {z : α × β} (hi : i ∈ vs) (hj : j ∈ vs) : GJ (gTup K 2 (gCons (gName i) (gCons (gName j) gNil))) (rp z) ρ ((ρ.set i (some (rp z.1))).set j (some (rp z.2))) vs := gj_pair hi hj
theorem gj_trip {P3 : MP} {K : PySem.W.Frag} {i j l : Nat} {vs : List Nat} (hi : i ∈ vs) (hj : j ∈ vs) (hl : l ∈ vs) : GJ (gTup K 3 (gCons (gName i) (gCons (gName j) (gCons (gName l) gNil)))) (tupM [P1, P2, P3]) ρ (((ρ.set i (some P1)).set j (some P2)).set l (some P3)) vs := fun B B0 ω σ H H0 v S f Q q => by
  obtain ⟨p, vs', e1, hp, f⟩ := f
  cases f with
  | cons f1 f =>
    cases f with
    | cons f2 f =>
      cases f with
      | cons f3 f =>
        cases f
        exact ⟨p, _, e1, SqT.of (S.sub _ _ hp), rfl, _, _, rfl, _, _, rfl, _, _, rfl, rfl, q _ (((S.set i f1).set j f2).set l f3) (by rw [wipe_set hl, wipe_set hj, wipe_set hi])⟩
/-! statements -/
theorem G_asg (nd : X.N.Nodup) (i : Nat) (h : Ev X ρ ω e P) (k : Go X B B0 (ρ.set i (some P)) ω rest D) (hi : X.N[i]? = some x := by rfl) (hx : Loc X.env.scope x := by first | exact Or.inl rfl | exact Or.inr rfl) (hf : X.fn x = true ∨ X.env.scope.names.lookup x = some .local := by first | exact Or.inl rfl | exact Or.inr rfl)
    (hs : swapsWithSole [.Name x p] e pos.line X.env = pure false := by exact sw_sole rfl) (hw : swappedStores [.Name x p] e X.env = pure none := by exact ss_name)
    (h1 : (assignEach [.Name x p] X.env).map (·.2) = [assign (.Name x p) X.env] := by exact ae_name) : Go X B B0 ρ ω (.Assign [.Name x p] e pos :: rest) D := go_asg i h nd hi hx hf k hs hw h1
theorem G_asgN (nd : X.N.Nodup) (i : Nat) (h : EvN X ρ ω e φ) (k : ∀ q : Addr, Go X B B0 (ρ.set i (some (atM q))) ((q, φ) :: ω) rest D) (hi : X.N[i]? = some x := by rfl) (hx : Loc X.env.scope x := by first | exact Or.inl rfl | exact Or.inr rfl) (hf : X.fn x = true ∨ X.env.scope.names.lookup x = some .local := by first | exact Or.inl rfl | exact Or.inr rfl)
    (hs : swapsWithSole [.Name x p] e pos.line X.env = pure false := by exact sw_sole rfl) (hw : swappedStores [.Name x p] e X.env = pure none := by exact ss_name)
    (h1 : (assignEach [.Name x p] X.env).map (·.2) = [assign (.Name x p) X.env] := by exact ae_name) : Go X B B0 ρ ω (.Assign [.Name x p] e pos :: rest) D := go_asgN i h nd hi hx hf k hs hw h1
/-- a, b = e -/
theorem G_asgT {g : TG} {vs : List Nat} (h : Ev X ρ ω e P) (hg : PG X tg g) (hgj : GJ g P ρ ρ' vs) (k : Go X B B0 ρ' ω rest D) (hs : swapsWithSole [tg] e pos.line X.env = pure false := by exact sw_sole rfl) (hw : swappedStores [tg] e X.env = pure none := by exact ss_any rfl)
    (h1 : (assignEach [tg] X.env).map (·.2) = [assign tg X.env] := by first | exact ae_name | exact ae_tup) : Go X B B0 ρ ω (.Assign [tg] e pos :: rest) D :=
  go_st (ps_asg pe_w hg hs hw h1) fun B1 u σ H H0 S => h.run B B1 σ H H0 S _ fun v H' H0' n f => hgj B B1 ω σ H' H0' v (S.step n) f _ fun σ' S' _ => k.run B1 u σ' H' H0' S'
theorem G_retO (i : Nat) {q : Addr} (k : RtN B B0 φ D) (hs : ρ[i]? = some (some (atM q)) := by rfl) (hw : (q, φ) ∈ ω := by first | exact List.mem_cons_self | exact List.mem_cons_of_mem _ List.mem_cons_self | exact List.mem_cons_of_mem _ (List.mem_cons_of_mem _ List.mem_cons_self)) (hN : X.N[i]? = some x := by rfl)
    (hv : Vis X.env.scope x := by first | exact Or.inl rfl | exact Or.inr (Or.inl rfl) | exact Or.inr (Or.inr rfl)) (hd : (x == ("__debug__" : Str)) = false := by decide) (hcd : (x == ("__classdict__" : Str)) = false := by decide) :
    Go X B B0 ρ ω (.Return (some (.Name x p)) pos :: rest) D := go_retO hs hw hN hv hd hcd k
theorem G_app [R α] {xs : List α} {z : α} {q : Addr} (j i : Nat) (h : Ev X ρ ω e (rp z)) (hl : xs.length < 1000000) (k : Go X B B0 ρ (ω.set j (q, lsO (xs ++ [z]))) rest D)
    (hs : ρ[i]? = some (some (atM q)) := by rfl) (hw : ω[j]? = some (q, lsO xs) := by rfl) (hN : X.N[i]? = some x := by rfl) (hv : Vis X.env.scope x := by first | exact Or.inl rfl | exact Or.inr (Or.inl rfl) | exact Or.inr (Or.inr rfl)) (hd : (x == ("__debug__" : Str)) = false := by decide) (hcd : (x == ("__classdict__" : Str)) = false := by decide)
    (hfew : ((backTo pos (starEach [e] X.env)).all (fun x => !x.1) && (backToKw pos (keywordEach [] X.env)).all (fun x => x.1.isSome) && decide ([e].length + ([] : List Keyword).length + (if ([] : List Keyword).isEmpty then 0 else 1) < 30)) = true := by exact se_few rfl)
    (hline : (apos.endLine == pos.line) = true := by rfl) (hst : starEach [e] X.env = (false, eval e X.env) :: starEach [] X.env := by exact se_cons rfl)
    (hsw : swapsWith (.Call (.Attribute (.Name x p) "append" apos) [e] [] pos) none p2.line X.env = pure false := by exact sw_any rfl) (hbase : attributeBase (.Name x p) "append" X.env (eval (.Name x p) X.env) = eval (.Name x p) X.env := by exact ab_plain rfl) :
    Go X B B0 ρ ω (.Expr (.Call (.Attribute (.Name x p) "append" apos) [e] [] pos) p2 :: rest) D := go_appL j hs hw h hl hN hv hd hcd k hfew hline hst hsw hbase
theorem G_ext [R α] {xs ys : List α} {q : Addr} (j i : Nat) (h : EvC X ρ ω e (lsO ys)) (hl : xs.length + ys.length < 1000000) (k : Go X B B0 ρ (ω.set j (q, lsO (xs ++ ys))) rest D)
    (hs : ρ[i]? = some (some (atM q)) := by rfl) (hw : ω[j]? = some (q, lsO xs) := by rfl) (hN : X.N[i]? = some x := by rfl) (hv : Vis X.env.scope x := by first | exact Or.inl rfl | exact Or.inr (Or.inl rfl) | exact Or.inr (Or.inr rfl)) (hd : (x == ("__debug__" : Str)) = false := by decide) (hcd : (x == ("__classdict__" : Str)) = false := by decide)
    (hfew : ((backTo pos (starEach [e] X.env)).all (fun x => !x.1) && (backToKw pos (keywordEach [] X.env)).all (fun x => x.1.isSome) && decide ([e].length + ([] : List Keyword).length + (if ([] : List Keyword).isEmpty then 0 else 1) < 30)) = true := by exact se_few rfl)
    (hline : (apos.endLine == pos.line) = true := by rfl) (hst : starEach [e] X.env = (false, eval e X.env) :: starEach [] X.env := by exact se_cons rfl)
    (hsw : swapsWith (.Call (.Attribute (.Name x p) "extend" apos) [e] [] pos) none p2.line X.env = pure false := by exact sw_any rfl) (hbase : attributeBase (.Name x p) "extend" X.env (eval (.Name x p) X.env) = eval (.Name x p) X.env := by exact ab_plain rfl) :
    Go X B B0 ρ ω (.Expr (.Call (.Attribute (.Name x p) "extend" apos) [e] [] pos) p2 :: rest) D := go_extL j hs hw h hl hN hv hd hcd k hfew hline hst hsw hbase
/-- for over a list, in the common form: the turn's end by a step -/
theorem go_end {α S : Type} {I : List α → S → Prop} {env : S → En} {own : S → Ow} {ys : List α} {B1 : Hp} {rt : VK} {bk ct : L2.St → Hp → Prop} (s' : S) (h : I ys s') (hle : Le ρ ω (env s') (own s')) (u : Up B B1 B0) : Go X B B0 ρ ω [] { nx := PostL B B1 I env own ys, rt := rt, bk := bk, ct := ct } :=
  go_nil fun B2 u2 σ H H0 S => by
    obtain ⟨H0', S'⟩ := hle B B2 σ H H0 S
    exact ⟨s', H0', h, S'.down (u.trans u2)⟩
end
/-- a new list is handed back: what the promise asks -/
theorem rtN_of {H H0 : Hp} {φ : MO} {Q : VK} (h : GoodN φ H H0 Q) {nx : L2.St → Hp → Prop} : RtN H H0 φ { nx := nx, rt := Q } := fun p o H' H0' n hp h0 h' f => h p o H' H0' n hp h0 h' f
theorem rt_of {H H0 : Hp} {P : MP} {Q : VK} (h : GoodV P H H0 Q) {nx : L2.St → Hp → Prop} : Rt H H0 P { nx := nx, rt := Q } := fun v H' H0' n f => h v H' H0' n f
end DF

namespace DF
open R (rp)
open Dt (toD)
open PySem L2
/-! ### 12. texts by their signs; views; the law's own promise -/
structure Tx where
  cs : List Nat
  deriving DecidableEq
def tx (l : List Nat) : Str := ⟨l.toArray⟩
instance : R Tx := ⟨fun t => strM (tx t.cs)⟩
theorem tx_inj {a b : List Nat} (h : tx a = tx b) : a = b := by
  have h1 : (tx a).cps = (tx b).cps := congrArg Str.cps h
  have h2 : a.toArray = b.toArray := h1
  simpa using congrArg Array.toList h2
theorem tx_app (a b : List Nat) : tx a ++ tx b = tx (a ++ b) := by
  show (⟨a.toArray ++ b.toArray⟩ : Str) = ⟨(a ++ b).toArray⟩
  simp
theorem tx_len (a : List Nat) : (tx a).length = a.length := by
  show (a.toArray).size = a.length
  simp
theorem tx_list (a : List Nat) : (tx a).cps.toList = a := rfl
/-- every sign is a code point -/
abbrev TxOk (t : Tx) : Prop := ∀ c ∈ t.cs, c < 1114112
theorem txOk_str {t : Tx} (h : TxOk t) : PySem.PyData.strOk (tx t.cs) = true := by
  show (t.cs.toArray).all (· < 1114112) = true
  simp only [List.all_toArray, List.all_eq_true, decide_eq_true_eq]
  exact h
instance : Dt Tx where
  toD := fun t => .str (tx t.cs)
  dep := 0
  ok := TxOk
  dp := fun K H v a h => by have h : v = .str (tx a.cs) := h; subst h; exact .str _
  lay := fun a h => by simp only [PyData.canLay0]; exact txOk_str h
  hdep := fun a => by simp [PyData.depth]
  eqv := fun a b => by
    simp only [PyData.eqv, beq_iff_eq]
    constructor
    · intro q; cases a; cases b; simp only at q; rw [tx_inj q]
    · intro q; rw [q]
section
variable {X : Cx} {B B0 : Hp} {ρ ρ' : En} {ω ω' : Ow} {e a b c o tg iter : Expr} {es : List Expr} {P P1 P2 : MP} {φ ψ : MO} {pos p p2 apos : Pos} {x y : Str} {rest body orelse : List Stmt} {D : Ends} {st : Stmt} {Ps Ps' : List MP} {α β : Type}
theorem t_str {z : Str} {j : Nat} (t : Tx) (h : z = tx t.cs := by decide +kernel) : Ev X ρ ω (.Constant (.str z) j pos) (rp t) := (ev_str (x := z)).cast (by rw [h]; rfl)
theorem t_add {y z : Tx} (h1 : Ev X ρ ω a (rp y)) (h2 : Ev X ρ ω b (rp z)) (hl : y.cs.length + z.cs.length ≤ 1000000) : Ev X ρ ω (.BinOp a .Add b pos) (rp (⟨y.cs ++ z.cs⟩ : Tx)) :=
  (ev_addS (y := tx y.cs) (z := tx z.cs) h1 h2 (by rw [tx_len, tx_len]; exact hl)).cast (by show strM _ = strM _; rw [tx_app])
theorem t_ix {z : Tx} {i : Int} {k : Nat} (h1 : Ev X ρ ω a (rp z)) (h2 : Ev X ρ ω b (rp i)) (hl : z.cs.length ≤ 1000000) (hc : atI z.cs i = some k) (hs : PlainIx b := by exact px_plain rfl) : Ev X ρ ω (.Subscript a b pos) (rp (⟨[k]⟩ : Tx)) :=
  (ev_ixS (z := tx z.cs) h1 h2 (by rw [tx_len]; exact hl) hc hs).cast rfl
theorem t_slice {z : Tx} {lo hi : Option Expr} {l h : Option Int} {p2 : Pos} (h1 : Ev X ρ ω a (rp z)) (h2 : EvO X ρ ω lo l) (h3 : EvO X ρ ω hi h) (hl : z.cs.length ≤ 1000000) : Ev X ρ ω (.Subscript a (.Slice lo hi none p2) pos) (rp (⟨cutL z.cs l h⟩ : Tx)) :=
  (ev_sliceS (z := tx z.cs) h1 h2 h3 (by rw [tx_len]; exact hl)).cast (by show strM _ = strM _; unfold cutS cutL; rw [show (tx z.cs).length = z.cs.length from tx_len _]; rfl)
theorem t_in {z : Tx} {k : Nat} (h1 : Ev X ρ ω a (rp (⟨[k]⟩ : Tx))) (h2 : Ev X ρ ω b (rp z)) (hm : behindInMarks .In b = false) : Ev X ρ ω (.Compare a [.In] [b] pos) (rp (decide (k ∈ z.cs))) := ev_inS (z := tx z.cs) h1 h2 hm
theorem tt_in {z : Tx} {k : Nat} (h1 : Ev X ρ ω a (rp (⟨[k]⟩ : Tx))) (h2 : Ev X ρ ω b (rp z)) (hm : behindInMarks .In b = false) : EvT X ρ ω (.Compare a [.In] [b] pos) (decide (k ∈ z.cs)) := et_inS (z := tx z.cs) h1 h2 hm
theorem t_eq {y z : Tx} (h1 : Ev X ρ ω a (rp y)) (h2 : Ev X ρ ω b (rp z)) : Ev X ρ ω (.Compare a [.Eq] [b] pos) (rp (decide (y = z))) :=
  (ev_eqS (y := tx y.cs) (z := tx z.cs) h1 h2).cast (by
    congr 1
    by_cases h : y = z
    · subst h; simp
    · have : ¬ tx y.cs = tx z.cs := fun q => h (by cases y; cases z; simp only at q; rw [tx_inj q])
      simp [h, this])
theorem tt_eq {y z : Tx} (h1 : Ev X ρ ω a (rp y)) (h2 : Ev X ρ ω b (rp z)) : EvT X ρ ω (.Compare a [.Eq] [b] pos) (decide (y = z)) :=
  (et_eqS (y := tx y.cs) (z := tx z.cs) h1 h2).cast (by
    by_cases h : y = z
    · subst h; simp
    · have : ¬ tx y.cs = tx z.cs := fun q => h (by cases y; cases z; simp only at q; rw [tx_inj q])
      simp [h, this])
theorem t_len {z : Tx} (Bb : Bl X.mg) (hg : Gl X "len") (h : Ev X ρ ω e (rp z)) (hz : z.cs.length ≤ 100000) (he : starEach [e] X.env = [(false, eval e X.env)] := by exact se_one rfl) : Ev X ρ ω (.Call (.Name "len" p) [e] [] pos) (rp (z.cs.length : Int)) :=
  (ev_lenS (z := tx z.cs) Bb hg h (by rw [tx_len]; exact hz) he).cast (by rw [tx_len])
theorem fig_str {n : Nat} (h : n < 10) : (toString (n : Int) : Str) = tx [48 + n] := by
  have : ∀ k : Fin 10, (toString ((k.val : Nat) : Int) : Str) = tx [48 + k.val] := by decide +kernel
  exact this ⟨n, h⟩
theorem fig_int {n : Nat} (h : n < 10) : PySem.intText? (tx [48 + n]) = some (n : Int) := by
  have : ∀ k : Fin 10, PySem.intText? (tx [48 + k.val]) = some ((k.val : Nat) : Int) := by decide +kernel
  exact this ⟨n, h⟩
/-- str(n), n a figure -/
theorem t_strI {n : Nat} (Bb : Bl X.mg) (hg : Gl X "str") (h : Ev X ρ ω e (rp (n : Int))) (hn : n < 10) (he : starEach [e] X.env = [(false, eval e X.env)] := by exact se_one rfl) : Ev X ρ ω (.Call (.Name "str" p) [e] [] pos) (rp (⟨[48 + n]⟩ : Tx)) :=
  (ev_strI Bb hg h (by
    have : ∀ k : Fin 10, (((k.val : Nat) : Int).natAbs).log2 < 1920 := by decide +kernel
    exact this ⟨n, hn⟩) he).cast (by rw [fig_str hn]; rfl)
theorem t_int {n : Nat} (Bb : Bl X.mg) (hg : Gl X "int") (h : Ev X ρ ω e (rp (⟨[48 + n]⟩ : Tx))) (hn : n < 10) (he : starEach [e] X.env = [(false, eval e X.env)] := by exact se_one rfl) : Ev X ρ ω (.Call (.Name "int" p) [e] [] pos) (rp (n : Int)) :=
  ev_intS (z := tx [48 + n]) Bb hg h (fig_int hn) (by rw [tx_len]; show 1 ≤ 640; omega) he
end
/-- the classes -/
structure Cs where
  (View Game FieldError BadView BadLaying NoCell TooGreat Impossible NotOpen Over : Addr)
structure VW where
  C : Addr
  rows : List Tx
def VW.w (v : VW) : Nat := (v.rows.headD ⟨[]⟩).cs.length
abbrev viewF (rows : MP) (h w : Int) : List (Str × MP) := [("rows", rows), ("height", rp h), ("width", rp w)]
def viewO (v : VW) : MO := insM v.C (viewF (rp v.rows) (v.rows.length : Int) (v.w : Int))
instance : R VW := ⟨fun v => obM (viewO v)⟩
theorem vo {X : Cx} {ρ : En} {ω : Ow} {e : Expr} {v : VW} (h : Ev X ρ ω e (rp v)) : EvC X ρ ω e (insM v.C (viewF (rp v.rows) (v.rows.length : Int) (v.w : Int))) := Ev.evc h
theorem cx_none {P : Program} (w : World) (H : Hp) (s : Shared) (e : Value) (s' : Shared) (h : L2.CX P w [] H s (fun _ _ _ => False) e s') : False := by
  obtain ⟨_, _, _, _, _, _, _, _, _, _, _, _, z⟩ := h
  exact z
/-- the law's promise -/
def pmLaw (K : PySem.W.Frag) : Pm (List Int) := ⟨fun ns => [scrM K ns], fun ns => ns.length ≤ 63, fun _ => retV (rp true)⟩
def spLaw (K : PySem.W.Frag) : Sp := fun vs H Q _ => ∃ (a : Addr) (ns : List Int), vs = [.ref a] ∧ SqL K H a (ns.map V.int) ∧ ns.length ≤ 63 ∧ ∀ H', Q (.bl true) H'
theorem law_of {P : Program} {w : World} {K : PySem.W.Frag} {mg : Str → Option Value} {base : Heap} {f : Addr} {fd : FuncData} {k : Nat} (F : FnOk P w K mg base (L2.CX P w) k f fd ["script"] (spOf (pmLaw K))) : FnOk P w K mg base (L2.CX P w) k f fd ["script"] (spLaw K) :=
  F.imp fun vs H Q E ⟨a, ns, h1, h2, h3, h4⟩ => ⟨ns, H, ⟨Same.refl _, fun _ _ e => e⟩, by subst h1; exact .cons ⟨a, rfl, h2⟩ .nil, h3, fun v H' H0' n f => by
    have f : v = .bl true := f
    subst f
    exact h4 H'⟩
end DF

namespace DF
open R (rp)
open Dt (toD)
open PySem L2
section
variable {X : Cx} {B B0 : Hp} {ρ ρ' : En} {ω ω' : Ow} {e a b c o tg iter : Expr} {es : List Expr} {P P1 P2 : MP} {φ ψ : MO} {pos p p2 apos : Pos} {x y : Str} {rest body orelse : List Stmt} {D : Ends} {st : Stmt} {Ps Ps' : List MP} {α β : Type}
/-- a, b = x, y: two plain local names -/
theorem G_par (nd : X.N.Nodup) (hc : X.calm = true) (i j : Nat) {kt k2 : Nat} {px py pt pt2 : Pos} (h1 : Ev X ρ ω a P1) (h2 : Ev X ρ ω b P2) (k : Go X B B0 ((ρ.set i (some P1)).set j (some P2)) ω rest D) (hij : i ≠ j := by decide) (hi : X.N[i]? = some x := by rfl) (hj : X.N[j]? = some y := by rfl)
    (hx : X.env.scope.names.lookup x = some .local := by rfl) (hy : X.env.scope.names.lookup y = some .local := by rfl)
    (hw : swappedStores [.Tuple [.Name x px, .Name y py] kt pt] (.Tuple [a, b] k2 pt2) X.env = pure (some [x, y]) := by rfl) (hs1 : starEach [a, b] X.env = (false, eval a X.env) :: starEach [b] X.env := by exact se_cons rfl) (hs2 : starEach [b] X.env = (false, eval b X.env) :: starEach [] X.env := by exact se_cons rfl) :
    Go X B B0 ρ ω (.Assign [.Tuple [.Name x px, .Name y py] kt pt] (.Tuple [a, b] k2 pt2) pos :: rest) D :=
  go_st (ps_par hc nd hi hj hij hx hy (pa_cons pe_w (pa_cons pe_w pa_nil hs2) hs1) hw (sw_sole rfl)) fun B1 u σ H H0 S => h1.run B B1 σ H H0 S _ fun v H1 H01 n1 f1 => h2.run B B1 σ H1 H01 (S.step n1) _ fun w H2 H02 n2 f2 =>
    ⟨v, w, rfl, k.run B1 u _ H2 H02 ((((S.step n1).step n2).set i (P1.mono n2.b f1)).set j f2)⟩
end
/-! ### ranges -/
theorem mem_irange {lo : Int} {n : Nat} {x : Int} : x ∈ irange lo n ↔ lo ≤ x ∧ x < lo + n := by
  unfold irange
  simp only [List.mem_map, List.mem_range]
  constructor
  · rintro ⟨a, h, rfl⟩; omega
  · rintro ⟨h1, h2⟩; exact ⟨(x - lo).toNat, by omega, by omega⟩
theorem irange_len {lo : Int} {n : Nat} : (irange lo n).length = n := by simp [irange]
theorem irange_nd {lo : Int} {n : Nat} : (irange lo n).Nodup := by
  unfold irange
  refine List.Pairwise.map _ (fun a b h => ?_) (List.nodup_range (n := n))
  intro e; apply h; omega
theorem atI_int {α : Type} {xs : List α} {i : Int} {x : α} (h0 : 0 ≤ i) (h : xs[i.toNat]? = some x) : atI xs i = some x := by
  obtain ⟨j, rfl⟩ : ∃ j : Nat, i = (j : Int) := ⟨i.toNat, by omega⟩
  exact atI_nat h
theorem atI_getD {α : Type} {xs : List α} {i : Int} (d : α) (h0 : 0 ≤ i) (h : i < xs.length) : atI xs i = some (xs.getD i.toNat d) := by
  refine atI_int h0 ?_
  rw [List.getD_eq_getElem?_getD, List.getElem?_eq_getElem (show i.toNat < xs.length by omega)]
  rfl
end DF
namespace DF
open R (rp)
open Dt (toD)
open PySem L2
section
variable {X : Cx} {B B0 : Hp} {ρ ρ0 : En} {ω ω' : Ow} {e a b c o tg iter : Expr} {es : List Expr} {P P1 P2 : MP} {φ ψ : MO} {pos p p2 apos spos py : Pos} {x y : Str} {rest body orelse : List Stmt} {D : Ends} {st : Stmt} {Ps Ps' : List MP} {α β : Type}
/-- name = [elt for tg in iter] -/
theorem G_lc0 [R β] {xs : List α} {pm : α → MP} {g : TG} {elt : Expr} {scope : Scope} {own : List (Str × Nat)} {f : α → β} {ρ' : α → En} (hN : X.N.Nodup) (i : Nat) (hc : X.calm = true) (hI : ItrC X ρ ω tg iter (xs.map pm)) (hl : xs.length < 1000000) (ok : BlkOk X.N X.env.scope scope own)
    (hg : ∀ s H C cl fp, PG (BX X scope s H C cl fp) tg g) (hgj : ∀ x, GJ g (pm x) (wipeE ρ (own.map (·.2))) (ρ' x) (own.map (·.2)))
    (he : ∀ s H C cl fp, ∀ x ∈ xs, Ev (BX X scope s H C cl fp) (ρ' x) ω elt (rp (f x))) (k : Go X B B0 (ρ.set i (some (rp (xs.map f)))) ω rest D) (hy : X.N[i]? = some y := by rfl) (hyl : X.env.scope.names.lookup y = some .local := by rfl)
    (hsw : swapsWith (.ListComp elt [⟨tg, iter, [], 0⟩] scope pos) (some (.Name y py)) spos.line X.env = pure true := by exact sw_true rfl rfl rfl (by decide +kernel)) (hs : ∀ x, foldedSetIterable iter X.env x = pure x := by exact fs_plain rfl) :
    Go X B B0 ρ ω (.Assign [.Name y py] (.ListComp elt [⟨tg, iter, [], 0⟩] scope pos) spos :: rest) D :=
  go_st (ps_setLc (g := g) (tt := tYes) (te := fun σ H Q => ∀ s H' C cl fp, wE (BX X scope s H' C cl fp) elt σ H Q) hc hN hy hyl hsw pi_w ok hg (fun _ _ _ _ _ => pts_nil) (fun s H' C cl fp => ⟨fun pins sh σ H Q I h => h s H' C cl fp pins sh I⟩) hs) fun B1 u σ H H0 S =>
    hI.run B B1 σ H H0 S _ fun J H1 H01 n1 w => fun Dl hD => lc_all (fun _ => true) (fun x => rp (f x)) ρ' (S.step n1) w hl hgj (fun x _ σ H H0 S2 Q q => q H H0 (Nx.refl S2.sub)) (fun x hx _ σ H H0 S2 Q q s H' C cl fp => (he s H' C cl fp x hx).run B B1 σ H H0 S2 Q q) Dl hD _ fun acc H' H0' n e0 e1 f1 => by
      rw [List.filter_eq_self.mpr (fun _ _ => rfl)] at f1
      refine k.run B1 u _ H' (upd H0' Dl (.lst acc)) ((S.step ((n1.trans n).freeze (n1.a.free hD) e1 e0)).set i ⟨Dl, _, rfl, upd_same, acc, rfl, ?_⟩)
      have := f1.mono (H' := upd H0' Dl (.lst acc)) (fun b u e => by rw [upd_ne (ne_of_none e e0)]; exact e)
      rw [List.map_map]; exact this
/-- name = [elt for tg in iter if c] -/
theorem G_lc1 [R β] {xs : List α} {pm : α → MP} {g : TG} {elt : Expr} {scope : Scope} {own : List (Str × Nat)} {keep : α → Bool} {f : α → β} {ρ' : α → En} (hN : X.N.Nodup) (i : Nat) (hc : X.calm = true) (hI : ItrC X ρ ω tg iter (xs.map pm)) (hl : xs.length < 1000000) (ok : BlkOk X.N X.env.scope scope own)
    (hg : ∀ s H C cl fp, PG (BX X scope s H C cl fp) tg g) (hgj : ∀ x, GJ g (pm x) (wipeE ρ (own.map (·.2))) (ρ' x) (own.map (·.2)))
    (ht : ∀ s H C cl fp, ∀ x ∈ xs, EvT (BX X scope s H C cl fp) (ρ' x) ω c (keep x))
    (he : ∀ s H C cl fp, ∀ x ∈ xs, keep x = true → Ev (BX X scope s H C cl fp) (ρ' x) ω elt (rp (f x))) (k : Go X B B0 (ρ.set i (some (rp ((xs.filter keep).map f)))) ω rest D) (hy : X.N[i]? = some y := by rfl) (hyl : X.env.scope.names.lookup y = some .local := by rfl)
    (hsw : swapsWith (.ListComp elt [⟨tg, iter, [c], 0⟩] scope pos) (some (.Name y py)) spos.line X.env = pure true := by exact sw_true rfl rfl rfl (by decide +kernel)) (hs : ∀ x, foldedSetIterable iter X.env x = pure x := by exact fs_plain rfl) :
    Go X B B0 ρ ω (.Assign [.Name y py] (.ListComp elt [⟨tg, iter, [c], 0⟩] scope pos) spos :: rest) D :=
  go_st (ps_setLc (g := g) (tt := fun σ H Q => ∀ s H' C cl fp, wT (BX X scope s H' C cl fp) c σ H Q) (te := fun σ H Q => ∀ s H' C cl fp, wE (BX X scope s H' C cl fp) elt σ H Q) hc hN hy hyl hsw pi_w ok hg
      (fun s H' C cl fp => pts_one ⟨fun pins sh σ H Q I h => h s H' C cl fp pins sh I⟩) (fun s H' C cl fp => ⟨fun pins sh σ H Q I h => h s H' C cl fp pins sh I⟩) hs) fun B1 u σ H H0 S =>
    hI.run B B1 σ H H0 S _ fun J H1 H01 n1 w => fun Dl hD => lc_all keep (fun x => rp (f x)) ρ' (S.step n1) w hl hgj (fun x hx σ H H0 S2 Q q s H' C cl fp => (ht s H' C cl fp x hx).run B B1 σ H H0 S2 Q q) (fun x hx hk σ H H0 S2 Q q s H' C cl fp => (he s H' C cl fp x hx hk).run B B1 σ H H0 S2 Q q) Dl hD _ fun acc H' H0' n e0 e1 f1 => by
      refine k.run B1 u _ H' (upd H0' Dl (.lst acc)) ((S.step ((n1.trans n).freeze (n1.a.free hD) e1 e0)).set i ⟨Dl, _, rfl, upd_same, acc, rfl, ?_⟩)
      have := f1.mono (H' := upd H0' Dl (.lst acc)) (fun b u e => by rw [upd_ne (ne_of_none e e0)]; exact e)
      rw [List.map_map]; exact this
end
end DF
namespace DF
open R (rp)
open Dt (toD)
open PySem L2
/-- an object of ours stays from now on, and goes on as a value -/
theorem go_le_freeze {X : Cx} {B B0 : Hp} {ρ : En} {ω : Ow} {rest : List Stmt} {D : Ends} {p : Addr} {φ : MO} (i : Nat) (hs : ρ[i]? = some (some (atM p))) (k : Go X B B0 (ρ.set i (some (obM φ))) ω rest D) : Go X B B0 ρ ((p, φ) :: ω) rest D := k.le (Le.freeze hs)
end DF
namespace DF
open R (rp)
open Dt (toD)
open PySem L2
/-- over a text, sign by sign -/
theorem it_strT {X : Cx} {ρ : En} {ω : Ow} {e tg : Expr} {z : Tx} (h : Ev X ρ ω e (rp z)) : Itr X ρ ω tg e ((z.cs.map fun c => (⟨[c]⟩ : Tx)).map rp) := .mk fun B B0 σ H H0 S R r =>
  wI_of (pi_str pe_w) (h.run B B0 σ H H0 S _ fun v H' H0' n f => ⟨tx z.cs, f, r _ H' H0' n (by
    have hl : ((z.cs.map fun c => (⟨[c]⟩ : Tx)).map rp).length = (tx z.cs).cps.size := by simp [tx]
    refine ⟨_, _, by rw [hl]; exact walk_str, fun _ _ => trivial, fun i H2 v H2' hi s y => ?_⟩
    obtain ⟨e1, c, hc, e2⟩ := y
    subst e1
    have hc' : z.cs[i]? = some c := by
      have : (tx z.cs).cps[i]? = z.cs[i]? := by simp [tx]
      rw [← this]; exact hc
    refine ⟨rp (⟨[c]⟩ : Tx), by rw [List.getElem?_map, List.getElem?_map, hc']; rfl, fun H02 s0 s2 => ⟨H02, Nx.refl s2, e2⟩⟩)⟩)
end DF

namespace DF
open R (rp)
open Dt (toD)
open PySem L2
/-! ### 13. a class is called -/
/-- the run of C(..), at these very slots -/
theorem made_run {X : Cx} {pins : List (Addr × Obj)} {σ : L2.St} {H : Hp} {s : Shared} {Q : VK} {us : List Value} {vs : List L2.V} {k : Nat} {f C : Addr} {fd : FuncData} {ps : List Str} {sp : Sp} {E : XK}
    (M : Mk X.K C f) (F : FnOk X.prog X.w X.K X.mg X.base (L2.CX X.prog X.w) k f fd ps sp) (hr : Room (k + 1) X.A) (hb : Binds X.K fd ps []) (hx : PassesAt (L2.CX X.prog X.w) X σ E) (I : Inv X pins σ H s) (r : Vals vs us)
    (h : ∀ x dx, H x = none → H dx = none → dx ≠ x → sp (.ref x :: vs) (upd (upd H dx (.own x)) x (.ins C dx [])) (fun v H2 => v = .non ∧ Q (.ref x) H2) E) :
    wpAny (model X.prog X.w) X.A (call (.ref C) us) (EP X pins σ Q) X.xe s := by
  have want := h (s.heap.objs.size + 1) s.heap.objs.size (I.hok.fresh (Nat.le_succ _)) (I.hok.fresh (Nat.le_refl _)) (Nat.ne_of_lt (Nat.lt_succ_self _))
  have J := Inv.made (C := C) I
  have rr : Vals (L2.V.ref (s.heap.objs.size + 1) :: vs) (Value.ref (s.heap.objs.size + 1) :: us) := .cons rfl r
  have bb := hb _ (Value.ref (s.heap.objs.size + 1) :: us) J.kIn (by rw [List.append_nil, ← rr.length]; exact F.len _ _ _ _ want)
  rw [List.append_nil] at bb
  have run := F.run _ X.stack _ _ ⟨Value.ref (s.heap.objs.size + 1) :: us, []⟩ _ _ _ E (hr.make C us []) (J.env0.make C us []) bb rr want
  refine wpAny_call (make_map (f := f) I.kIn M.makes M.init (beq_iff_eq.mp M.fn) (codeAny_mono run fun res t ht => ?_))
  match res, ht with
  | .error e, ht => exact hx pins _ _ e t J ht
  | .ok (.ret u), ht =>
    obtain ⟨v, H', I3, rv, ev, q3⟩ := J.after ht
    subst ev
    exact ⟨rv, ⟨L2.V.ref (s.heap.objs.size + 1), H', I3, rfl, q3⟩⟩
  | .ok .next, ht => exact False.elim ht
  | .ok .brk, ht => exact False.elim ht
  | .ok .cont, ht => exact False.elim ht
section
variable {X : Cx} {B B0 : Hp} {ρ ρ' : En} {ω ω' : Ow} {e a b c o tg iter : Expr} {es : List Expr} {P P1 P2 : MP} {φ ψ : MO} {pos p p2 apos : Pos} {x y : Str} {rest body orelse : List Stmt} {D : Ends} {st : Stmt} {Ps Ps' : List MP} {α β ι : Type} {k : Nat} {C : Addr} {W : WX}
theorem w_make {sp : Sp} (G : CalC X.prog X.w X.K X.mg X.base x C k sp) (hr : Room (k + 1) X.A) (hg : Gl X x) (hdb : (x == ("__debug__" : Str)) = false) {σ : L2.St} {H : Hp} {Q : VK} (E : XK) (hx : PassesAt (L2.CX X.prog X.w) X σ E)
    (he : starEach (e :: es) X.env = (false, eval e X.env) :: starEach es X.env) (hpl : (backTo pos (starEach es X.env)).any (·.1) = false)
    (h : wA X (e :: es) σ H fun vs H1 => ∀ z dx, H1 z = none → H1 dx = none → dx ≠ z → sp (.ref z :: vs) (upd (upd H1 dx (.own z)) z (.ins C dx [])) (fun v H2 => v = .non ∧ Q (.ref z) H2) E) : wE X (.Call (.Name x p) (e :: es) [] pos) σ H Q := by
  obtain ⟨f, fd, ps, F, M, hb⟩ := G.ex
  intro pins s I
  refine wpAny_Call_Name_kw (ld_glob I hg G.mgC ?_ hdb)
  refine PySem.W.callWith_K (h₀ := X.base) I.ok.mod.kin M.kp (thn (h pos pins s I) fun us s1 ⟨vs, H1, I1, r, q⟩ => ⟨I1.kIn, ?_⟩) he hpl
  exact made_run M F hr hb hx I1 r q
/-- what __init__ keeps: over Hb (the heap without the new instance) the object gets φ, or an error of the class at D comes out -/
structure Ini (ι : Type) where
  args : ι → List MP
  pre : ι → Prop
  /-- none: well made -/
  bad : ι → Option Addr
  ret : ι → Addr → Hp → Hp → Prop
def spIni {ι : Type} (C : Addr) (m : Ini ι) : Sp := fun vs H Q E => ∃ i p dx us Hb, vs = .ref p :: us ∧ (Same Hb H ∧ Tp H Hb) ∧ Hb p = none ∧ H p = some (.ins C dx []) ∧ All2 Hb us (m.args i) ∧ m.pre i ∧
  (m.bad i = none → ∀ H', Same Hb H' → m.ret i p Hb H' → Q .non H') ∧ (∀ D, m.bad i = some D → ∀ H', Same Hb H' → E (.ref D) none H')
theorem ini_go {P : Program} {w : World} {K : PySem.W.Frag} {mg : Str → Option Value} {base : Heap} {m : Ini ι} {qual : Str} {st : Stmt} {N ps : List Str} (c : ClsAt K mg x C) (d : MethAt K C "__init__" qual st ("self" :: ps)) (S : FnScope N ("self" :: ps) (defScope st)) (hlen : ∀ i, (m.args i).length = ps.length)
    (body : ∀ (f : Addr) (cdv : Value) (A : Around) (outer : List Env) (s : Shared) (H Hb : Hp) (Q : VK) (E : XK) (i : ι) (q : Addr), Room k (fX P w K mg base N qual st f cdv A outer s H E).A → m.pre i → Hb q = none →
      (m.bad i = none → ∀ H', Same Hb H' → m.ret i q Hb H' → Q .non H') → (∀ D, m.bad i = some D → ∀ H', Same Hb H' → E (.ref D) none H') →
      Go (fX P w K mg base N qual st f cdv A outer s H E) Hb Hb (some (atM q) :: (m.args i).map some ++ List.replicate (N.length - (ps.length + 1)) none) [(q, insM C [])] (defBody st) { nx := fun _ H' => Q .non H', rt := Q }) : CalC P w K mg base x C (k + 1) (spIni C m) := by
  obtain ⟨f, fd, F, h1, h2, h3, h4⟩ := d.ex
  refine ⟨c.cl, c.g, f, fd, _, F.okX S (fun vs H Q E h => ?_) fun cdv A outer s H vs Q E hr h => ?_, ⟨c.mks, h1, h2, c.kp⟩, h4⟩
  · obtain ⟨i, q, dx, us, Hb, rfl, _, _, _, ha, _⟩ := h
    rw [List.length_cons, List.length_cons, Paired.length ha, hlen]
  · obtain ⟨i, q, dx, us, Hb, rfl, ⟨hs, ht⟩, hq, hH, ha, hp, r1, r2⟩ := h
    refine ⟨_, pss_w, (body f cdv A outer s H Hb Q E i q hr hp hq r1 r2).run Hb Up.refl _ H Hb ?_⟩
    have all : All2 Hb (L2.V.ref q :: us) (atM q :: m.args i) := .cons rfl ha
    have S0 := sat_start (N := N) (n := ps.length + 1) (Same.refl Hb) (fun _ _ e => e) all (by rw [List.length_cons, hlen])
    refine ⟨⟨hs, Same.refl _, hs, fun _ _ _ z => z, fun x vs e _ => ht x vs e⟩, S0.len, S0.sl, fun a φ' hm => ?_, by simp, ht⟩
    cases List.mem_singleton.mp hm
    exact ⟨hq, hq, _, hH, dx, [], rfl, by decide, .nil⟩
/-- C(..) with what may be ours: a new instance with φ; what it newly holds stays -/
theorem evn_make {m : Ini ι} (G : CalC X.prog X.w X.K X.mg X.base x C k (spIni C m)) (i : ι) (hr : Room (k + 1) X.A) (hg : Gl X x) (hdb : (x == ("__debug__" : Str)) = false) (ha : EvAC X ρ ω (e :: es) (m.args i)) (hp : m.pre i) (hbad : m.bad i = none)
    (j : ∀ q Hb H', Hb q = none → Same Hb H' → m.ret i q Hb H' → ∃ (N : Hp) (ob : HO), (∀ z u, N z = some u → Hb z = none ∧ H' z = some u) ∧ N q = none ∧ H' q = some ob ∧ (∀ vs, ob ≠ .tup vs) ∧ ∀ H2, Same N H2 → Tp Hb H2 → φ.f H2 ob)
    (he : starEach (e :: es) X.env = (false, eval e X.env) :: starEach es X.env := by exact se_cons rfl) (hpl : (backTo pos (starEach es X.env)).any (·.1) = false := by exact se_any rfl) : EvN X ρ ω (.Call (.Name x p) (e :: es) [] pos) φ := .mk fun B B0 σ H H0 S Q q =>
  w_make G hr hg hdb E0 (fun pins H s e s' I h => passL pins σ H s e s' I h) he hpl (ha.run B B0 σ H H0 S _ fun vs H1 H01 n1 f1 z dx hz hdx hne => by
    have s1 : Same H1 (upd H1 dx (.own z)) := fun b u e => by rw [upd_ne (ne_of_none e hdx)]; exact e
    have hz1 : (upd H1 dx (.own z)) z = none := by rw [upd_ne (Ne.symm hne)]; exact hz
    refine ⟨i, z, dx, vs, upd H1 dx (.own z), rfl, ⟨fun b u e => by rw [upd_ne (ne_of_none e hz1)]; exact e, tup_put (fun _ _ e => e) fun _ z => nomatch z⟩, hz1, upd_same, f1.mono s1, hp, fun _ H' sH r => ⟨rfl, ?_⟩, fun D hD => by rw [hbad] at hD; cases hD⟩
    obtain ⟨N, ob, hN, hNq, hob, hnt, hφ⟩ := j z _ H' hz1 sH r
    have n3 := nx_addT n1.c (s1.trans sH)
    have free : ∀ {b u}, N b = some u → H1 b = none := fun {b u} e => s1.free (hN _ _ e).1
    refine q z ob H' (fun b => (N b).or (addT H1 H' H01 b)) (n1.trans ⟨n3.a, fun b u e => ?_, fun b u e => ?_, fun b u e e0 => ?_, fun b vs e e0 => ?_⟩) (n1.a.free hz) ?_ hob (hφ _ (fun b u e => by show (N b).or _ = _; rw [e]; rfl) fun b vs e => ?_)
    rotate_left 5
    · show (N b).or (addT H1 H' H01 b) = _
      have hb1 : H1 b = some (.tup vs) := by
        by_cases hb : b = dx
        · subst hb; rw [upd_same] at e; cases e
        · rw [upd_ne hb] at e; exact e
      cases hb : N b with
      | none => exact n3.b _ _ ((S.step n1).tp _ _ hb1)
      | some w => have := free hb; rw [hb1] at this; cases this
    · show (N b).or (addT H1 H' H01 b) = some u
      cases hb : N b with
      | none => exact n3.b _ _ e
      | some w => have := free hb; rw [n1.c _ _ e] at this; cases this
    · have e : (N b).or (addT H1 H' H01 b) = some u := e
      cases hb : N b with
      | none =>
        rw [hb] at e
        exact n3.c _ _ e
      | some w =>
        rw [hb] at e
        cases e
        exact (hN _ _ hb).2
    · show (N b).or (addT H1 H' H01 b) = none
      cases hb : N b with
      | none => exact n3.d _ _ e e0
      | some w => have := free hb; rw [e] at this; cases this
    · show (N b).or (addT H1 H' H01 b) = _
      cases hb : N b with
      | none => exact n3.e _ _ e e0
      | some w =>
        have := (hN _ _ hb).2
        rw [e] at this
        rw [this]; rfl
    · show (N z).or (addT H1 H' H01 z) = none
      rw [hNq]
      cases ha : addT H1 H' H01 z with
      | none => rfl
      | some o =>
        have h1 := n3.c _ _ ha
        rw [hob] at h1
        cases h1
        unfold addT at ha
        have h01 := n1.c.free hz
        rw [h01, hz, hob] at ha
        revert ha hnt
        cases ob <;> intro hnt ha <;> first | (cases ha; done) | exact absurd rfl (hnt _))
/-- C(..) raises -/
theorem rz_make {m : Ini ι} {D' : Addr} (G : CalC X.prog X.w X.K X.mg X.base x C k (spIni C m)) (i : ι) (hr : Room (k + 1) X.A) (hg : Gl X x) (hdb : (x == ("__debug__" : Str)) = false) (ha : EvAC X ρ ω (e :: es) (m.args i)) (hp : m.pre i) (hbad : m.bad i = some D')
    (he : starEach (e :: es) X.env = (false, eval e X.env) :: starEach es X.env := by exact se_cons rfl) (hpl : (backTo pos (starEach es X.env)).any (·.1) = false := by exact se_any rfl) : Rz X W ρ ω (.Call (.Name x p) (e :: es) [] pos) D' := .mk fun tk B B0 σ H H0 S Q q =>
  w_make G hr hg hdb (WE W σ) (passAt tk σ) he hpl (ha.run B B0 σ H H0 S _ fun vs H1 H01 n1 f1 z dx hz hdx hne => by
    have s1 : Same H1 (upd H1 dx (.own z)) := fun b u e => by rw [upd_ne (ne_of_none e hdx)]; exact e
    have hz1 : (upd H1 dx (.own z)) z = none := by rw [upd_ne (Ne.symm hne)]; exact hz
    refine ⟨i, z, dx, vs, upd H1 dx (.own z), rfl, ⟨fun b u e => by rw [upd_ne (ne_of_none e hz1)]; exact e, tup_put (fun _ _ e => e) fun _ z => nomatch z⟩, hz1, upd_same, f1.mono s1, hp, ?_, ?_⟩
    · intro hn; rw [hbad] at hn; cases hn
    · intro D hD H' sH
      rw [hbad] at hD
      cases hD
      exact q H' ((n1.a.trans s1).trans sH))
end
end DF

namespace DF
open R (rp)
open Dt (toD)
open PySem L2
open PySem.Spec PyProof.Rows
/-! ### 14. is; isinstance; try .. except .. as -/
theorem op_isBB {X : Cx} : OpR X (compareOp .Is) (fun x y H Q => ∃ a b, x = .bl a ∧ y = .bl b ∧ Q (.bl (decide (a = b))) H) := by
  intro pins s σ H x y v u Q I rx ry h
  obtain ⟨a, b, rfl, rfl, q⟩ := h
  cases rx
  cases ry
  show wpAny _ _ ((isSame (Value.bool a) (Value.bool b)) >>= fun z => pure (Value.bool z)) _ _ s
  exact wpAny_bind (wpAny_isSame_plain rfl (wpAny_pure (fin_bl I q (by cases a <;> cases b <;> rfl))))
theorem op_isntBB {X : Cx} : OpR X (compareOp .IsNot) (fun x y H Q => ∃ a b, x = .bl a ∧ y = .bl b ∧ Q (.bl (!decide (a = b))) H) := by
  intro pins s σ H x y v u Q I rx ry h
  obtain ⟨a, b, rfl, rfl, q⟩ := h
  cases rx
  cases ry
  show wpAny _ _ ((isSame (Value.bool a) (Value.bool b)) >>= fun z => pure (Value.bool (!z))) _ _ s
  exact wpAny_bind (wpAny_isSame_plain rfl (wpAny_pure (fin_bl I q (by cases a <;> cases b <;> rfl))))
/-- kinds that isinstance knows -/
class Ky (α : Type) extends R α where
  nm : String
  ty : ∀ (K : PySem.W.Frag) (H : Hp) (v : L2.V) (a : α), (R.rp a).f H v → TyX K H v (.type nm)
instance : Ky Int := ⟨"int", fun K H v a h => by have h : v = .int a := h; subst h; exact .base (.int a)⟩
instance : Ky Bool := ⟨"bool", fun K H v a h => by have h : v = .bl a := h; subst h; exact .base (.bl a)⟩
instance : Ky Tx := ⟨"str", fun K H v a h => by have h : v = .str (tx a.cs) := h; subst h; exact .base (.str _)⟩
instance {α : Type} [R α] : Ky (List α) := ⟨"list", fun K H v a h => by
  obtain ⟨p, o, rfl, hp, vs, rfl, _⟩ := h
  exact .base (.lst hp)⟩
instance {α β : Type} [R α] [R β] : Ky (α × β) := ⟨"tuple", fun K H v a h => by
  obtain ⟨p, vs, rfl, hp, _⟩ := h
  exact .base (.tup hp)⟩
section
variable {X : Cx} {B B0 : Hp} {ρ ρ' : En} {ω ω' : Ow} {e a b c o tg iter : Expr} {es : List Expr} {P P1 P2 : MP} {φ ψ : MO} {pos p p2 apos : Pos} {x y : Str} {rest body orelse : List Stmt} {D : Ends} {st : Stmt} {Ps Ps' : List MP} {α β ι : Type} {k : Nat} {C : Addr} {W : WX}
theorem et_isB {k l : Bool} (h1 : Ev X ρ ω a (rp k)) (h2 : Ev X ρ ω b (rp l)) : EvT X ρ ω (.Compare a [.Is] [b] pos) (decide (k = l)) :=
  et_cmp op_isBB (fun v1 v2 H H0 s f1 f2 Q q => ⟨k, l, f1, f2, q _ H H0 (Nx.refl s) rfl⟩) h1 h2 (nomark _)
theorem et_isntB {k l : Bool} (h1 : Ev X ρ ω a (rp k)) (h2 : Ev X ρ ω b (rp l)) : EvT X ρ ω (.Compare a [.IsNot] [b] pos) (!decide (k = l)) :=
  et_cmp op_isntBB (fun v1 v2 H H0 s f1 f2 Q q => ⟨k, l, f1, f2, q _ H H0 (Nx.refl s) rfl⟩) h1 h2 (nomark _)
theorem ev_isG {A : L2.V → Hp → Hp → Prop} {T t : String} {bo : Bool} (Bb : Bl X.mg) (h : EvG X ρ ω a A) (hA : ∀ v H H0, Same H0 H → A v H H0 → TyX X.K H v (.type t)) (hk : kitB t T = some bo) (hx : x ∈ (["list", "int", "bool", "tuple", "str"] : List Str)) (hT : bootBuiltins x = some (.type T))
    (hg : Gl X "isinstance") (hg2 : Gl X x) (hs : starEach [a, .Name x p2] X.env = (false, eval a X.env) :: starEach [.Name x p2] X.env := by exact se_cons rfl) : Ev X ρ ω (.Call (.Name "isinstance" p) [a, .Name x p2] [] pos) (rp bo) := .mk fun B B0 σ H H0 S Q q => by
  have hx2 : X.mg x = none ∧ x ≠ "__name__" ∧ (x == ("__debug__" : Str)) = false := by
    simp only [List.mem_cons, List.not_mem_nil, or_false] at hx
    rcases hx with rfl | rfl | rfl | rfl | rfl <;> exact ⟨Bb _ (by decide +kernel), by decide +kernel, by decide +kernel⟩
  refine wE_of (pe_callB call_isi hg (Bb _ (by decide +kernel)) (by decide +kernel) (pa_cons pe_w (pa_cons (pe_bltn (v := .ty T) hg2 hx2.1 hT rfl hx2.2.1 hx2.2.2) pa_nil (se_cons rfl)) hs) (by decide +kernel) (by decide +kernel) hs (by exact se_any (es := [.Name x p2]) rfl)) (h.run B B0 σ H H0 S _ fun v H1 H01 n1 f1 => ?_)
  exact ⟨v, .ty T, _, _, bo, rfl, .ty T, hA v H1 H01 n1.c f1, kit_ty hk, q _ H1 H01 n1 rfl⟩
theorem ev_isi [Ky α] {z : α} {T : String} {bo : Bool} (Bb : Bl X.mg) (h : Ev X ρ ω a (rp z)) (hk : kitB (Ky.nm α) T = some bo := by decide +kernel) (hx : x ∈ (["list", "int", "bool", "tuple", "str"] : List Str) := by decide +kernel) (hT : bootBuiltins x = some (.type T) := by decide +kernel)
    (hg : Gl X "isinstance" := by rfl) (hg2 : Gl X x := by rfl) (hs : starEach [a, .Name x p2] X.env = (false, eval a X.env) :: starEach [.Name x p2] X.env := by exact se_cons rfl) : Ev X ρ ω (.Call (.Name "isinstance" p) [a, .Name x p2] [] pos) (rp bo) :=
  ev_isG Bb h.evg (fun v H H0 s f => Ky.ty _ _ _ _ ((rp z).mono s f)) hk hx hT hg hg2 hs
theorem ev_isiC [R α] {z : List α} {T : String} {bo : Bool} (Bb : Bl X.mg) (h : EvC X ρ ω a (lsO z)) (hk : kitB "list" T = some bo := by decide +kernel) (hx : x ∈ (["list", "int", "bool", "tuple", "str"] : List Str) := by decide +kernel) (hT : bootBuiltins x = some (.type T) := by decide +kernel)
    (hg : Gl X "isinstance" := by rfl) (hg2 : Gl X x := by rfl) (hs : starEach [a, .Name x p2] X.env = (false, eval a X.env) :: starEach [.Name x p2] X.env := by exact se_cons rfl) : Ev X ρ ω (.Call (.Name "isinstance" p) [a, .Name x p2] [] pos) (rp bo) :=
  ev_isG Bb h.evg (fun v H H0 s ⟨q, o, e1, h1, vs, e2, f⟩ => by subst e1; subst e2; exact .base (.lst h1)) hk hx hT hg hg2 hs
/-! the caught error -/
structure Err1 (C : Addr) (oe : Obj) : Prop where
  z : Zc (.ref C) none oe
  f : ∃ vs, oe.data = .fields vs
/-- isinstance(e, C2), e the caught error of the class at C -/
theorem ev_isE {pn : List (Addr × Obj)} {ad : Addr} {oe : Obj} {C2 : Addr} {bo : Bool} {n : Str} (Bb : Bl X.mg) (xC : ExcC X.K C) (he : Err1 C oe) (h : Ev (X.suite ad ((ad, oe) :: pn)) ρ ω (.Name n p2) (atM ad)) (hm : X.mg x = some (.ref C2)) (hk : PySem.W.kitOne X.K (.ref C) (.ref C2) = some bo)
    (hg : Gl X "isinstance" := by rfl) (hg2 : Gl X x := by rfl) (hdb : (x == ("__debug__" : Str)) = false := by decide +kernel) : Ev (X.suite ad ((ad, oe) :: pn)) ρ ω (.Call (.Name "isinstance" p) [.Name n p2, .Name x apos] [] pos) (rp bo) := .mk fun B B0 σ H H0 S Q q => by
  refine wE_of (pe_callB (call_isE xC he.z he.f) hg (Bb _ (by decide +kernel)) (by decide +kernel) (pa_cons pe_w (pa_cons (pe_glob (v := .ref C2) hg2 hm rfl hdb) pa_nil (se_cons rfl)) (se_cons rfl)) (by decide +kernel) (by decide +kernel) (se_cons rfl) (by exact se_any (es := [.Name x apos]) rfl)) (h.run B B0 σ H H0 S _ fun v H1 H01 n1 f1 => ?_)
  have f1 : v = .ref ad := f1
  subst f1
  exact ⟨.ref C2, .ref C2, bo, rfl, fun u hu => hu, hk, q _ H1 H01 n1 rfl⟩
/-- .. and of a built-in class -/
theorem ev_isEb {pn : List (Addr × Obj)} {ad : Addr} {oe : Obj} {T : String} {bo : Bool} {n : Str} (Bb : Bl X.mg) (xC : ExcC X.K C) (he : Err1 C oe) (h : Ev (X.suite ad ((ad, oe) :: pn)) ρ ω (.Name n p2) (atM ad)) (hm : X.mg x = none) (hT : bootBuiltins x = some (.type T)) (hk : PySem.W.kitOne X.K (.ref C) (.type T) = some bo)
    (hg : Gl X "isinstance" := by rfl) (hg2 : Gl X x := by rfl) (hn : x ≠ "__name__" := by decide +kernel) (hdb : (x == ("__debug__" : Str)) = false := by decide +kernel) : Ev (X.suite ad ((ad, oe) :: pn)) ρ ω (.Call (.Name "isinstance" p) [.Name n p2, .Name x apos] [] pos) (rp bo) := .mk fun B B0 σ H H0 S Q q => by
  refine wE_of (pe_callB (call_isE xC he.z he.f) hg (Bb _ (by decide +kernel)) (by decide +kernel) (pa_cons pe_w (pa_cons (pe_bltn (v := .ty T) hg2 hm hT rfl hn hdb) pa_nil (se_cons rfl)) (se_cons rfl)) (by decide +kernel) (by decide +kernel) (se_cons rfl) (by exact se_any (es := [.Name x apos]) rfl)) (h.run B B0 σ H H0 S _ fun v H1 H01 n1 f1 => ?_)
  have f1 : v = .ref ad := f1
  subst f1
  exact ⟨.ty T, .type T, bo, rfl, fun u hu => hu, hk, q _ H1 H01 n1 rfl⟩
/-- what a raise in the body comes to -/
abbrev Caught (B B0 : Hp) (ρ : En) (ω : Ow) (Cs : Addr → Prop) (W : WX) : Prop := ∀ C, Cs C → ∀ B1, Up B B0 B1 → ∀ σ H H0, Sat B B1 ρ ω σ H H0 → ∀ H', Same H H' → W (.ref C) none σ H'
theorem go_tryAs {n : Str} {cv : Value} {Cs : Addr → Prop} {b₀ : Stmt} {suite : List Stmt} {np pos' : Pos} {Wout : WX} (nd : X.N.Nodup) (i : Nat) (hs : X.stack = X.env :: X.outer) (hf : X.env.frame = some X.env.locals) (hc : Names X x cv) (hC : ∀ C, Cs C → PySem.W.exmOne X.K (.ref C) cv = some true) (tk : Takes X Wout)
    (hbody : ∀ (W : WX) (pn : List (Addr × Obj)) (xe : Value → Shared → Prop), Takes (X.tr pn xe) W → PassesOwn (model X.prog X.w) X.A X.env xe → Caught B B0 ρ ω Cs W → Go (X.tr pn xe) B B0 ρ ω body { nx := wB X rest D, rt := D.rt, bk := D.bk, ct := D.ct })
    (hsuite : ∀ C, Cs C → ∀ (ad : Addr) (oe : Obj) (pn : List (Addr × Obj)), Err1 C oe → Go (X.suite ad ((ad, oe) :: pn)) B B0 (ρ.set i (some (atM ad))) ω (b₀ :: suite) { nx := fun σ' H' => wB X rest D (σ'.set i none) H', rt := D.rt, bk := fun σ' H' => D.bk (σ'.set i none) H', ct := fun σ' H' => D.ct (σ'.set i none) H' })
    (hi : X.N[i]? = some n := by rfl) (hln : X.env.kindOf n = some .local := by rfl) :
    Go X B B0 ρ ω (.Try body [.ExceptHandler (some (.Name x np)) (some n) (b₀ :: suite) pos'] [] [] pos :: rest) D :=
  go_st (ps_try_as (tb := fun W D σ H => ∀ pn xe, Takes (X.tr pn xe) W → PassesOwn (model X.prog X.w) X.A X.env xe → wB (X.tr pn xe) body D σ H)
      (ts := fun ad cls d D σ H => ∀ oe pn, Zc cls d oe → (∃ vs, oe.data = .fields vs) → wB (X.suite ad ((ad, oe) :: pn)) (b₀ :: suite) D σ H) hs hf nd hi hln hc tk
      (fun W pn xe tk po => ⟨fun pins s σ H D I h => h pn xe tk po pins s I⟩)
      (fun ad oe cls d pn hz hd => ⟨fun pins s σ H D I h => h oe pn hz hd pins s I⟩)) fun B1 u σ H H0 S => fun pn xe tk' po => (hbody _ pn xe tk' po (fun C hCs B2 u2 σ2 H2 H02 S2 H3 s3 =>
      ⟨true, hC C hCs, fun _ ad had oe pn2 hz hd => (hsuite C hCs ad oe pn2 ⟨hz, hd⟩).run B2 u2 _ H3 (addT H2 H3 H02) ((S2.step (nx_addT S2.sub s3)).set i rfl), fun z => nomatch z⟩)).run B1 u σ H H0 S
/-- a return within a loop -/
theorem rt_up {H H0 B1 : Hp} {P : MP} {D : Ends} (u : Up H H0 B1) (h : GoodV P H H0 D.rt) : Rt H B1 P D := fun v H' H0' n f => h v H' H0' (u _ _ n) f
theorem rtN_up {H H0 B1 : Hp} {φ : MO} {D : Ends} (u : Up H H0 B1) (h : GoodN φ H H0 D.rt) : RtN H B1 φ D := fun p o H' H0' n hp h0 h' f => h p o H' H0' (u _ _ n) hp h0 h' f
theorem vlook {x : Str} {P : MP} {h w : Int} (hx : (x == ("rows" : Str)) = false ∧ (x == ("height" : Str)) = false ∧ (x == ("width" : Str)) = false) : (viewF P h w).lookup x = none := by
  obtain ⟨h1, h2, h3⟩ := hx
  simp only [viewF, List.lookup_cons, h1, h2, h3, List.lookup_nil]
theorem ev_vr {C : Addr} (rows : List Tx) (h : Ev X ρ ω e (rp (⟨C, rows⟩ : VW))) (c : Cls X.K C) (na : NoAttr X.K C "rows") (hb : attributeBase e "rows" X.env (eval e X.env) = eval e X.env := by exact ab_plain rfl) : Ev X ρ ω (.Attribute e "rows" pos) (rp rows) := ev_fld (vo h) c na rfl hb
theorem ev_vh {C : Addr} (rows : List Tx) (h : Ev X ρ ω e (rp (⟨C, rows⟩ : VW))) (c : Cls X.K C) (na : NoAttr X.K C "height") (hb : attributeBase e "height" X.env (eval e X.env) = eval e X.env := by exact ab_plain rfl) : Ev X ρ ω (.Attribute e "height" pos) (rp (rows.length : Int)) := ev_fld (vo h) c na (by
  show (viewF _ _ _).lookup _ = _
  have h1 : (("height" : Str) == ("rows" : Str)) = false := by decide +kernel
  simp only [viewF, List.lookup_cons, h1, beq_self_eq_true]) hb
theorem ev_vw {C : Addr} (rows : List Tx) (h : Ev X ρ ω e (rp (⟨C, rows⟩ : VW))) (c : Cls X.K C) (na : NoAttr X.K C "width") (hb : attributeBase e "width" X.env (eval e X.env) = eval e X.env := by exact ab_plain rfl) : Ev X ρ ω (.Attribute e "width" pos) (rp ((⟨C, rows⟩ : VW).w : Int)) := ev_fld (vo h) c na (by
  show (viewF _ _ _).lookup _ = _
  have h1 : (("width" : Str) == ("rows" : Str)) = false := by decide +kernel
  have h2 : (("width" : Str) == ("height" : Str)) = false := by decide +kernel
  simp only [viewF, List.lookup_cons, h1, h2, beq_self_eq_true]) hb
/-! isinstance: what the facts say -/
theorem kit_ref {K : PySem.W.Frag} {C C2 : Addr} (hi : PySem.W.isClsIn K C2 = true) (ht : PySem.W.typeIn K (.ref C2) = some (.type "type")) (hu : PySem.W.subIn K (.ref C) (.ref C2) = some true) : PySem.W.kitOne K (.ref C) (.ref C2) = some true := by
  unfold PySem.W.kitOne
  split
  · rfl
  · have hi : (PySem.W.clsIn K C2).isSome = true := hi
    show (if ((PySem.W.clsIn K C2).isSome && PySem.W.typeIn K (.ref C2) == some (.type "type")) = true then PySem.W.subIn K (.ref C) (.ref C2) else none) = _
    rw [hi, ht, hu, if_pos (by rfl)]
theorem kit_bt {K : PySem.W.Frag} {C : Addr} {T : String} (hm : PySem.W.kitMeta T = true) (hu : PySem.W.subIn K (.ref C) (.type T) = some true) : PySem.W.kitOne K (.ref C) (.type T) = some true := by
  unfold PySem.W.kitOne
  split
  · rfl
  · show (if PySem.W.kitMeta T = true then PySem.W.subIn K (.ref C) (.type T) else none) = _
    rw [if_pos hm, hu]
theorem exm_of {K : PySem.W.Frag} {mg : Str → Option Value} {x : Str} {C C2 : Addr} {b : Bool} (e : Err K mg x C2) (xc : ExcC K C2) (hu : PySem.W.subIn K (.ref C) (.ref C2) = some b) : PySem.W.exmOne K (.ref C) (.ref C2) = some b := PySem.W.exm_ref e.b xc.hd e.t hu
/-- an object of ours, met as a value -/
theorem evc_at {q : Addr} (h : Ev X ρ ω e (atM q)) (hw : (q, φ) ∈ ω) : EvC X ρ ω e φ := .mk fun B B0 σ H H0 S Q k => h.run B B0 σ H H0 S _ fun v H' H0' n f => by
  have f : v = .ref q := f
  subst f
  obtain ⟨_, _, o, h1, h2⟩ := (S.step n).ow q φ hw
  exact k q o H' H0' n h1 h2
/-- o.append(e), o any expression that stands for a list of ours -/
theorem go_appE [R α] {xs : List α} {z : α} {q : Addr} (j : Nat) (ho : Ev X ρ ω o (atM q)) (hw : ω[j]? = some (q, lsO xs)) (h : Ev X ρ ω e (rp z)) (hl : xs.length < 1000000) (k : Go X B B0 ρ (ω.set j (q, lsO (xs ++ [z]))) rest D)
    (hfew : ((backTo pos (starEach [e] X.env)).all (fun x => !x.1) && (backToKw pos (keywordEach [] X.env)).all (fun x => x.1.isSome) && decide ([e].length + ([] : List Keyword).length + (if ([] : List Keyword).isEmpty then 0 else 1) < 30)) = true := by exact se_few rfl)
    (hline : (apos.endLine == pos.line) = true := by rfl) (hst : starEach [e] X.env = (false, eval e X.env) :: starEach [] X.env := by exact se_cons rfl)
    (hsw : swapsWith (.Call (.Attribute o "append" apos) [e] [] pos) none p2.line X.env = pure false := by exact sw_any rfl) (hbase : attributeBase o "append" X.env (eval o X.env) = eval o X.env := by exact ab_plain rfl) :
    Go X B B0 ρ ω (.Expr (.Call (.Attribute o "append" apos) [e] [] pos) p2 :: rest) D :=
  go_st (ps_expr (pe_bm PySem.F.plainAttrs_list PySem.F.slot_list_append PySem.F.type_list_append mt_append pe_w (pa_cons pe_w pa_nil hst) hbase hfew hline hst (by rfl)) hsw) fun B1 u σ H H0 S => ho.run B B1 σ H H0 S _ fun v H1 H01 n1 f1 => by
    have f1 : v = .ref q := f1
    subst f1
    have S1 := S.step n1
    obtain ⟨hB, h0, ob, hq, vs, e1, f⟩ := S1.ow q _ (List.mem_of_getElem? hw)
    subst e1
    refine ⟨.inl ⟨rfl, vs, SqL.of hq⟩, h.run B B1 σ H1 H01 S1 _ fun w H' H0' n g => ?_⟩
    have hl' := Paired.length f
    refine ⟨q, vs, w, rfl, rfl, n.a _ _ hq, Nat.lt_of_lt_of_le (by rw [hl', List.length_map]; exact hl) (by decide), ?_⟩
    refine k.run B1 u σ _ H0' ((S1.step n).put hw ⟨_, rfl, ?_⟩)
    rw [List.map_append]
    exact Paired.app (f.mono n.b) (.cons g .nil)
/-- new objects, one for each expression -/
def Each3 (H H0 H' : Hp) (H0' : Hp) : List Addr → List MO → Prop
  | [], [] => True
  | p :: ps, φ :: φs => H p = none ∧ H0' p = none ∧ (∃ o, H' p = some o ∧ φ.f H0' o) ∧ p ∉ ps ∧ Each3 H H0 H' H0' ps φs
  | _, _ => False
theorem Each3.step {H H0 H1 H01 H2 H02 : Hp} (n : Nx H1 H01 H2 H02) : ∀ {ps : List Addr} {φs : List MO}, Each3 H H0 H1 H01 ps φs → Each3 H H0 H2 H02 ps φs
  | [], [], _ => trivial
  | p :: ps, φ :: φs, h => by
    obtain ⟨h1, h2, ⟨o, h3, h4⟩, h5, h6⟩ := h
    exact ⟨h1, n.d _ _ h3 h2, ⟨o, n.a _ _ h3, φ.mono n.b h4⟩, h5, Each3.step n h6⟩
  | [], _ :: _, h => h.elim
  | _ :: _, [], h => h.elim
theorem Each3.base {H H0 H1 H01 H2 H02 : Hp} (s : Same H H1) : ∀ {ps : List Addr} {φs : List MO}, Each3 H1 H01 H2 H02 ps φs → Each3 H H0 H2 H02 ps φs
  | [], [], _ => trivial
  | p :: ps, φ :: φs, h => by
    obtain ⟨h1, h2, h3, h5, h6⟩ := h
    exact ⟨s.free h1, h2, h3, h5, Each3.base s h6⟩
  | [], _ :: _, h => h.elim
  | _ :: _, [], h => h.elim
theorem Each3.notin {H H0 H' H0' : Hp} {q : Addr} {u : HO} (h : H q = some u) : ∀ {ps : List Addr} {φs : List MO}, Each3 H H0 H' H0' ps φs → q ∉ ps
  | [], [], _ => by simp
  | p :: ps, φ :: φs, ⟨h1, _, _, _, h6⟩ => by
    intro hm
    rcases List.mem_cons.mp hm with e | hm
    · subst e; rw [h] at h1; cases h1
    · exact Each3.notin h h6 hm
  | [], _ :: _, h => h.elim
  | _ :: _, [], h => h.elim
structure EvAN (X : Cx) (ρ : En) (ω : Ow) (es : List Expr) (φs : List MO) : Prop where
  run : ∀ B B0 σ H H0, Sat B B0 ρ ω σ H H0 → ∀ Q : List L2.V → Hp → Prop, (∀ ps H' H0', Nx H H0 H' H0' → Each3 H H0 H' H0' ps φs → Q (ps.map L2.V.ref) H') → wA X es σ H Q
theorem ean_nil : EvAN X ρ ω [] [] := .mk fun B B0 σ H H0 S Q q => wA_of pa_nil (q [] H H0 (Nx.refl S.sub) trivial)
theorem ean_cons {φs : List MO} (h : EvN X ρ ω e φ) (hr : EvAN X ρ ω es φs) (hs : starEach (e :: es) X.env = (false, eval e X.env) :: starEach es X.env := by exact se_cons rfl) : EvAN X ρ ω (e :: es) (φ :: φs) := .mk fun B B0 σ H H0 S Q q =>
  wA_of (pa_cons pe_w pa_w hs) (h.run B B0 σ H H0 S _ fun p o H1 H01 n1 h1 h2 h3 h4 => hr.run B B0 σ H1 H01 (S.step n1) _ fun ps H2 H02 n2 f2 => q (p :: ps) H2 H02 (n1.trans n2)
    ⟨h1, n2.d _ _ h3 h2, ⟨o, n2.a _ _ h3, φ.mono n2.b h4⟩, Each3.notin h3 f2, Each3.base n1.a f2⟩)
theorem Sat.owns {H H0 H' H0' : Hp} {σ : L2.St} (S : Sat B B0 ρ ω σ H H0) (S' : Sat B B0 ρ ω σ H' H0') : ∀ {ps : List Addr} {φs : List MO}, Each3 H H0 H' H0' ps φs → Sat B B0 ρ (ps.zip φs ++ ω) σ H' H0'
  | [], [], _ => S'
  | p :: ps, φ :: φs, h => by
    obtain ⟨h1, h2, ⟨o, h3, h4⟩, h5, h6⟩ := h
    refine (Sat.owns S S' h6).own (fun a ψ hm => ?_) (S.nx.a.free h1) h2 h3 h4
    rcases List.mem_append.mp hm with hm | hm
    · have := (List.of_mem_zip hm).1
      intro e; subst e; exact h5 this
    · obtain ⟨_, _, w, q3, _⟩ := S.ow a ψ hm
      exact ne_of_none q3 h1
  | [], _ :: _, h => h.elim
  | _ :: _, [], h => h.elim
theorem refs_all {H : Hp} : ∀ {ps : List Addr}, All2 H (ps.map L2.V.ref) (ps.map atM)
  | [] => .nil
  | p :: ps => .cons rfl refs_all
theorem Each3.len {H H0 H' H0' : Hp} : ∀ {ps : List Addr} {φs : List MO}, Each3 H H0 H' H0' ps φs → ps.length = φs.length
  | [], [], _ => rfl
  | p :: ps, φ :: φs, ⟨_, _, _, _, h6⟩ => by rw [List.length_cons, List.length_cons, Each3.len h6]
  | [], _ :: _, h => h.elim
  | _ :: _, [], h => h.elim
/-- x = [e1, e2, ..]: new objects of ours, held in a list that stays -/
theorem G_asgL {φs : List MO} (nd : X.N.Nodup) (i : Nat) (h : EvAN X ρ ω es φs) (hl : φs.length ≤ 1000) (k : ∀ ps : List Addr, ps.length = φs.length → Go X B B0 (ρ.set i (some (obM (lsM (ps.map atM))))) (ps.zip φs ++ ω) rest D) (hi : X.N[i]? = some x := by rfl) (hx : Loc X.env.scope x := by first | exact Or.inl rfl | exact Or.inr rfl) (hf : X.fn x = true ∨ X.env.scope.names.lookup x = some .local := by first | exact Or.inl rfl | exact Or.inr rfl)
    (hs : swapsWithSole [.Name x p] (.List es p2) pos.line X.env = pure false := by exact sw_sole rfl) (hw : swappedStores [.Name x p] (.List es p2) X.env = pure none := by exact ss_name)
    (h1 : (assignEach [.Name x p] X.env).map (·.2) = [assign (.Name x p) X.env] := by exact ae_name) : Go X B B0 ρ ω (.Assign [.Name x p] (.List es p2) pos :: rest) D :=
  go_st (ps_asg (pe_lst pa_w) (pg_name nd hi hx hf) hs hw h1) fun B1 u σ H H0 S => h.run B B1 σ H H0 S _ fun ps H' H0' n f => ⟨by rw [List.length_map, f.len]; exact Nat.le_trans hl (by decide), fun l hl' => by
    have n2 := Nx.new (o := .lst (ps.map L2.V.ref)) n.c hl'
    have S1 := Sat.owns S (S.step (n.trans n2)) (f.step n2)
    exact (k ps f.len).run B1 u _ _ _ (S1.set i ⟨l, _, rfl, upd_same, _, rfl, refs_all⟩)⟩
end
end DF
namespace DF
open R (rp)
open Dt (toD)
open PySem L2
/-- two statements, then what both ends of them go on with -/
theorem go_join {X : Cx} {B B0 : Hp} {ρ ρ' : En} {ω ω' : Ow} {s1 s2 : Stmt} {rest : List Stmt} {D : Ends} (k : Go X B B0 ρ' ω' rest D) (h : Go X B B0 ρ' ω' rest D → Go X B B0 ρ ω (s1 :: s2 :: rest) D) : Go X B B0 ρ ω (s1 :: s2 :: rest) D := h k
end DF

namespace DF
open R (rp)
open Dt (toD)
open PySem L2
open PySem.Spec PyProof.Rows
/-! ### 15. more of texts, cells -/
theorem op_mulS {X : Cx} : OpR X (binaryOp .Mult) (fun x y H Q => ∃ (z : Str) (n : Int), x = .str z ∧ y = .int n ∧ (0 ≤ n ∧ n ≤ 1000) ∧ z.length ≤ 1000 ∧ Q (.str (if n < 1 then Str.empty else if (n == 1 || z.length == 0) = true then z else ⟨(List.replicate n.toNat z.cps).foldl (· ++ ·) #[]⟩)) H) := by
  intro pins s σ H x y v u Q I rx ry h
  obtain ⟨z, n, rfl, rfl, hn, hz, q⟩ := h
  obtain ⟨t, rfl⟩ := rx
  obtain ⟨t', rfl⟩ := ry
  have hb : ¬ n < 1 → ¬ ((z.length : Int) > (2 ^ 63 - 1) / n) := fun h1 => by
    have : (1000 : Int) ≤ (2 ^ 63 - 1) / n := by
      rw [Int.le_ediv_iff_mul_le (by omega)]
      have : 1000 * n ≤ 1000 * 1000 := Int.mul_le_mul_of_nonneg_left hn.2 (by decide)
      omega
    omega
  refine PySem.P.mul_str (by rw [decide_eq_false (by omega), decide_eq_false (by omega)]; rfl) (fun h1 _ => hb h1) (fun h1 _ => ?_) ?_
  · have : z.length * n.toNat ≤ 1000 * 1000 := Nat.mul_le_mul hz (by omega)
    show decide (z.length * n.toNat > sizeLine) = false
    rw [decide_eq_false]
    exact Nat.not_lt.mpr (Nat.le_trans this (by decide))
  · have hrep : ∀ (m : Nat) (acc : Array Nat), ((List.replicate m z.cps).foldl (· ++ ·) acc).size = acc.size + m * z.length := by
      intro m
      induction m with
      | zero => intro acc; simp
      | succ m ih =>
        intro acc
        rw [List.replicate_succ, List.foldl_cons, ih, Array.size_append, Nat.succ_mul]
        show acc.size + z.length + m * z.length = _
        omega
    by_cases h1 : n < 1
    · rw [if_pos h1] at q ⊢
      exact ⟨by decide, ⟨.str _, H, I.tok _, ⟨_, rfl⟩, q⟩⟩
    · rw [if_neg h1] at q ⊢
      by_cases h2 : (n == 1 || z.length == 0) = true
      · rw [if_pos h2] at q ⊢
        exact ⟨.str _, H, I, ⟨_, rfl⟩, q⟩
      · rw [if_neg h2] at q ⊢
        refine ⟨?_, ⟨.str _, H, I.tok _, ⟨_, rfl⟩, q⟩⟩
        show ((List.replicate n.toNat z.cps).foldl (· ++ ·) #[]).size ≤ sizeLine
        rw [hrep]
        have : n.toNat * z.length ≤ 1000 * 1000 := Nat.mul_le_mul (by omega) hz
        exact Nat.le_trans (by simpa using this) (by decide)
section
variable {X : Cx} {B B0 : Hp} {ρ ρ' : En} {ω ω' : Ow} {e a b c o tg iter : Expr} {es : List Expr} {P P1 P2 : MP} {φ ψ : MO} {pos p p2 apos : Pos} {x y : Str} {rest body orelse : List Stmt} {D : Ends} {st : Stmt} {Ps Ps' : List MP} {α β ι : Type} {k : Nat} {C : Addr} {W : WX}
theorem jltC (hu : X.A.units < cLine) {y z : Cell} : J2 (rLtT X.K) (rp y) (rp z) (rp (clt y z)) := fun v1 v2 H H0 s ⟨p1, vs1, e1, h1, f1⟩ ⟨p2, vs2, e2, h2, f2⟩ Q q => by
  cases f1 with
  | cons a1 f1 =>
  cases f1 with
  | cons a2 f1 =>
  cases f1
  cases f2 with
  | cons b1 f2 =>
  cases f2 with
  | cons b2 f2 =>
  cases f2
  have a1 : _ = L2.V.int y.1 := a1
  have a2 : _ = L2.V.int y.2 := a2
  have b1 : _ = L2.V.int z.1 := b1
  have b2 : _ = L2.V.int z.2 := b2
  subst a1; subst a2; subst b1; subst b2
  refine ⟨p1, p2, [y.1, y.2], [z.1, z.2], e1, e2, SqT.of (s _ _ h1), SqT.of (s _ _ h2), ?_⟩
  have : HT.lexLt [y.1, y.2] [z.1, z.2] = clt y z := by
    unfold clt
    simp only [HT.lexLt]
    by_cases h : y.1 < z.1 <;> by_cases h2 : y.1 = z.1 <;> by_cases h3 : y.2 < z.2 <;> simp [h, h2, h3] <;> omega
  rw [this]
  exact q _ H H0 (Nx.refl s) rfl
theorem ev_ltC {y z : Cell} (hu : X.A.units + 64 < cLine) (h1 : Ev X ρ ω a (rp y)) (h2 : Ev X ρ ω b (rp z)) : Ev X ρ ω (.Compare a [.Lt] [b] pos) (rp (clt y z)) := ev_cmp (op_ltT (by omega)) (jltC (by omega)) h1 h2 (nomark _)
/-- text.index(sign), the sign at k -/
theorem t_index {z : Tx} {n k : Nat} (h1 : Ev X ρ ω o (rp z)) (h2 : Ev X ρ ω e (rp (⟨[n]⟩ : Tx))) (hk : ∃ rest, Builtin.Str.occurrences (tx z.cs) (tx [n]) 0 (tx z.cs).length 1 = k :: rest)
    (hs : starEach [e] X.env = [(false, eval e X.env)] := by exact se_one rfl) (hbase : attributeBase o "index" X.env (eval o X.env) = eval o X.env := by exact ab_plain rfl) (hline : (apos.endLine == pos.line) = true := by rfl) : Ev X ρ ω (.Call (.Attribute o "index" apos) [e] [] pos) (rp (k : Int)) := .mk fun B B0 σ H H0 S Q q =>
  wE_of (pe_m1 F.slot_str_index F.type_str_index mt_sindex pe_w pe_w hs hbase hline) (h1.run B B0 σ H H0 S _ fun v1 H1 H01 n1 f1 => ⟨⟨tx z.cs, f1⟩, h2.run B B0 σ H1 H01 (S.step n1) _ fun v2 H2 H02 n2 f2 => by
    obtain ⟨rest, hr⟩ := hk
    exact ⟨tx z.cs, tx [n], k, rest, f1, by rw [show v2 = .str (tx [n]) from f2], hr, q _ H2 H02 (n1.trans n2) rfl⟩⟩)
theorem rep_tx (k : Nat) : ∀ (m : Nat) (acc : List Nat), (List.replicate m (tx [k]).cps).foldl (· ++ ·) acc.toArray = (acc ++ List.replicate m k).toArray
  | 0, acc => by simp
  | m + 1, acc => by
    rw [List.replicate_succ, List.foldl_cons]
    have : acc.toArray ++ (tx [k]).cps = (acc ++ [k]).toArray := by simp [tx]
    rw [this, rep_tx k m, List.append_assoc]; rfl
/-- sign * n -/
theorem t_mul {c1 : Nat} {n : Int} (h1 : Ev X ρ ω a (rp (⟨[c1]⟩ : Tx))) (h2 : Ev X ρ ω b (rp n)) (hn : 0 ≤ n ∧ n ≤ 1000) : Ev X ρ ω (.BinOp a .Mult b pos) (rp (⟨List.replicate n.toNat c1⟩ : Tx)) :=
  ev_op op_mulS (fun v1 v2 H H0 s f1 f2 Q q => ⟨tx [c1], n, f1, f2, hn, by rw [tx_len]; show 1 ≤ 1000; decide, by
    have e : (if n < 1 then Str.empty else if (n == 1 || (tx [c1]).length == 0) = true then tx [c1] else ⟨(List.replicate n.toNat (tx [c1]).cps).foldl (· ++ ·) #[]⟩) = tx (List.replicate n.toNat c1) := by
      by_cases h1 : n < 1
      · rw [if_pos h1, show n.toNat = 0 by omega]; rfl
      · rw [if_neg h1]
        by_cases h2 : n = 1
        · subst h2; rfl
        · rw [if_neg (by rw [tx_len]; simp [h2])]
          have := rep_tx c1 n.toNat []
          unfold tx
          congr 1
    rw [e]
    exact q _ H H0 (Nx.refl s) rfl⟩) h1 h2
theorem glued_tx : ∀ (ts : List Tx) (acc : List Nat), (ts.map fun t => tx t.cs).foldl (fun acc p => acc ++ (tx []).cps ++ p.cps) acc.toArray = (acc ++ ts.flatMap (·.cs)).toArray
  | [], acc => by simp
  | t :: ts, acc => by
    rw [List.map_cons, List.foldl_cons]
    have : acc.toArray ++ (tx []).cps ++ (tx t.cs).cps = (acc ++ t.cs).toArray := by simp [tx]
    rw [this, glued_tx ts, List.flatMap_cons, List.append_assoc]
theorem join_tx (ts : List Tx) : Txt.join (tx []) (ts.map fun t => tx t.cs) = tx (ts.flatMap (·.cs)) := by
  unfold Txt.join Builtin.Str.glued
  cases ts with
  | nil => rfl
  | cons t ts =>
    have := glued_tx ts t.cs
    simp only [List.map_cons, List.drop_succ_cons, List.drop_zero, List.headD_cons, List.flatMap_cons]
    show Str.mk _ = _
    rw [show (tx t.cs).cps = t.cs.toArray from rfl, this]; rfl
theorem txs_all {H : Hp} : ∀ {vs : List L2.V} {ts : List Tx}, All2 H vs (ts.map rp) → vs = ts.map fun t => L2.V.str (tx t.cs)
  | _, [], h => by cases h; rfl
  | _, t :: ts, h => by
    cases h with
    | cons h1 h2 =>
      have h1 : _ = L2.V.str (tx t.cs) := h1
      rw [h1, txs_all h2, List.map_cons]
/-- ''.join(texts) -/
theorem t_join {ts : List Tx} (h1 : Ev X ρ ω o (rp (⟨[]⟩ : Tx))) (h2 : EvC X ρ ω e (lsO ts)) (hl : (ts.map fun t => t.cs.length).sum ≤ 1000)
    (hs : starEach [e] X.env = [(false, eval e X.env)] := by exact se_one rfl) (hbase : attributeBase o "join" X.env (eval o X.env) = eval o X.env := by exact ab_plain rfl) (hline : (apos.endLine == pos.line) = true := by rfl) : Ev X ρ ω (.Call (.Attribute o "join" apos) [e] [] pos) (rp (⟨ts.flatMap (·.cs)⟩ : Tx)) := .mk fun B B0 σ H H0 S Q q =>
  wE_of (pe_join pe_w pe_w hs hbase hline) (h1.run B B0 σ H H0 S _ fun v1 H1 H01 n1 f1 => ⟨⟨tx [], f1⟩, h2.run B B0 σ H1 H01 (S.step n1) _ fun p2 o2 H2 H02 n2 hp ⟨vs, e2, f2⟩ => by
    subst e2
    have e := txs_all f2
    subst e
    refine ⟨tx [], p2, ts.map fun t => tx t.cs, f1, rfl, .inl ?_, ?_, ?_⟩
    · rw [List.map_map]; exact SqL.of hp
    · rw [List.map_map, tx_len]
      have : (ts.map (fun x => Str.length (tx x.cs))) = ts.map fun t => t.cs.length := by
        refine List.map_congr_left fun t _ => tx_len _
      show ((ts.map (fun x => Str.length (tx x.cs))).sum + _ * 0) ≤ _
      rw [this]; omega
    · rw [join_tx]
      exact q _ H2 H02 (n1.trans n2) rfl⟩)
/-- one statement, then what all its ends go on with -/
theorem go_joinF {ι : Type} {I : ι → Prop} {s1 : Stmt} (ρ' : ι → En) (k : ∀ i, I i → Go X B B0 (ρ' i) ω' rest D) (h : (∀ i, I i → Go X B B0 (ρ' i) ω' rest D) → Go X B B0 ρ ω (s1 :: rest) D) : Go X B B0 ρ ω (s1 :: rest) D := h k
/-- x = e, e raises -/
theorem G_asg_rz (nd : X.N.Nodup) (i : Nat) (h : Rz X W ρ ω e C) (tk : Takes X W) (k : ∀ B1, Up B B0 B1 → ∀ σ H H0, Sat B B1 ρ ω σ H H0 → ∀ H', Same H H' → W (.ref C) none σ H') (hi : X.N[i]? = some x := by rfl) (hx : Loc X.env.scope x := by first | exact Or.inl rfl | exact Or.inr rfl) (hf : X.fn x = true ∨ X.env.scope.names.lookup x = some .local := by first | exact Or.inl rfl | exact Or.inr rfl)
    (hs : swapsWithSole [.Name x p] e pos.line X.env = pure false := by exact sw_sole rfl) (hw : swappedStores [.Name x p] e X.env = pure none := by exact ss_name)
    (h1 : (assignEach [.Name x p] X.env).map (·.2) = [assign (.Name x p) X.env] := by exact ae_name) : Go X B B0 ρ ω (.Assign [.Name x p] e pos :: rest) D := go_asg_rz h tk k (pg_name nd hi hx hf) hs hw h1
end
end DF

namespace DF
open R (rp)
open Dt (toD)
open PySem L2
/-! ### 16. dicts by cells -/
def keyOf (c : Cell) : List Key := [Sum.inl c.1, Sum.inl c.2]
theorem keyOf_inj {a b : Cell} : keyOf a = keyOf b ↔ a = b := by
  unfold keyOf
  constructor
  · intro h
    simp only [List.cons.injEq, Sum.inl.injEq, and_true] at h
    exact Prod.ext h.1 h.2
  · intro h; rw [h]
def dput {β : Type} (kvs : List (Cell × β)) (c : Cell) (v : β) : List (Cell × β) :=
  if (kvs.any fun kv => decide (kv.1 = c)) = true then kvs.map (fun kv => if kv.1 = c then (kv.1, v) else kv) else kvs ++ [(c, v)]
def dval {β : Type} (kvs : List (Cell × β)) (c : Cell) : Option β := (kvs.find? fun kv => decide (kv.1 = c)).map (·.2)
def dhas {β : Type} (kvs : List (Cell × β)) (c : Cell) : Bool := kvs.any fun kv => decide (kv.1 = c)
abbrev DP (H : Hp) (vs : List (List Key × L2.V)) (kvs : List (Cell × MP)) : Prop := Paired (fun (x : List Key × L2.V) (y : Cell × MP) => x.1 = keyOf y.1 ∧ y.2.f H x.2) vs kvs
def dictM (kvs : List (Cell × MP)) : MO := ⟨fun H o => ∃ vs, o = .dT vs ∧ DP H vs kvs, fun s ⟨vs, h1, h2⟩ => ⟨vs, h1, Paired.mapP h2 fun _ y q => ⟨q.1, y.2.mono s q.2⟩⟩⟩
def dcO {β : Type} [R β] (kvs : List (Cell × β)) : MO := dictM (kvs.map fun kv => (kv.1, rp kv.2))
theorem DP.any {H : Hp} {c : Cell} : ∀ {vs : List (List Key × L2.V)} {kvs : List (Cell × MP)}, DP H vs kvs → (vs.any fun kv => decide (kv.1 = keyOf c)) = kvs.any fun kv => decide (kv.1 = c)
  | _, _, .nil => rfl
  | _, _, .cons r t => by
    simp only [List.any_cons, DP.any t, r.1, keyOf_inj]
theorem DP.repl {H : Hp} {c : Cell} {v : L2.V} {P : MP} (hv : P.f H v) : ∀ {vs : List (List Key × L2.V)} {kvs : List (Cell × MP)}, DP H vs kvs → DP H (vs.map fun kv => if kv.1 = keyOf c then (kv.1, v) else kv) (kvs.map fun kv => if kv.1 = c then (kv.1, P) else kv)
  | _, _, .nil => .nil
  | _, _, .cons (a := a) (b := b) r t => by
    refine .cons ?_ (DP.repl hv t)
    dsimp only
    by_cases hk : b.1 = c
    · rw [if_pos (by rw [r.1, hk]), if_pos hk]; exact ⟨r.1, hv⟩
    · rw [if_neg (by rw [r.1, keyOf_inj]; exact hk), if_neg hk]; exact r
theorem DP.put {H : Hp} {c : Cell} {v : L2.V} {P : MP} {vs : List (List Key × L2.V)} {kvs : List (Cell × MP)} (h : DP H vs kvs) (hv : P.f H v) : DP H (putK vs (keyOf c) v) (dput kvs c P) := by
  unfold putK dput
  rw [h.any]
  split
  · exact DP.repl hv h
  · exact Paired.app h (.cons ⟨rfl, hv⟩ .nil)
theorem DP.val {H : Hp} {c : Cell} : ∀ {vs : List (List Key × L2.V)} {kvs : List (Cell × MP)}, DP H vs kvs → (valV vs (keyOf c)).isSome = dhas kvs c ∧ ∀ P, dval kvs c = some P → ∃ v, valV vs (keyOf c) = some v ∧ P.f H v
  | _, _, .nil => ⟨rfl, fun P h => by simp [dval] at h⟩
  | _, _, .cons (a := a) (b := b) r t => by
    obtain ⟨i1, i2⟩ := DP.val (c := c) t
    by_cases hk : b.1 = c
    · have hk' : a.1 = keyOf c := by rw [r.1, hk]
      rw [valV_pos hk']
      refine ⟨by simp [dhas, hk], fun P h => ?_⟩
      simp only [dval, List.find?_cons, hk, decide_true, Option.map_some, Option.some.injEq] at h
      subst h
      exact ⟨_, rfl, r.2⟩
    · have hk' : ¬ a.1 = keyOf c := by rw [r.1, keyOf_inj]; exact hk
      rw [valV_neg hk']
      refine ⟨by rw [i1]; simp [dhas, hk], fun P h => i2 P ?_⟩
      simpa [dval, List.find?_cons, hk] using h
theorem dput_map {α β : Type} (f : α → β) (kvs : List (Cell × α)) (c : Cell) (v : α) : dput (kvs.map fun kv => (kv.1, f kv.2)) c (f v) = (dput kvs c v).map fun kv => (kv.1, f kv.2) := by
  unfold dput
  rw [List.any_map]
  have : ((fun kv : Cell × β => decide (kv.1 = c)) ∘ fun kv : Cell × α => (kv.1, f kv.2)) = fun kv : Cell × α => decide (kv.1 = c) := rfl
  rw [this]
  split
  · rw [List.map_map, List.map_map]
    refine List.map_congr_left fun kv _ => ?_
    simp only [Function.comp]
    split <;> rfl
  · rw [List.map_append]; rfl
theorem dhas_map {α β : Type} (f : α → β) (kvs : List (Cell × α)) (c : Cell) : dhas (kvs.map fun kv => (kv.1, f kv.2)) c = dhas kvs c := by
  unfold dhas
  rw [List.any_map]; rfl
theorem dval_map {α β : Type} (f : α → β) : ∀ (kvs : List (Cell × α)) (c : Cell), dval (kvs.map fun kv => (kv.1, f kv.2)) c = (dval kvs c).map f
  | [], _ => rfl
  | kv :: kvs, c => by
    have ih := dval_map f kvs c
    unfold dval at ih ⊢
    simp only [List.map_cons, List.find?_cons]
    by_cases h : kv.1 = c
    · simp [h]
    · simp only [h, decide_false]; exact ih
theorem key_tup {H : Hp} {v : L2.V} {c : Cell} (f : (rp c : MP).f H v) : ∃ b, v = .ref b ∧ H b = some (.tup ((keyOf c).map kV)) := by
  obtain ⟨b, vs, e, hb, f⟩ := f
  cases f with
  | cons a1 f =>
  cases f with
  | cons a2 f =>
  cases f
  have a1 : _ = L2.V.int c.1 := a1
  have a2 : _ = L2.V.int c.2 := a2
  subst a1; subst a2
  exact ⟨b, e, hb⟩
theorem psort_length (l : List Cell) : (psort l).length = l.length := (List.mergeSort_perm l _).length_eq
/-- sorted(d): the keys in a row -/
def rSortK : List L2.V → Hp → VK → Prop := fun us H Q => ∃ (a : Addr) (vs : List (List Key × L2.V)) (cs : List Cell), us = [.ref a] ∧ H a = some (.dT vs) ∧ vs.map (·.1) = cs.map keyOf ∧ cs.length ≤ 1000 ∧
  ∀ (bs : List Addr) (p : Addr), H p = none → Paired (fun (b : Addr) (c : Cell) => H b = some (.tup ((keyOf c).map kV))) bs (psort cs) → Q (.ref p) (upd H p (.lst (bs.map L2.V.ref)))
theorem keys_row {H : Hp} : ∀ {vs : List (List Key × L2.V)} {bs : List Addr} {cs : List Cell}, IsKeys H vs bs → vs.map (·.1) = cs.map keyOf → Paired (fun (b : Addr) (c : Cell) => H b = some (.tup ((keyOf c).map kV))) bs cs
  | _, _, [], h, e => by
    have e : _ = [] := List.map_eq_nil_iff.mp e
    subst e
    cases h
    exact .nil
  | [], _, c :: cs, h, e => by simp at e
  | v :: vs, _, c :: cs, h, e => by
    cases h with
    | cons h1 h2 =>
      simp only [List.map_cons, List.cons.injEq] at e
      refine .cons ?_ (keys_row h2 e.2)
      rw [← e.1]; exact h1
open PySem.Spec PyProof.Rows in
theorem cr_sortK {X : Cx} (hc : X.calm = true) (hu : X.A.units + 64 < cLine) : CallR X (.builtin "sorted") rSortK := by
  intro pins s σ H xs us Q I r h
  obtain ⟨a, vs, cs, rfl, hd, hks, hlen, q⟩ := h
  obtain ⟨u, rfl, rx⟩ := r.one
  cases rx
  obtain ⟨z, hs, ks, pr, o, es, ep, ho, hx, hdt, he, hn⟩ := (show ObjOk X.prog X.w H s.heap a (.dT vs) from I.hok a _ hd)
  have l1 : es.size = ks.length := size_of_entries he
  have l2 : vs.length = ks.length := Paired.length pr
  have l3 : vs.length = cs.length := by have := congrArg List.length hks; simpa using this
  have row := keys_row (isKeys_of pr) hks
  refine Calls.call_function_entry PyProof.Rows.kind_sorted PyProof.Rows.plain_sorted PyProof.Rows.entry_sorted (PyProof.Rows.args_sorted1 _) ?_
  unfold Builtin.«sorted»
  refine wpAny_bind (m := checkCount "sorted" 1 1 _) (wpAny_pure ?_)
  refine wpAny_bind (PySem.W.kdu_collect (A := X.A.in1) (kdl_raw hs hx hdt) (I.ok.hd hc) ho (by omega) fun h' tk acc hk hacc => ?_)
  have ea : acc.toList = (ks.map fun x => x.2.1).map Value.ref := by
    have hl : acc.toList.length = ks.length := by rw [Array.length_toList, hacc.1]; exact l1
    rw [List.map_map]
    apply List.ext_getElem?
    intro j
    rw [List.getElem?_map]
    by_cases hj : j < acc.toList.length
    · obtain ⟨en, hen, hv⟩ := hacc.2 j acc.toList[j] (by rw [← Array.getElem?_toList]; exact List.getElem?_eq_getElem hj)
      have qe := entry_at he j
      rw [hen, List.getElem?_eq_getElem (show j < ks.length by omega)] at qe
      have e2 : en = entryOfKey (tupleKind (mixKind X.prog X.w)) ks[j] := Option.some.inj qe
      rw [List.getElem?_eq_getElem hj, List.getElem?_eq_getElem (show j < ks.length by omega), hv, e2]
      rfl
    · rw [List.getElem?_eq_none (by omega), List.getElem?_eq_none (show ks.length ≤ j by omega)]; rfl
  have I1 : Inv X pins σ H { s with heap := h', toks := tk } := I.kept hk
  have hz : acc.toList.length ≤ sizeLine := by rw [ea, List.length_map, List.length_map]; omega
  refine wpAny_bind (wpAny_newList ?_ hz)
  have hoL : (h'.push (seqObj "list" acc.toList.toArray 0)).get? h'.objs.size = some (seqObj "list" acc.toList.toArray 0) := Heap.get?_push_size _ rfl
  show wpAny _ _ _ _ _ { s with heap := h'.push (seqObj "list" acc.toList.toArray 0), toks := tk }
  have each : ∀ {bs : List Addr} {ds : List Cell}, Paired (fun (b : Addr) (c : Cell) => H b = some (.tup ((keyOf c).map kV))) bs ds → PySem.W.EachIs (fun (v : Value) (c : Cell) => ∃ b : Addr, v = .ref b ∧ H b = some (.tup ((keyOf c).map kV))) (bs.map Value.ref) ds := by
    intro bs ds h
    induction h with
    | nil => exact .nil
    | cons r t ih => exact .cons ⟨_, rfl, r⟩ ih
  have e1 := each row
  rw [← ea] at e1
  have e3 : PySem.W.EachIs (fun (v : Value) (c : Cell) => ∃ as, Reads (h'.push (seqObj "list" acc.toList.toArray 0)) v (toD c) as ∧ h'.objs.size ∉ as) acc.toList cs := e1.mono fun v c ⟨b, ev, hb⟩ => by
    subst ev
    obtain ⟨_, its, rv, ob, g1, g2, n, g3⟩ := (show ObjOk X.prog X.w H h' b (.tup ((keyOf c).map kV)) from I1.hok b _ hb)
    obtain ⟨u1, u2, rfl, r1, r2⟩ := vals2 rv
    obtain ⟨t1, rfl⟩ := r1
    obtain ⟨t2, rfl⟩ := r2
    exact ⟨[] ++ ([] ++ []), Reads.tuple (Heap.get?_push_of_some _ g1) g2 g3 (ReadsAll.cons (Reads.int _ _) (ReadsAll.cons (Reads.int _ _) ReadsAll.nil)), by simp⟩
  have hal : PySem.W.AllAlike (cs.map fun y => toD y) := PySem.W.AllAlike.of fun b b' => by
    rw [← Od.same b, ← Od.same b']; exact Od.od.alike b b'
  have hk2 : PySem.W.Sortable (cs.map fun y => toD y) := PySem.W.Sortable.tuples fun c => ⟨.int c.1, [.int c.2], rfl⟩
  have hun : X.A.in1.units = X.A.units + 1 := rfl
  refine wpAny_bind (wpAny_holding (PySem.W.list_sort_data (s := { s with heap := h'.push (seqObj "list" acc.toList.toArray 0), toks := tk }) hoL e1 e3 hal hk2 (by omega) (fun b _ => by have := Dt.hdep b; have hdd : Dt.dep Cell = 1 := rfl; omega) fun out ho2 eo => ?_))
  obtain ⟨e', he'⟩ := PyProof.Rows.sortedHeap_at (vs := acc.toList) (out := out.toArray) hoL
  have hsort : cs.mergeSort (PySem.W.dataLe false fun y => toD y) = psort cs := by
    unfold psort
    congr 1
    funext p q
    rw [PySem.W.dataLe_eq]
    show (!PySem.W.dataLt (toD q) (toD p)) = _
    congr 1
    rw [← Od.same p, ← Od.same q, ← Od.lts]
    exact Od.od.lt_eq q p
  rw [hsort] at eo
  obtain ⟨bs, eb, hp⟩ : ∃ bs : List Addr, out = bs.map Value.ref ∧ Paired (fun (b : Addr) (c : Cell) => H b = some (.tup ((keyOf c).map kV))) bs (psort cs) := by
    generalize psort cs = ds at eo
    clear ho2 he' e'
    induction eo with
    | nil => exact ⟨[], rfl, .nil⟩
    | cons r t ih =>
      obtain ⟨bs, rfl, h2⟩ := ih
      obtain ⟨b, rfl, hb⟩ := r
      exact ⟨b :: bs, rfl, .cons hb h2⟩
  subst eb
  have hzl : (bs.map L2.V.ref).length ≤ sizeLine := by rw [List.length_map, Paired.length hp, psort_length]; omega
  refine wpAny_pure ⟨_, rfl, .ref h'.objs.size, upd H h'.objs.size (.lst (bs.map L2.V.ref)), I1.laid (t' := tk) (fun b u e => ?_) (Nat.le_refl _)
    (show ObjOk X.prog X.w _ _ _ (.lst (bs.map L2.V.ref)) from ⟨hzl, bs.map Value.ref, e', vals_refs bs, he'⟩), rfl, q bs _ (I1.hok.fresh (Nat.le_refl _)) hp⟩
  have hb : b < h'.objs.size := Heap.lt_size e
  rw [PyProof.Rows.sortedHeap_old (Nat.ne_of_lt hb) (by rw [Heap.size_push]; exact Nat.lt_succ_of_lt hb)]
  exact Heap.get?_push_of_some _ e
section
variable {X : Cx} {B B0 : Hp} {ρ ρ' : En} {ω ω' : Ow} {e a b c o tg iter : Expr} {es : List Expr} {P P1 P2 : MP} {φ ψ : MO} {pos p p2 apos : Pos} {x y : Str} {rest body orelse : List Stmt} {D : Ends} {st : Stmt} {Ps Ps' : List MP} {α β ι : Type} {k : Nat} {C : Addr} {W : WX}
theorem evn_dnew [R β] : EvN X ρ ω (.Dict [] [] pos) (dcO ([] : List (Cell × β))) := .mk fun B B0 σ H H0 S Q q =>
  wE_of pe_dnewT (fun p hp => q p _ _ H0 (Nx.fresh S.sub hp) hp (S.sub.free hp) upd_same ⟨[], rfl, .nil⟩)
/-- d[k] -/
theorem ev_dget [R β] {kvs : List (Cell × β)} {cc : Cell} {v : β} (hu : X.A.units + 64 < cLine) (h1 : EvC X ρ ω o (dcO kvs)) (h2 : Ev X ρ ω e (rp cc)) (hv : dval kvs cc = some v) (hs : NoSl e := by exact fun _ _ => rfl) : Ev X ρ ω (.Subscript o e pos) (rp v) := .mk fun B B0 σ H H0 S Q q =>
  wE_of (pe_dget (by omega) pe_w pe_w hs) (h1.run B B0 σ H H0 S _ fun p ob H1 H01 n1 hp f1 => h2.run B B0 σ H1 H01 (S.step n1) _ fun w H2 H02 n2 f2 => by
    obtain ⟨vs, e1, g1⟩ := (dcO kvs).mono n2.b f1
    subst e1
    obtain ⟨b, e2, hb⟩ := key_tup f2
    subst e2
    obtain ⟨z, h3, h4⟩ := (DP.val g1).2 (rp v) (by rw [dval_map, hv]; rfl)
    have g := DGet.t (n2.a _ _ hp) (n2.c _ _ hb)
    rw [h3] at g
    exact ⟨p, z, rfl, g, q z H2 H02 (n1.trans n2) h4⟩)
theorem et_din [R β] {kvs : List (Cell × β)} {cc : Cell} (hu : X.A.units + 64 < cLine) (h1 : Ev X ρ ω e (rp cc)) (h2 : EvC X ρ ω o (dcO kvs)) (hm : behindInMarks .In o = false := by exact bm_plain rfl) : EvT X ρ ω (.Compare e [.In] [o] pos) (dhas kvs cc) := .mk fun B B0 σ H H0 S Q q =>
  wT_of (pt_cmp (pc_din (by omega) pe_w pe_w) hm) (h1.run B B0 σ H H0 S _ fun w H1 H01 n1 f1 => h2.run B B0 σ H1 H01 (S.step n1) _ fun p ob H2 H02 n2 hp f2 => by
    obtain ⟨vs, e1, g2⟩ := f2
    subst e1
    obtain ⟨b, e2, hb⟩ := key_tup ((rp cc : MP).mono n2.b f1)
    subst e2
    refine ⟨p, _, rfl, DGet.t hp (n2.c _ _ hb), _, rfl, ?_⟩
    rw [(DP.val g2).1, dhas_map]
    exact q H2 H02 (n1.trans n2))
theorem et_dni [R β] {kvs : List (Cell × β)} {cc : Cell} (hu : X.A.units + 64 < cLine) (h1 : Ev X ρ ω e (rp cc)) (h2 : EvC X ρ ω o (dcO kvs)) (hm : behindInMarks .NotIn o = false := by exact bm_plain rfl) : EvT X ρ ω (.Compare e [.NotIn] [o] pos) (!dhas kvs cc) := .mk fun B B0 σ H H0 S Q q =>
  wT_of (pt_cmp (pc_dnotin (by omega) pe_w pe_w) hm) (h1.run B B0 σ H H0 S _ fun w H1 H01 n1 f1 => h2.run B B0 σ H1 H01 (S.step n1) _ fun p ob H2 H02 n2 hp f2 => by
    obtain ⟨vs, e1, g2⟩ := f2
    subst e1
    obtain ⟨b, e2, hb⟩ := key_tup ((rp cc : MP).mono n2.b f1)
    subst e2
    refine ⟨p, _, rfl, DGet.t hp (n2.c _ _ hb), _, rfl, ?_⟩
    rw [(DP.val g2).1, dhas_map]
    exact q H2 H02 (n1.trans n2))
theorem dput_len {β : Type} {kvs : List (Cell × β)} {c : Cell} {v : β} : (dput kvs c v).length ≤ kvs.length + 1 := by
  unfold dput
  split
  · rw [List.length_map]; omega
  · rw [List.length_append]; simp
/-- d[k] = v, d a dict of ours -/
theorem go_dput [R β] {kvs : List (Cell × β)} {cc : Cell} {v : β} {q : Addr} {pos' : Pos} (hu : X.A.units + 64 < cLine) (j : Nat) (ho : Ev X ρ ω o (atM q)) (hw : ω[j]? = some (q, dcO kvs)) (h1 : Ev X ρ ω e (rp cc)) (h2 : Ev X ρ ω a (rp v)) (hl : kvs.length < 1000000) (k : Go X B B0 ρ (ω.set j (q, dcO (dput kvs cc v))) rest D)
    (hs : swapsWith a (some (.Subscript o e pos')) pos.line X.env = pure false := by exact sw_any rfl) : Go X B B0 ρ ω (.Assign [.Subscript o e pos'] a pos :: rest) D :=
  go_st (ps_dput (by omega) pe_w pe_w pe_w hs) fun B1 u σ H H0 S => h2.run B B1 σ H H0 S _ fun w H1 H01 n1 f1 => ho.run B B1 σ H1 H01 (S.step n1) _ fun z H2 H02 n2 f2 => h1.run B B1 σ H2 H02 ((S.step n1).step n2) _ fun y H3 H03 n3 f3 => by
    have f2 : z = .ref q := f2
    subst f2
    have S3 := ((S.step n1).step n2).step n3
    obtain ⟨hB, h0, ob, hq, vs, e1, g⟩ := S3.ow q _ (List.mem_of_getElem? hw)
    subst e1
    obtain ⟨b, e2, hb⟩ := key_tup f3
    subst e2
    have hlen := Paired.length g
    refine ⟨q, _, rfl, DPut.t hq (n3.c _ _ hb) (Nat.lt_of_lt_of_le (by rw [hlen, List.length_map]; exact hl) (by decide)), ?_⟩
    · refine k.run B1 u σ _ H03 (S3.put hw ⟨_, rfl, ?_⟩)
      rw [← dput_map]
      exact DP.put g ((rp v : MP).mono (n2.b.trans n3.b) f1)
/-- len(d) -/
theorem ev_dlen [R β] {kvs : List (Cell × β)} (Bb : Bl X.mg) (hg : Gl X "len") (h : EvC X ρ ω e (dcO kvs)) (he : starEach [e] X.env = [(false, eval e X.env)] := by exact se_one rfl) : Ev X ρ ω (.Call (.Name "len" p) [e] [] pos) (rp (kvs.length : Int)) :=
  g_cb1 call_len_dT hg (Bb _ (by decide +kernel)) PySem.boot_len h.evg (by decide +kernel) (by decide +kernel) he fun v H H0 s ⟨q, o, e1, hp, vs, e2, f⟩ Q k => by
    subst e2
    have hl := Paired.length f
    exact ⟨q, vs, by rw [e1], hp, by rw [hl, List.length_map]; exact k _ H H0 (Nx.refl s) rfl⟩
theorem DP.keys {H : Hp} : ∀ {vs : List (List Key × L2.V)} {kvs : List (Cell × MP)}, DP H vs kvs → vs.map (·.1) = (kvs.map (·.1)).map keyOf
  | _, _, .nil => rfl
  | _, _, .cons r t => by simp only [List.map_cons, r.1, DP.keys t]
theorem tups_all {H H0 : Hp} (tp : Tp H H0) : ∀ {bs : List Addr} {cs : List Cell}, Paired (fun (b : Addr) (c : Cell) => H b = some (.tup ((keyOf c).map kV))) bs cs → All2 H0 (bs.map L2.V.ref) (cs.map rp)
  | _, _, .nil => .nil
  | _, _, .cons r t => .cons ⟨_, _, rfl, tp _ _ r, .cons rfl (.cons rfl .nil)⟩ (tups_all tp t)
/-- sorted(d), d a dict by cells -/
theorem evn_sortK [R β] {kvs : List (Cell × β)} (Bb : Bl X.mg) (hc : X.calm = true) (hu : X.A.units + 64 < cLine) (hg : Gl X "sorted") (h : EvC X ρ ω e (dcO kvs)) (hl : kvs.length ≤ 1000) (he : starEach [e] X.env = [(false, eval e X.env)] := by exact se_one rfl) : EvN X ρ ω (.Call (.Name "sorted" p) [e] [] pos) (lsO (psort (kvs.map (·.1)))) := .mk fun B B0 σ H H0 S Q q =>
  wE_of (pe_callB (cr_sortK hc hu) hg (Bb _ (by decide +kernel)) (by decide +kernel) (pa_cons pe_w pa_nil (by rw [he]; rfl)) (by decide +kernel) (by decide +kernel) (by rw [he]; rfl) (by rfl)) (h.run B B0 σ H H0 S _ fun d o H1 H01 n1 hp ⟨vs, e1, f⟩ => by
    subst e1
    have tp := (S.step n1).tp
    refine ⟨d, vs, kvs.map (·.1), rfl, hp, ?_, by rw [List.length_map]; exact hl, fun bs l hf hb => ?_⟩
    · rw [DP.keys f, List.map_map, List.map_map, List.map_map]; rfl
    · exact q l _ _ H01 (n1.trans (Nx.fresh n1.c hf)) (n1.a.free hf) (n1.c.free hf) upd_same ⟨_, rfl, tups_all tp hb⟩)
end
end DF

namespace DF
open R (rp)
open Dt (toD)
open PySem L2
open PySem.Spec PyProof.Rows
/-! ### 17. try: several clauses 'except x as n', one name n -/
/-- what the clauses wish of the body's error, one after the other; slot i is n's -/
def wishes (K : PySem.W.Frag) (i : Nat) (Wout : WX) (D : Ends) : List (Value × (Addr → Value → Option Addr → TS)) → WX
  | [] => Wout
  | (c, ts) :: r => fun cls d σ H => ∃ b, PySem.W.exmOne K cls c = some b ∧
      (b = true → ∀ a, H a = none → ts a cls d { nx := fun σ' H' => D.nx (σ'.set i none) H', rt := D.rt, bk := fun σ' H' => D.bk (σ'.set i none) H', ct := fun σ' H' => D.ct (σ'.set i none) H' } (σ.set i (some (.ref a))) H) ∧
      (b = false → wishes K i Wout D r cls d σ H)
inductive Clauses (X : Cx) (n : Str) : List ExceptHandler → List (Value × (Addr → Value → Option Addr → TS)) → Prop
  | nil : Clauses X n [] []
  | cons {x : Str} {c : Value} {ts : Addr → Value → Option Addr → TS} {b₀ : Stmt} {suite : List Stmt} {np pos' : Pos} {hds : List ExceptHandler} {l : List (Value × (Addr → Value → Option Addr → TS))} (hc : Names X x c)
      (hsu : ∀ (a : Addr) (oe : Obj) (cls : Value) (d : Option Addr) (pn : List (Addr × Obj)), Zc cls d oe → (∃ vs, oe.data = .fields vs) → PSs (X.suite a ((a, oe) :: pn)) (b₀ :: suite) (ts a cls d)) (r : Clauses X n hds l) :
      Clauses X n (.ExceptHandler (some (.Name x np)) (some n) (b₀ :: suite) pos' :: hds) ((c, ts) :: l)
theorem ps_try_all {X : Cx} {n : Str} {i : Nat} {body : List Stmt} {h₀ : ExceptHandler} {hds : List ExceptHandler} {l : List (Value × (Addr → Value → Option Addr → TS))} {pos : Pos} {tb : WX → TS} {Wout : WX}
    (hs : X.stack = X.env :: X.outer) (hf : X.env.frame = some X.env.locals) (hN : X.N.Nodup) (hi : X.N[i]? = some n) (hln : X.env.kindOf n = some .local) (tk : Takes X Wout)
    (hb : ∀ (W : WX) (pn : List (Addr × Obj)) (xe : Value → Shared → Prop), Takes (X.tr pn xe) W → PassesOwn (model X.prog X.w) X.A X.env xe → PSs (X.tr pn xe) body (tb W))
    (hh : Clauses X n (h₀ :: hds) l) : PS X (.Try body (h₀ :: hds) [] [] pos) (fun D σ H => tb (wishes X.K i Wout D l) D σ H) := by
  refine ⟨fun pins s σ H D I h => ?_⟩
  have ok := I.ok
  have hfr : X.A.frames = some (X.env :: X.outer) := by rw [ok.frames, hs]
  have hloc : Loc X.env.scope n := .inl hln
  refine wpAny_Try_except ?_
  have run := (hb (wishes X.K i Wout D l) (X.pn ++ pins) (fun e s₁ => wpAny (model X.prog X.w) X.A (noteFrame e X.env) (fun _ s₂ => wpAny (model X.prog X.w) X.A (setFlight e none) (fun _ s₃ =>
    wpAny (model X.prog X.w) X.A (handleBy e X.env (h₀ :: hds)) (SP X pins D) X.xe s₃) X.xe s₂) X.xe s₁) (fun u s' xx => ?_) PassesOwn.looking).run [] s σ H D (I.toTry _) h
  · refine wpAny_mono run (fun f t ht => ?_) (fun _ _ he => he)
    match f, ht with
    | .next, ⟨σ', H', J, q⟩ => exact wpAny_execs_nil ⟨σ', H', J.ofTry ok, q⟩
    | .brk, ⟨σ', H', J, q⟩ => exact ⟨σ', H', J.ofTry ok, q⟩
    | .cont, ⟨σ', H', J, q⟩ => exact ⟨σ', H', J.ofTry ok, q⟩
    | .ret u, ⟨v, σ', H', J, r, q⟩ => exact ⟨v, σ', H', J.ofTry ok, r, q⟩
  · obtain ⟨a, G, sI, pins', σ', H', cls, d, rfl, J', nb, up, sky, na, os, ag, w⟩ := xx
    have J : Inv X pins σ' H' sI := J'.ofTry ok
    rw [hs] at sky
    show wpAny (model X.prog X.w) X.A (noteFrame (.ref a) X.env) _ _ _
    refine Sky.land Zc.steady hfr hf sky fun h3 fl3 up3 => ?_
    obtain ⟨oe3, vs3, he3, hz3, hd3⟩ := fl3.there
    have J3 : Inv X pins σ' H' { s' with heap := h3 } := J.landed nb fl3.1 (up.trans up3) os ag
    have nfr : a ∉ frs (X.env :: X.outer) := fun hm => by
      obtain ⟨_, o', e', hnf⟩ := fl3.2.2.1.mem hm
      rw [he3] at e'
      cases e'
      exact hnf _ hd3
    have nL : a ≠ X.env.locals := fun z => nfr (List.mem_filterMap.mpr ⟨X.env, List.mem_cons_self, by rw [hf, z]⟩)
    have nF : a ∉ X.fs := fun hm => by
      obtain ⟨e, he, q⟩ := List.mem_filterMap.mp hm
      exact nfr (List.mem_filterMap.mpr ⟨e, List.mem_cons_of_mem _ he, q⟩)
    have S3 := J3.suite he3 hd3 na nL nF
    have LT : PySem.W.Looks (model X.prog X.w) h3 (typeOf (.ref a)) cls := fun A Q E s k q => wpAny_typeOf_ref (k _ _ he3) (by rw [hz3.1]; exact q)
    have each : ∀ {hds' : List ExceptHandler} {l' : List (Value × (Addr → Value → Option Addr → TS))}, Clauses X n hds' l' → wishes X.K i Wout D l' cls d σ' H' →
        wpAny (model X.prog X.w) X.A (handleBy (.ref a) X.env hds') (SP X pins D) X.xe { s' with heap := h3 } := by
      intro hds' l' hk
      induction hk with
      | nil =>
        intro w
        refine wpAny_handleBy_nil ?_
        obtain ⟨k1, k2, k3, oe, vs, T, oT, ts', he, hz, hd, h1, hr⟩ := id fl3
        unfold PySem.passOn
        refine wpAny_bind (wpAny_field he hd h1 ?_)
        rw [if_neg (show ¬ ((Value.ref T == Value.none) = true) from by simp)]
        have fin : wpAny (model X.prog X.w) X.A (setFlight (.ref a) X.env.frame) (fun _ s4 => wpAny (model X.prog X.w) X.A (throw (.ref a) : Sem Flow) (SP X pins D) X.xe s4) X.xe { s' with heap := h3 } := by
          rw [hf]
          refine HandSPX.setFlight_upZ fl3 fun h4 hh4 up4 => wpAny_throw (tk _ _ ?_)
          exact ⟨a, G, sI, pins, σ', H', cls, d, rfl, J, nb, (up.trans up3).trans up4, .inr (.inr (by rw [hs]; exact hh4)), na, os, ag, w⟩
        first
          | exact wpAny_bind (wpAny_pure (wpAny_bind fin))
          | exact wpAny_bind fin
      | @cons x c ts b₀ suite np pos' hds2 l2 hc hsu r ih =>
        intro w
        obtain ⟨b, hb1, hyes, hno⟩ := w
        refine wpAny_handleBy_cons (codeAny_handlers_test ?_) (by intro q; cases q)
        have LM := PySem.W.exm_one (M := model X.prog X.w) (J3.kIn) LT hb1
        have test : ∀ {Q : Value → Shared → Prop} {E : Value → Shared → Prop}, Q c { s' with heap := h3 } → wpAny (model X.prog X.w) (X.A.mark (some (.ref a))) (eval (.Name x np) X.env) Q E { s' with heap := h3 } := fun {Q E} q => by
          obtain ⟨hg, hdbg, hm | ⟨hm, hv, hnn⟩⟩ := hc
          · exact ld_glob (X := X.suite a ((a, oe3) :: (X.pn ++ pins))) S3 hg hm q hdbg
          · exact ld_blt (X := X.suite a ((a, oe3) :: (X.pn ++ pins))) S3 hg hm hv q hnn hdbg
        refine test (LM.here ?_)
        match b, hyes, hno with
        | false, _, hno => exact ih (hno rfl)
        | true, hyes, _ =>
          refine codeAny_handlers_suite_as ?_
          refine HandSPX.lands_againZ fl3 fun h4 fl4 up4 => ?_
          have J4 : Inv X pins σ' H' { s' with heap := h4 } := J.landed nb fl4.1 ((up.trans up3).trans up4) os ag
          obtain ⟨oe4, vs4, he4, hz4, hd4⟩ := fl4.there
          have S4 := J4.suite he4 hd4 na nL nF
          refine store_ok (X := X.suite a ((a, oe4) :: (X.pn ++ pins))) (v := .ref a) S4 hN hi hloc rfl (fun s5 S5 => ?_) (.inr hln)
          refine wpAny_mono ((hsu a oe4 cls d (X.pn ++ pins) hz4 ⟨_, hd4⟩).run [] s5 _ H' _ S5 (hyes rfl a na)) (fun f s6 hsp => ?_) (fun _ _ z => False.elim z)
          have leave : ∀ {σ6 : L2.St} {H6 : Hp} {Q : Shared → Prop}, Inv (X.suite a ((a, oe4) :: (X.pn ++ pins))) [] σ6 H6 s6 → (∀ s7, Inv X pins (σ6.set i none) H6 s7 → Q s7) →
              wpAny (model X.prog X.w) X.A (do bindName X.env n .none; unbindBehindTheSuite X.env n pos') (fun _ s7 => Q s7) X.xe s6 := fun {σ6 H6 Q} S6 hq => gone_ok (S6.unsuite ok) hN hi hln hq
          match f, hsp with
          | .next, ⟨_, _, S6, q6⟩ => exact leave S6 fun s7 J7 => ⟨_, _, J7, q6⟩
          | .brk, ⟨_, _, S6, q6⟩ => exact leave S6 fun s7 J7 => ⟨_, _, J7, q6⟩
          | .cont, ⟨_, _, S6, q6⟩ => exact leave S6 fun s7 J7 => ⟨_, _, J7, q6⟩
          | .ret u, ⟨_, _, _, S6, r6, q6⟩ => exact leave S6 fun s7 J7 => ⟨_, _, _, J7, r6, q6⟩
    exact each hh w
section
variable {X : Cx} {B B0 : Hp} {ρ ρ' : En} {ω ω' : Ow} {e a b c o tg iter : Expr} {es : List Expr} {P P1 P2 : MP} {φ ψ : MO} {pos p p2 apos : Pos} {x y : Str} {rest body orelse : List Stmt} {D : Ends} {st : Stmt} {Ps Ps' : List MP} {α β ι : Type} {k : Nat} {C : Addr} {W : WX}
/-- the clauses take the errors of the classes Cs -/
inductive GoCl (X : Cx) (B B0 : Hp) (ρ : En) (ω : Ow) (i : Nat) (n : Str) (D : Ends) : (Addr → Prop) → List ExceptHandler → Prop
  | nil {Cs : Addr → Prop} (h : ∀ C, ¬ Cs C) : GoCl X B B0 ρ ω i n D Cs []
  | cons {Cs : Addr → Prop} {x : Str} {cv : Value} {b₀ : Stmt} {suite : List Stmt} {np pos' : Pos} {hds : List ExceptHandler} (m : Addr → Bool) (hc : Names X x cv) (hm : ∀ C, Cs C → PySem.W.exmOne X.K (.ref C) cv = some (m C))
      (hsuite : ∀ C, Cs C → m C = true → ∀ (ad : Addr) (oe : Obj) (pn : List (Addr × Obj)), Err1 C oe → Go (X.suite ad ((ad, oe) :: pn)) B B0 (ρ.set i (some (atM ad))) ω (b₀ :: suite) D)
      (r : GoCl X B B0 ρ ω i n D (fun C => Cs C ∧ m C = false) hds) : GoCl X B B0 ρ ω i n D Cs (.ExceptHandler (some (.Name x np)) (some n) (b₀ :: suite) pos' :: hds)
theorem GoCl.all {i : Nat} {n : Str} {Wout : WX} {Cs : Addr → Prop} {hds : List ExceptHandler} (h : GoCl X B B0 ρ ω i n { nx := fun σ' H' => D.nx (σ'.set i none) H', rt := D.rt, bk := fun σ' H' => D.bk (σ'.set i none) H', ct := fun σ' H' => D.ct (σ'.set i none) H' } Cs hds) :
    ∃ l : List (Value × (Addr → Value → Option Addr → TS)), Clauses X n hds l ∧ Caught B B0 ρ ω Cs (wishes X.K i Wout D l) := by
  induction h with
  | nil h => exact ⟨[], .nil, fun C hC => absurd hC (h C)⟩
  | @cons Cs x cv b₀ suite np pos' hds m hc hm hsuite r ih =>
    obtain ⟨l, q1, q2⟩ := ih
    refine ⟨(cv, fun ad cls d D σ H => ∀ oe pn, Zc cls d oe → (∃ vs, oe.data = .fields vs) → wB (X.suite ad ((ad, oe) :: pn)) (b₀ :: suite) D σ H) :: l, .cons hc (fun ad oe cls d pn hz hd => ⟨fun pins s σ H D I h => h oe pn hz hd pins s I⟩) q1, fun C hC B1 u σ H H0 S H' s' => ?_⟩
    refine ⟨m C, hm C hC, fun hmC ad had oe pn hz hd => ?_, fun hmC => q2 C ⟨hC, hmC⟩ B1 u σ H H0 S H' s'⟩
    exact (hsuite C hC hmC ad oe pn ⟨hz, hd⟩).run B1 u _ H' (addT H H' H0) ((S.step (nx_addT S.sub s')).set i rfl)
theorem go_tryAll {n : Str} {Cs : Addr → Prop} {h₀ : ExceptHandler} {hds : List ExceptHandler} {Wout : WX} (nd : X.N.Nodup) (i : Nat) (hs : X.stack = X.env :: X.outer) (hf : X.env.frame = some X.env.locals) (tk : Takes X Wout)
    (cl : GoCl X B B0 ρ ω i n { nx := fun σ' H' => wB X rest D (σ'.set i none) H', rt := D.rt, bk := fun σ' H' => D.bk (σ'.set i none) H', ct := fun σ' H' => D.ct (σ'.set i none) H' } Cs (h₀ :: hds))
    (hbody : ∀ (W : WX) (pn : List (Addr × Obj)) (xe : Value → Shared → Prop), Takes (X.tr pn xe) W → PassesOwn (model X.prog X.w) X.A X.env xe → Caught B B0 ρ ω Cs W → Go (X.tr pn xe) B B0 ρ ω body { nx := wB X rest D, rt := D.rt, bk := D.bk, ct := D.ct })
    (hi : X.N[i]? = some n := by rfl) (hln : X.env.kindOf n = some .local := by rfl) : Go X B B0 ρ ω (.Try body (h₀ :: hds) [] [] pos :: rest) D := by
  obtain ⟨l, q1, q2⟩ := GoCl.all (Wout := Wout) (D := { nx := wB X rest D, rt := D.rt, bk := D.bk, ct := D.ct }) cl
  exact go_st (ps_try_all (tb := fun W D σ H => ∀ pn xe, Takes (X.tr pn xe) W → PassesOwn (model X.prog X.w) X.A X.env xe → wB (X.tr pn xe) body D σ H) hs hf nd hi hln tk
      (fun W pn xe tk po => ⟨fun pins s σ H D I h => h pn xe tk po pins s I⟩) q1) fun B1 u σ H H0 S => fun pn xe tk' po => (hbody _ pn xe tk' po q2).run B1 u σ H H0 S
end
end DF

namespace DF
open R (rp)
open Dt (toD)
open PySem L2
/-! ### 18. games -/
/-- what isinstance asks of an own class -/
structure ClsY (K : PySem.W.Frag) (C : Addr) : Prop where
  ha : PySem.W.findIn K (.ref C) "__class__" = some (some (.builtin "object.__class__"))
  hn : PySem.W.specialIn K (.builtin "object.__class__") "__get__" = some (some (.builtin "getset_descriptor.__get__"))
  ht : PySem.W.takesIn K (.builtin "object.__class__") = some true
  hm : PySem.W.mroIn K C (.type "object") = some true
  is : PySem.W.isClsIn K C = true
  ty : PySem.W.typeIn K (.ref C) = some (.type "type")
structure GM where
  C : Addr
  (h w : Int)
  stones : List Cell
  known : List (Cell × Bool)
  lost : Bool
abbrev gameF (stones known : MP) (h w : Int) (lost : Bool) : List (Str × MP) := [("height", rp h), ("width", rp w), ("stones", stones), ("known", known), ("lost", rp lost)]
def gameO (g : GM) : MO := insM g.C (gameF (rp g.stones) (obM (dcO g.known)) g.h g.w g.lost)
instance : R GM := ⟨fun g => obM (gameO g)⟩
section
variable {X : Cx} {B B0 : Hp} {ρ ρ' : En} {ω ω' : Ow} {e a b c o tg iter : Expr} {es : List Expr} {P P1 P2 : MP} {φ ψ : MO} {pos p p2 apos : Pos} {x y : Str} {rest body orelse : List Stmt} {D : Ends} {st : Stmt} {Ps Ps' : List MP} {α β ι : Type} {k : Nat} {C : Addr} {W : WX}
theorem glook {x : Str} {P P2 : MP} {h w : Int} {l : Bool} (hx : (x == ("height" : Str)) = false ∧ (x == ("width" : Str)) = false ∧ (x == ("stones" : Str)) = false ∧ (x == ("known" : Str)) = false ∧ (x == ("lost" : Str)) = false) : (gameF P P2 h w l).lookup x = none := by
  obtain ⟨h1, h2, h3, h4, h5⟩ := hx
  simp only [gameF, List.lookup_cons, h1, h2, h3, h4, h5, List.lookup_nil]
theorem gl_h {P P2 : MP} {h w : Int} {l : Bool} : (gameF P P2 h w l).lookup ("height" : Str) = some (rp h) := by simp only [gameF, List.lookup_cons, beq_self_eq_true]
theorem gl_w {P P2 : MP} {h w : Int} {l : Bool} : (gameF P P2 h w l).lookup ("width" : Str) = some (rp w) := by
  have h1 : (("width" : Str) == ("height" : Str)) = false := by decide +kernel
  simp only [gameF, List.lookup_cons, beq_self_eq_true, h1]
theorem gl_s {P P2 : MP} {h w : Int} {l : Bool} : (gameF P P2 h w l).lookup ("stones" : Str) = some P := by
  have h1 : (("stones" : Str) == ("height" : Str)) = false := by decide +kernel
  have h2 : (("stones" : Str) == ("width" : Str)) = false := by decide +kernel
  simp only [gameF, List.lookup_cons, beq_self_eq_true, h1, h2]
theorem gl_k {P P2 : MP} {h w : Int} {l : Bool} : (gameF P P2 h w l).lookup ("known" : Str) = some P2 := by
  have h1 : (("known" : Str) == ("height" : Str)) = false := by decide +kernel
  have h2 : (("known" : Str) == ("width" : Str)) = false := by decide +kernel
  have h3 : (("known" : Str) == ("stones" : Str)) = false := by decide +kernel
  simp only [gameF, List.lookup_cons, beq_self_eq_true, h1, h2, h3]
theorem gl_l {P P2 : MP} {h w : Int} {l : Bool} : (gameF P P2 h w l).lookup ("lost" : Str) = some (rp l) := by
  have h1 : (("lost" : Str) == ("height" : Str)) = false := by decide +kernel
  have h2 : (("lost" : Str) == ("width" : Str)) = false := by decide +kernel
  have h3 : (("lost" : Str) == ("stones" : Str)) = false := by decide +kernel
  have h4 : (("lost" : Str) == ("known" : Str)) = false := by decide +kernel
  simp only [gameF, List.lookup_cons, beq_self_eq_true, h1, h2, h3, h4]
theorem ev_meth0 {m : Pm ι} {fl : List (Str × MP)} (G : CalM X.prog X.w X.K X.mg X.base C x k (spOf m)) (i : ι) (hr : Room k X.A) (h : Ev X ρ ω o (obM (insM C fl))) (hl : fl.lookup x = none) (hi : m.args i = [obM (insM C fl)]) (hp : m.pre i) (j : ∀ H H0 Q, GoodV P H H0 Q → m.ret i H H0 Q E0) {pl : Sem Bool}
    (ht : eval (.Call (.Attribute o x apos) [] [] pos) X.env = (do
      let ov ← eval o X.env
      standAt apos.atName
      let (f, first) ← holding [ov] (getMethod ov x pl)
      callWith pos f first (backTo pos (starEach [] X.env)) (backToKw pos (keywordEach [] X.env))) := by exact ev_attr rfl rfl (by decide) rfl) : Ev X ρ ω (.Call (.Attribute o x apos) [] [] pos) P := .mk fun B B0 σ H H0 S Q q => by
  obtain ⟨f, fd, ps, F, hm, hb⟩ := G.ex
  refine wE_of (pe_meth0 pe_w G.cl hm F hr hb .nil passL ht) (h.run B B0 σ H H0 S _ fun v H1 H01 n1 f0 => ?_)
  obtain ⟨r, ob, rfl, hr0, dx, vs, rfl, hlen, fs⟩ := id f0
  exact ⟨r, dx, vs, rfl, n1.c _ _ hr0, (look_ins fs).2 hl, i, H01, ⟨n1.c, (S.step n1).tp⟩, by rw [hi]; exact .cons f0 .nil, hp, j H1 H01 Q (GoodV.step n1 q)⟩
variable (g : GM)
theorem go_ {g : GM} (h : Ev X ρ ω e (rp g)) : EvC X ρ ω e (insM g.C (gameF (rp g.stones) (obM (dcO g.known)) g.h g.w g.lost)) := Ev.evc h
theorem ev_gh (h : Ev X ρ ω e (rp g)) (c : Cls X.K g.C) (na : NoAttr X.K g.C "height") (hb : attributeBase e "height" X.env (eval e X.env) = eval e X.env := by exact ab_plain rfl) : Ev X ρ ω (.Attribute e "height" pos) (rp g.h) := ev_fld (go_ h) c na gl_h hb
theorem ev_gw (h : Ev X ρ ω e (rp g)) (c : Cls X.K g.C) (na : NoAttr X.K g.C "width") (hb : attributeBase e "width" X.env (eval e X.env) = eval e X.env := by exact ab_plain rfl) : Ev X ρ ω (.Attribute e "width" pos) (rp g.w) := ev_fld (go_ h) c na gl_w hb
theorem ev_gs (h : Ev X ρ ω e (rp g)) (c : Cls X.K g.C) (na : NoAttr X.K g.C "stones") (hb : attributeBase e "stones" X.env (eval e X.env) = eval e X.env := by exact ab_plain rfl) : Ev X ρ ω (.Attribute e "stones" pos) (rp g.stones) := ev_fld (go_ h) c na gl_s hb
theorem ev_gk (h : Ev X ρ ω e (rp g)) (c : Cls X.K g.C) (na : NoAttr X.K g.C "known") (hb : attributeBase e "known" X.env (eval e X.env) = eval e X.env := by exact ab_plain rfl) : EvC X ρ ω (.Attribute e "known" pos) (dcO g.known) := Ev.evc (ev_fld (go_ h) c na gl_k hb)
theorem ev_gl (h : Ev X ρ ω e (rp g)) (c : Cls X.K g.C) (na : NoAttr X.K g.C "lost") (hb : attributeBase e "lost" X.env (eval e X.env) = eval e X.env := by exact ab_plain rfl) : Ev X ρ ω (.Attribute e "lost" pos) (rp g.lost) := ev_fld (go_ h) c na gl_l hb
/-- isinstance(o, C), o an instance of the class at C -/
theorem ev_isO {fl : List (Str × MP)} (Bb : Bl X.mg) (h : EvC X ρ ω a (insM C fl)) (cl : Cls X.K C) (cy : ClsY X.K C) (hm : X.mg x = some (.ref C)) (hg : Gl X "isinstance" := by rfl) (hg2 : Gl X x := by rfl) (hdb : (x == ("__debug__" : Str)) = false := by decide +kernel)
    (hs : starEach [a, .Name x p2] X.env = (false, eval a X.env) :: starEach [.Name x p2] X.env := by exact se_cons rfl) : Ev X ρ ω (.Call (.Name "isinstance" p) [a, .Name x p2] [] pos) (rp true) := .mk fun B B0 σ H H0 S Q q => by
  refine wE_of (pe_callB call_isi hg (Bb _ (by decide +kernel)) (by decide +kernel) (pa_cons pe_w (pa_cons (pe_glob (v := .ref C) hg2 hm rfl hdb) pa_nil (se_cons rfl)) hs) (by decide +kernel) (by decide +kernel) hs (by exact se_any (es := [.Name x p2]) rfl)) (h.run B B0 σ H H0 S _ fun q0 o H1 H01 n1 h1 ⟨dx, vs, e1, _, _⟩ => ?_)
  subst e1
  exact ⟨_, .ref C, _, .ref C, true, rfl, .own C, .base (.ins h1 cl cy.ha cy.hn cy.ht cy.hm), by unfold PySem.W.kitOne; rw [if_pos (by simp)], q _ H1 H01 n1 rfl⟩
end
end DF

namespace DF
open R (rp)
open Dt (toD)
open PySem L2
/-! ### 19. new things that hang on nothing of ours -/
def GoodK (φ : MO) (H : Hp) (Q : VK) : Prop := ∀ (q : Addr) (N : Hp) (ob : HO) (H' : Hp), Same H H' → (∀ z u, N z = some u → H z = none ∧ H' z = some u) → N q = none → H q = none → H' q = some ob → (∀ vs, ob ≠ .tup vs) → (∀ H2, Same N H2 → Tp H H2 → φ.f H2 ob) → Q (.ref q) H'
/-- the tuples of H' that H has not -/
def newT (H H' : Hp) : Hp := fun x => match H x with | none => (match H' x with | some (.tup vs) => some (.tup vs) | _ => none) | some _ => none
theorem newT_some {H H' : Hp} {x : Addr} {u : HO} (e : newT H H' x = some u) : H x = none ∧ H' x = some u ∧ ∃ vs, u = .tup vs := by
  unfold newT at e
  cases h : H x with
  | some o => rw [h] at e; cases e
  | none =>
    rw [h] at e
    cases h2 : H' x with
    | none => rw [h2] at e; cases e
    | some o =>
      rw [h2] at e
      cases o <;> first | (cases e; done) | (cases e; exact ⟨rfl, rfl, _, rfl⟩)
theorem newT_of {H H' : Hp} {x : Addr} {vs : List L2.V} (h : H x = none) (h' : H' x = some (.tup vs)) : newT H H' x = some (.tup vs) := by unfold newT; rw [h, h']
theorem GoodK.step {φ : MO} {H H1 : Hp} {Q : VK} (s : Same H H1) (g : GoodK φ H Q) : GoodK φ H1 Q := fun q N ob H' s1 hN hq h1 h' nt hφ => by
  refine g q (fun x => (N x).or (newT H H1 x)) ob H' (s.trans s1) (fun z u e => ?_) ?_ (s.free h1) h' nt (fun H2 s2 t2 => hφ H2 (fun z u e => s2 z u (by show (N z).or _ = _; rw [e]; rfl)) fun x vs e => ?_)
  · have e : (N z).or (newT H H1 z) = some u := e
    cases hn : N z with
    | some w =>
      rw [hn] at e
      cases e
      exact ⟨s.free (hN _ _ hn).1, (hN _ _ hn).2⟩
    | none =>
      rw [hn] at e
      obtain ⟨a1, a2, _⟩ := newT_some e
      exact ⟨a1, s1 _ _ a2⟩
  · show (N q).or (newT H H1 q) = none
    rw [hq]
    cases hn : newT H H1 q with
    | none => rfl
    | some w => have := (newT_some hn).2.1; rw [h1] at this; cases this
  · cases hx : H x with
    | some o =>
      have := s _ _ hx
      rw [e] at this
      cases this
      exact t2 _ _ hx
    | none =>
      refine s2 x _ ?_
      show (N x).or (newT H H1 x) = _
      cases hn : N x with
      | none => exact newT_of hx e
      | some w => have := (hN _ _ hn).1; rw [e] at this; cases this
theorem GoodK.of {φ : MO} {H H0 : Hp} {Q : VK} (s0 : Same H0 H) (tp : Tp H H0) (g : GoodN φ H H0 Q) : GoodK φ H Q := fun q N ob H' s hN hq h1 h' nt hφ => by
  have n3 := nx_addT s0 s
  have free : ∀ {b u}, N b = some u → H b = none := fun {b u} e => (hN _ _ e).1
  refine g q ob H' (fun b => (N b).or (addT H H' H0 b)) ⟨n3.a, fun b u e => ?_, fun b u e => ?_, fun b u e e0 => ?_, fun b vs e e0 => ?_⟩ h1 ?_ h' (hφ _ (fun b u e => by show (N b).or _ = _; rw [e]; rfl) fun b vs e => ?_)
  · show (N b).or (addT H H' H0 b) = some u
    cases hb : N b with
    | none => exact n3.b _ _ e
    | some w => have := free hb; rw [s0 _ _ e] at this; cases this
  · have e : (N b).or (addT H H' H0 b) = some u := e
    cases hb : N b with
    | none => rw [hb] at e; exact n3.c _ _ e
    | some w => rw [hb] at e; cases e; exact (hN _ _ hb).2
  · show (N b).or (addT H H' H0 b) = none
    cases hb : N b with
    | none => exact n3.d _ _ e e0
    | some w => have := free hb; rw [e] at this; cases this
  · show (N b).or (addT H H' H0 b) = _
    cases hb : N b with
    | none => exact n3.e _ _ e e0
    | some w =>
      have := (hN _ _ hb).2
      rw [e] at this
      rw [this]; rfl
  · show (N q).or (addT H H' H0 q) = none
    rw [hq]
    cases ha : addT H H' H0 q with
    | none => rfl
    | some o =>
      have h2 := n3.c _ _ ha
      rw [h'] at h2
      cases h2
      unfold addT at ha
      have h01 := s0.free h1
      rw [h01, h1, h'] at ha
      revert ha nt
      cases ob <;> intro hnt ha <;> first | (cases ha; done) | exact absurd rfl (hnt _)
  · show (N b).or (addT H H' H0 b) = _
    cases hb : N b with
    | none => exact n3.b _ _ (tp _ _ e)
    | some w => have := free hb; rw [e] at this; cases this
structure EvK (X : Cx) (ρ : En) (ω : Ow) (e : Expr) (φ : MO) : Prop where
  run : ∀ B B0 σ H H0, Sat B B0 ρ ω σ H H0 → ∀ Q : VK, GoodK φ H Q → wE X e σ H Q
abbrev retK (φ : MO) : Hp → Hp → VK → XK → Prop := fun H _ Q _ => GoodK φ H Q
section
variable {X : Cx} {B B0 : Hp} {ρ ρ' : En} {ω ω' : Ow} {e a b c o tg iter : Expr} {es : List Expr} {P P1 P2 : MP} {φ ψ : MO} {pos p p2 apos : Pos} {x y : Str} {rest body orelse : List Stmt} {D : Ends} {st : Stmt} {Ps Ps' : List MP} {α β ι : Type} {k : Nat} {C : Addr} {W : WX}
theorem EvK.evn (h : EvK X ρ ω e φ) : EvN X ρ ω e φ := .mk fun B B0 σ H H0 S Q q => h.run B B0 σ H H0 S Q (GoodK.of S.sub S.tp q)
/-- a call with things of ours, that hands back what is new -/
theorem evk_callC {m : Pm ι} (G : Cal X.prog X.w X.K X.mg X.base x k (spOf m)) (i : ι) (hr : Room k X.A) (hg : Gl X x) (hdb : (x == ("__debug__" : Str)) = false) (ha : EvAC X ρ ω (e :: es) (m.args i)) (hp : m.pre i) (j : ∀ H H0 Q, GoodK φ H Q → m.ret i H H0 Q E0)
    (he : starEach (e :: es) X.env = (false, eval e X.env) :: starEach es X.env := by exact se_cons rfl) (hpl : (backTo pos (starEach es X.env)).any (·.1) = false := by exact se_any rfl) : EvK X ρ ω (.Call (.Name x p) (e :: es) [] pos) φ := .mk fun B B0 σ H H0 S Q q =>
  w_call G hr hg hdb E0 passL he hpl (ha.run B B0 σ H H0 S _ fun vs H1 H01 n1 f1 => ⟨i, H1, ⟨Same.refl _, fun _ _ e => e⟩, f1, hp, j H1 H1 Q (GoodK.step n1.a q)⟩)
theorem go_retK (h : EvK X ρ ω e φ) (k : GoodK φ B D.rt) : Go X B B0 ρ ω (.Return (some e) pos :: rest) D :=
  go_st (ps_ret pe_w) fun B1 u σ H H0 S => h.run B B1 σ H H0 S _ (GoodK.step (u _ _ S.nx).a k)
theorem evk_make {m : Ini ι} (G : CalC X.prog X.w X.K X.mg X.base x C k (spIni C m)) (i : ι) (hr : Room (k + 1) X.A) (hg : Gl X x) (hdb : (x == ("__debug__" : Str)) = false) (ha : EvAC X ρ ω (e :: es) (m.args i)) (hp : m.pre i) (hbad : m.bad i = none)
    (j : ∀ q Hb H', Hb q = none → Same Hb H' → m.ret i q Hb H' → ∃ (N : Hp) (ob : HO), (∀ z u, N z = some u → Hb z = none ∧ H' z = some u) ∧ N q = none ∧ H' q = some ob ∧ (∀ vs, ob ≠ .tup vs) ∧ ∀ H2, Same N H2 → Tp Hb H2 → φ.f H2 ob)
    (he : starEach (e :: es) X.env = (false, eval e X.env) :: starEach es X.env := by exact se_cons rfl) (hpl : (backTo pos (starEach es X.env)).any (·.1) = false := by exact se_any rfl) : EvK X ρ ω (.Call (.Name x p) (e :: es) [] pos) φ := .mk fun B B0 σ H H0 S Q q =>
  w_make G hr hg hdb E0 (fun pins H s e s' I h => passL pins σ H s e s' I h) he hpl (ha.run B B0 σ H H0 S _ fun vs H1 H01 n1 f1 z dx hz hdx hne => by
    have s1 : Same H1 (upd H1 dx (.own z)) := fun b u e => by rw [upd_ne (ne_of_none e hdx)]; exact e
    have hz1 : (upd H1 dx (.own z)) z = none := by rw [upd_ne (Ne.symm hne)]; exact hz
    refine ⟨i, z, dx, vs, upd H1 dx (.own z), rfl, ⟨fun b u e => by rw [upd_ne (ne_of_none e hz1)]; exact e, tup_put (fun _ _ e => e) fun _ z => nomatch z⟩, hz1, upd_same, f1.mono s1, hp, fun _ H' sH r => ⟨rfl, ?_⟩, fun D hD => by rw [hbad] at hD; cases hD⟩
    obtain ⟨N, ob, hN, hNq, hob, hnt, hφ⟩ := j z _ H' hz1 sH r
    refine (GoodK.step n1.a q) z N ob H' (s1.trans sH) (fun b u e => ⟨s1.free (hN _ _ e).1, (hN _ _ e).2⟩) hNq hz hob hnt fun H2 s2 t2 => hφ H2 s2 fun b us e => t2 b us ?_
    by_cases hb : b = dx
    · subst hb; rw [upd_same] at e; cases e
    · rw [upd_ne hb] at e; exact e)
/-- [i, b] as a thing that is compared -/
theorem ev_mixD {i : Int} {k : Bool} (h : Ev X ρ ω e (obM (lsM [rp i, rp k]))) : EvD X ρ ω e (.list [.int i, .bool k]) := .mk fun B B0 σ H H0 S Q q => h.run B B0 σ H H0 S Q fun v H' H0' n f => q v H' H0' n (by
  obtain ⟨p, o, rfl, hp, vs, rfl, f⟩ := f
  cases f with
  | cons a1 f =>
  cases f with
  | cons a2 f =>
  cases f
  have a1 : _ = L2.V.int i := a1
  have a2 : _ = L2.V.bl k := a2
  subst a1; subst a2
  exact .lst (SqL.of (n.c _ _ hp)) (.cons (.int i) (.cons (.bl k) .nil)))
theorem ev_pow {i j : Int} (h1 : Ev X ρ ω a (rp i)) (h2 : Ev X ρ ω b (rp j)) (hc : CPow i j) : Ev X ρ ω (.BinOp a .Pow b pos) (rp (i ^ j.toNat)) := ev_op op_pow (jI hc) h1 h2
/-- [e, ..] of plain things -/
theorem evk_lst {Ps : List MP} (h : EvA X ρ ω es Ps) (hl : Ps.length ≤ 100000) (flat : ∀ H H' vs, All2 H vs Ps → All2 H' vs Ps) : EvK X ρ ω (.List es pos) (lsM Ps) := .mk fun B B0 σ H H0 S Q q =>
  wE_of (pe_lst pa_w) (h.run B B0 σ H H0 S _ fun vs H1 H01 n1 f1 => ⟨by rw [Paired.length f1]; exact Nat.le_trans hl (by decide), fun p hp => (GoodK.step n1.a q) p (fun _ => none) (.lst vs) _ (fun b u e => by rw [upd_ne (ne_of_none e hp)]; exact e) (fun _ _ e => by cases e) rfl hp upd_same (fun _ z => nomatch z) fun H2 _ _ => ⟨vs, rfl, flat _ _ _ f1⟩⟩)
theorem flat_ib {i : Int} {k : Bool} (H H' : Hp) (vs : List L2.V) (f : All2 H vs [rp i, rp k]) : All2 H' vs [rp i, rp k] := by
  cases f with
  | cons a1 f =>
  cases f with
  | cons a2 f =>
  cases f
  exact .cons a1 (.cons a2 .nil)
end
end DF

namespace DF
open R (rp)
open Dt (toD)
open PySem L2
/-! ### 20. a new list of new lists -/
def GoodNL (φs : List MO) (H H0 : Hp) (Q : VK) : Prop := ∀ (p : Addr) (ps : List Addr) (H' H0' : Hp), Nx H H0 H' H0' → H p = none → H0' p = none → H' p = some (.lst (ps.map L2.V.ref)) → p ∉ ps → Each3 H H0 H' H0' ps φs → Q (.ref p) H'
abbrev retNL (φs : List MO) : Hp → Hp → VK → XK → Prop := fun H H0 Q _ => GoodNL φs H H0 Q
theorem GoodNL.step {φs : List MO} {H H0 H1 H01 : Hp} {Q : VK} (n : Nx H H0 H1 H01) (g : GoodNL φs H H0 Q) : GoodNL φs H1 H01 Q := fun p ps H' H0' n' h1 h2 h3 h4 h5 => g p ps H' H0' (n.trans n') (n.a.free h1) h2 h3 h4 (Each3.base n.a h5)
theorem Each3.mem {H H0 H' H0' : Hp} : ∀ {ps : List Addr} {φs : List MO}, Each3 H H0 H' H0' ps φs → ∀ p ∈ ps, H p = none ∧ H0' p = none ∧ ∃ o, H' p = some o
  | [], [], _, p, hp => by simp at hp
  | q :: ps, φ :: φs, ⟨h1, h2, ⟨o, h3, _⟩, _, h6⟩, p, hp => by
    rcases List.mem_cons.mp hp with rfl | hp
    · exact ⟨h1, h2, o, h3⟩
    · exact Each3.mem h6 p hp
  | [], _ :: _, h, _, _ => h.elim
  | _ :: _, [], h, _, _ => h.elim
theorem Each3.all {H H0 H' H0' G : Hp} {ps' : List Addr} (s : Same H0' G) (hG : ∀ p o, H' p = some o → p ∈ ps' → G p = some o) : ∀ {ps : List Addr} {φs : List MO}, (∀ p ∈ ps, p ∈ ps') → Each3 H H0 H' H0' ps φs → All2 G (ps.map L2.V.ref) (φs.map obM)
  | [], [], _, _ => .nil
  | q :: ps, φ :: φs, hs, ⟨h1, h2, ⟨o, h3, h4⟩, _, h6⟩ => .cons ⟨q, o, rfl, hG q o h3 (hs q (by simp)), φ.mono s h4⟩ (Each3.all s hG (fun p hp => hs p (by simp [hp])) h6)
  | [], _ :: _, _, h => h.elim
  | _ :: _, [], _, h => h.elim
/-- all of it stays from now on -/
theorem GoodNL.of {α : Type} [R α] {cs : List (List α)} {H H0 : Hp} {Q : VK} (g : GoodN (lsO cs) H H0 Q) : GoodNL (cs.map lsO) H H0 Q := fun p ps H' H0' n h1 h2 h3 h4 h5 => by
  have key := h5.mem
  have s : Same H0' (fun x => if x ∈ ps then H' x else H0' x) := fun b u e => by
    have : b ∉ ps := fun hb => by rw [(key b hb).2.1] at e; cases e
    show (if b ∈ ps then _ else _) = _
    rw [if_neg this]; exact e
  refine g p _ H' (fun x => if x ∈ ps then H' x else H0' x) ⟨n.a, n.b.trans s, fun b u e => ?_, fun b u e e0 => ?_, fun b vs e e0 => ?_⟩ h1 ?_ h3 ⟨_, rfl, ?_⟩
  · have e : (if b ∈ ps then H' b else H0' b) = some u := e
    by_cases hb : b ∈ ps
    · rw [if_pos hb] at e; exact e
    · rw [if_neg hb] at e; exact n.c _ _ e
  · show (if b ∈ ps then H' b else H0' b) = none
    have : b ∉ ps := fun hb => by rw [(key b hb).1] at e; cases e
    rw [if_neg this]; exact n.d _ _ e e0
  · show (if b ∈ ps then H' b else H0' b) = _
    by_cases hb : b ∈ ps
    · rw [if_pos hb]; exact e
    · rw [if_neg hb]; exact n.e _ _ e e0
  · show (if p ∈ ps then H' p else H0' p) = none
    rw [if_neg h4]; exact h2
  · have := Each3.all (ps' := ps) s (fun q o hq hm => by show (if q ∈ ps then H' q else H0' q) = _; rw [if_pos hm]; exact hq) (fun p hp => hp) h5
    rw [List.map_map] at this
    exact this
section
variable {X : Cx} {B B0 : Hp} {ρ ρ' : En} {ω ω' : Ow} {e a b c o tg iter : Expr} {es : List Expr} {P P1 P2 : MP} {φ ψ : MO} {pos p p2 apos : Pos} {x y : Str} {rest body orelse : List Stmt} {D : Ends} {st : Stmt} {Ps Ps' : List MP} {α β ι : Type} {k : Nat} {C : Addr} {W : WX}
theorem Le.perm (h : ω.Perm ω') : Le ρ ω ρ ω' := fun B B0 σ H H0 S => ⟨H0, S.nx, S.len, S.sl, fun a φ hm => S.ow a φ (h.mem_iff.mpr hm), (h.map _).nodup_iff.mp S.nd, S.tp⟩
/-- o.append(e), e new: it is ours as well -/
theorem go_appN {q : Addr} (j : Nat) (ho : Ev X ρ ω o (atM q)) (hw : ω[j]? = some (q, lsM Ps)) (h : EvN X ρ ω e φ) (hl : Ps.length < 1000000) (k : ∀ z, Go X B B0 ρ ((z, φ) :: ω.set j (q, lsM (Ps ++ [atM z]))) rest D)
    (hfew : ((backTo pos (starEach [e] X.env)).all (fun x => !x.1) && (backToKw pos (keywordEach [] X.env)).all (fun x => x.1.isSome) && decide ([e].length + ([] : List Keyword).length + (if ([] : List Keyword).isEmpty then 0 else 1) < 30)) = true := by exact se_few rfl)
    (hline : (apos.endLine == pos.line) = true := by rfl) (hst : starEach [e] X.env = (false, eval e X.env) :: starEach [] X.env := by exact se_cons rfl)
    (hsw : swapsWith (.Call (.Attribute o "append" apos) [e] [] pos) none p2.line X.env = pure false := by exact sw_any rfl) (hbase : attributeBase o "append" X.env (eval o X.env) = eval o X.env := by exact ab_plain rfl) :
    Go X B B0 ρ ω (.Expr (.Call (.Attribute o "append" apos) [e] [] pos) p2 :: rest) D :=
  go_st (ps_expr (pe_bm PySem.F.plainAttrs_list PySem.F.slot_list_append PySem.F.type_list_append mt_append pe_w (pa_cons pe_w pa_nil hst) hbase hfew hline hst (by rfl)) hsw) fun B1 u σ H H0 S => ho.run B B1 σ H H0 S _ fun v H1 H01 n1 f1 => by
    have f1 : v = .ref q := f1
    subst f1
    have S1 := S.step n1
    obtain ⟨hB, h0, ob, hq, vs, e1, f⟩ := S1.ow q _ (List.mem_of_getElem? hw)
    subst e1
    refine ⟨.inl ⟨rfl, vs, SqL.of hq⟩, h.run B B1 σ H1 H01 S1 _ fun z oz H' H0' n hz hz0 hz' fz => ?_⟩
    have hl' := Paired.length f
    refine ⟨q, vs, .ref z, rfl, rfl, n.a _ _ hq, Nat.lt_of_lt_of_le (by rw [hl']; exact hl) (by decide), ?_⟩
    have hzne : ∀ a ψ, (a, ψ) ∈ ω → a ≠ z := fun a ψ hm => by
      obtain ⟨_, _, w, q3, _⟩ := S1.ow a ψ hm
      exact ne_of_none q3 hz
    have S2 := (S1.step n).put (o' := .lst (vs ++ [.ref z])) (φ' := lsM (Ps ++ [atM z])) hw ⟨vs ++ [L2.V.ref z], rfl, Paired.app (f.mono n.b) (.cons (show (atM z).f H0' (L2.V.ref z) from rfl) .nil)⟩
    refine (k z).run B1 u σ _ H0' (S2.own (fun a ψ hm => ?_) (S1.nx.a.free hz) hz0 ?_ fz)
    · obtain ⟨i', hi'⟩ := List.getElem?_of_mem hm
      by_cases hij : j = i'
      · subst hij
        have hjl : j < ω.length := (List.getElem?_eq_some_iff.mp hw).1
        rw [List.getElem?_set_self hjl] at hi'
        cases hi'
        exact hzne q _ (List.mem_of_getElem? hw)
      · rw [List.getElem?_set_ne hij] at hi'
        exact hzne a ψ (List.mem_of_getElem? hi')
    · rw [upd_ne (hzne q _ (List.mem_of_getElem? hw)).symm]; exact hz'
theorem each_of_own {H H0 H' H0' : Hp} {σ : L2.St} (hsub : ∀ a φ, (a, φ) ∈ ω' → H a = none ∧ H0' a = none ∧ ∃ o, H' a = some o ∧ φ.f H0' o) : ∀ {ps : List Addr} {φs : List MO}, ps.length = φs.length → ps.Nodup → (∀ z ∈ ps.zip φs, z ∈ ω') → Each3 H H0 H' H0' ps φs
  | [], [], _, _, _ => trivial
  | p :: ps, φ :: φs, hl, nd, hm => by
    obtain ⟨h1, h2, h3⟩ := hsub p φ (hm _ (by simp))
    obtain ⟨n1, n2⟩ := List.nodup_cons.mp nd
    exact ⟨h1, h2, h3, n1, each_of_own (σ := σ) hsub (by simpa using hl) n2 fun z hz => hm z (by simp [hz])⟩
  | [], _ :: _, hl, _, _ => by simp at hl
  | _ :: _, [], hl, _, _ => by simp at hl
/-- return l, l a list of ours that holds lists of ours -/
theorem go_retNL {q : Addr} {ps : List Addr} {φs : List MO} (ho : Ev X ρ ((q, lsM (ps.map atM)) :: ps.zip φs) e (atM q)) (hl : ps.length = φs.length) (k : GoodNL φs B B0 D.rt) :
    Go X B B0 ρ ((q, lsM (ps.map atM)) :: ps.zip φs) (.Return (some e) pos :: rest) D :=
  go_st (ps_ret pe_w) fun B1 u σ H H0 S => ho.run B B1 σ H H0 S _ fun v H1 H01 n1 f1 => by
    have f1 : v = .ref q := f1
    subst f1
    have S1 := S.step n1
    obtain ⟨hB, h0, ob, hq, vs, e1, f⟩ := S1.ow q _ List.mem_cons_self
    subst e1
    have nd : (q :: (ps.zip φs).map (·.1)).Nodup := S1.nd
    have ez : (ps.zip φs).map (·.1) = ps := by rw [List.map_fst_zip (by omega)]
    rw [ez] at nd
    obtain ⟨n2, n3⟩ := List.nodup_cons.mp nd
    have ev : vs = ps.map L2.V.ref := by
      clear hq
      have : ∀ {vs : List L2.V} {ps : List Addr}, All2 H01 vs (ps.map atM) → vs = ps.map L2.V.ref := by
        intro vs ps h
        induction ps generalizing vs with
        | nil => cases h; rfl
        | cons p ps ih =>
          cases h with
          | cons a1 a2 =>
            have a1 : _ = L2.V.ref p := a1
            rw [a1, ih a2]; rfl
      exact this f
    subst ev
    exact k q ps H1 H01 (u _ _ S1.nx) hB h0 hq n2 (each_of_own (σ := σ) (fun a φ hm => S1.ow a φ (List.mem_cons_of_mem _ hm)) hl n3 fun z hz => hz)
end
end DF

namespace DF
open R (rp)
open Dt (toD)
open PySem L2
open PySem.Spec PyProof.Rows
/-! ### 21. set(xs), xs a list of ints; sorted of it -/
/-- a set as it is made -/
abbrev newSetO (w : World) : Obj := { cls := .type "set", dict := none, data := .set #[] 0 (.fresh 0 0 (!w.params.followText "set-order")) }
theorem ints_get {items : Array Value} {ns : List Int} (h : IntsAre items.toList ns) (hl : items.size = ns.length) (i : Nat) (v : Value) (hv : items[i]? = some v) : ∃ k t, ns[i]? = some k ∧ v = .int k t := by
  have hi : i < ns.length := by rw [← hl]; exact (Array.getElem?_eq_some_iff.mp hv).1
  obtain ⟨t, e⟩ := PyProof.Rows.IntsAre.int_at h i v (by rw [Array.getElem?_toList]; exact hv)
  refine ⟨ns[i], t, List.getElem?_eq_getElem hi, ?_⟩
  rw [e, List.getD_eq_getElem?_getD, List.getElem?_eq_getElem hi]
  rfl
set_option maxHeartbeats 3200000 in
theorem set_of_ints {P : Program} {w : World} {A : Around} {E : Value → Shared → Prop} {s : Shared} {l : Addr} {items : Array Value} (ns : List Int) {Q : Value → Shared → Prop} (hh : A.handled = none) (hl : s.heap.IsList l items) (hit : IntsAre items.toList ns) (hb : ns.length + 1 < scanBound)
    (h : ∀ (h' : Heap) (tk c : Nat), SetR w h' s.heap.objs.size (fun j => decide (j ∈ ns)) c → c ≤ ns.length → (∀ b o, s.heap.get? b = some o → h'.get? b = some o) → Q (.ref s.heap.objs.size) { s with heap := h', toks := tk }) :
    wpAny (model P w) A (call (.type "set") [.ref l]) Q E s := by
  have hsz : items.size = ns.length := by have q := IntsAre.length hit; rw [Array.length_toList] at q; exact q
  obtain ⟨c, tl, hmro⟩ := PySem.F.called_set.mro
  have hmade := PySem.F.called_set.made
  have hsub := PySem.F.called_set.sub
  refine wpAny_call (codeAny_of_tree ?_)
  show wpAny _ _ (callAny (.type "set") _) _ _ _
  refine wpAny_pure ⟨Code.quiet_builtin _ (by decide +kernel), codeAny_builtin PySem.F.entry_type_call ?_⟩
  rw [Around.under_plain (weight_type_call_type "set" [.ref l] []) rfl]
  have h1 := PySem.F.called_set.notType
  have h2 := PySem.F.called_set.canCreate
  have hct := PySem.F.typeCall_set_1 (.ref l)
  repeat (any_goals (first | assumption | wp_step))
  refine codeAny_mono (code_set_led1 (.ref l) (E := E) (Q₁ := fun obj s₁ => obj = .ref s.heap.objs.size ∧ s₁ = { s with heap := s.heap.push (newSetO w) }) ⟨rfl, rfl⟩) fun r s₁ hr => ?_
  match r, hr with
  | .error e, hr => exact hr
  | .ok (.ret obj), hr =>
    obtain ⟨rfl, rfl⟩ := hr
    have hS : (s.heap.push (newSetO w)).get? s.heap.objs.size = some (newSetO w) := Heap.get?_push_size _ rfl
    have hT : Shared.TypeIs { s with heap := s.heap.push (newSetO w) } (.ref s.heap.objs.size) "set" := ⟨_, hS, rfl⟩
    have hli := PySem.F.called_set.init.lookup
    have hbi := PySem.F.called_set.init.bind (.ref s.heap.objs.size)
    repeat (any_goals (first | assumption | wp_step))
    refine codeAny_mono (codeAny_call_builtin (R := wants (fun r s₂ => r = .none ∧ ∃ h' tk c, s₂ = { s with heap := h', toks := tk } ∧ SetR w h' s.heap.objs.size (fun j => decide (j ∈ ns)) c ∧ c ≤ ns.length ∧ ∀ b o, s.heap.get? b = some o → h'.get? b = some o) E) PySem.F.called_set.init.plain PySem.F.entry_set_init (check_set_init_1 hT ?_)) fun r₂ s₂ hr₂ => ?_
    · obtain ⟨⟨ocls, odict, odata, oslots⟩, hol, hcl, nl, hdl⟩ := hl
      simp only at hcl hdl
      subst hcl; subst hdl
      have hol' : (s.heap.push (newSetO w)).get? l = some { cls := .type "list", dict := odict, data := .seq items nl, slots := oslots } := Heap.get?_push_of_some _ hol
      have hsls := PySem.F.sub_list_set
      have hslf := PySem.F.sub_list_frozenset
      have hne : (Value.type "list" == Value.type "dict") = false := by decide
      have hl1 : (s.heap.push (newSetO w)).IsList l items := ⟨_, hol', rfl, nl, rfl⟩
      have hlS : l < s.heap.objs.size := Heap.lt_size hol
      unfold Builtin.«set.__init__» noKeywords Builtin.Frozenset.updateFrom
      generalize hPI : pyIter = PI
      wp_walk
      subst hPI
      refine wpAny_pyIter_list hl1 (wpAny_bind (wpAny_runValue ?_))
      have hneI : l ≠ (s.heap.push (newSetO w)).objs.size := by rw [Heap.size_push]; exact Nat.ne_of_lt (Nat.lt_succ_of_lt hlS)
      have hSf : s.heap.objs.size ∉ [(s.heap.push (newSetO w)).objs.size, l] := by
        rw [Heap.size_push]; simp only [List.mem_cons, List.mem_singleton, List.not_mem_nil, or_false, not_or]
        exact ⟨Nat.ne_of_lt (Nat.lt_succ_self _), Nat.ne_of_gt hlS⟩
      refine set_update_ints ((Walks.list (by simp [hh]) _ l hneI items).toS) s.heap.objs.size hSf ns hsz hb (ints_get hit hsz) (items.size - 0) 0 _ (by omega) (Nat.zero_le _) ⟨⟨_, Heap.get?_push_size _ rfl, rfl, rfl⟩, (hl1.push _)⟩ ?_ ?_
      · exact ⟨0, Nat.le_refl 0, setR_new_at (Heap.get?_push_of_some _ hS)⟩
      · intro t c' hm hc' hS'
        obtain ⟨h', g2, d', tk', os'⟩ := t
        obtain rfl : g2 = s.gens := hm.gens
        obtain rfl : d' = s.drawn := hm.drawn
        obtain rfl : os' = s.os := hm.os
        rw [hsz] at hc'
        show wpAny _ _ _ _ _ _
        refine wpAny_pure ?_
        show wpAny _ _ (ret Value.none) _ _ _
        refine wpAny_pure ⟨rfl, h', tk', c', rfl, hS', hc', fun b o e => ?_⟩
        have hb0 : b < s.heap.objs.size := Heap.lt_size e
        refine hm.heap b o ?_ (Heap.get?_push_of_some _ (Heap.get?_push_of_some _ e))
        simp only [List.mem_cons, List.not_mem_nil, or_false, not_or]
        exact ⟨Nat.ne_of_lt hb0, by rw [Heap.size_push]; exact Nat.ne_of_lt (Nat.lt_succ_of_lt hb0)⟩
    · match r₂, hr₂ with
      | .error e, hr₂ => exact hr₂
      | .ok (.ret r), hr₂ =>
        obtain ⟨rfl, h', tk, c', rfl, hS', hc', hk'⟩ := hr₂
        repeat (any_goals (first | assumption | wp_step))
        exact h _ _ _ hS' hc' hk'
      | .ok .next, hr₂ => exact False.elim hr₂
      | .ok .brk, hr₂ => exact False.elim hr₂
      | .ok .cont, hr₂ => exact False.elim hr₂
  | .ok .next, hr => exact False.elim hr
  | .ok .brk, hr => exact False.elim hr
  | .ok .cont, hr => exact False.elim hr
def rSetI (K : PySem.W.Frag) (w : World) : List L2.V → Hp → VK → Prop := fun xs H Q => ∃ (a : Addr) (ns : List Int), xs = [.ref a] ∧ SqL K H a (ns.map L2.V.int) ∧ ns.length < 64 ∧ ∀ (p : Addr) (c : Nat), H p = none → c ≤ ns.length → Q (.ref p) (upd H p (SetO w p (fun j => decide (j ∈ ns)) c))
theorem cr_setI {X : Cx} (hc : X.calm = true) : CallR X (.type "set") (rSetI X.K X.w) := by
  intro pins s σ H xs us Q I r h
  obtain ⟨a, ns, rfl, ha, hl, q⟩ := h
  obtain ⟨u, rfl, rx⟩ := r.one
  cases rx
  obtain ⟨its, rv, pl, hz⟩ := I.list ha
  refine set_of_ints (items := its.toArray) ns (I.ok.hd hc) pl.isList (by rw [List.toList_toArray]; exact intsAre_of rv) (by unfold scanBound; omega) fun h' tk c hS hcl hk => ?_
  exact ⟨.ref _, upd H s.heap.objs.size (SetO X.w s.heap.objs.size _ c), I.laid (t' := tk) (fun b u e => hk b u e) (Nat.le_refl _) (setO_new hS), rfl, q _ c (I.hok.fresh (Nat.le_refl _)) hcl⟩
theorem int_ext : ∀ {l m : List Int}, l.Pairwise (· < ·) → m.Pairwise (· < ·) → (∀ x, x ∈ l ↔ x ∈ m) → l = m
  | [], [], _, _, _ => rfl
  | [], y :: m, _, _, h => by have := (h y).mpr (by simp); simp at this
  | x :: l, [], _, _, h => by have := (h x).mp (by simp); simp at this
  | x :: l, y :: m, hl, hm, h => by
    obtain ⟨a1, a2⟩ := List.pairwise_cons.mp hl
    obtain ⟨b1, b2⟩ := List.pairwise_cons.mp hm
    have e : x = y := by
      have hx := (h x).mp (by simp)
      have hy := (h y).mpr (by simp)
      rcases List.mem_cons.mp hx with e | hx
      · exact e
      · rcases List.mem_cons.mp hy with e | hy
        · exact e.symm
        · have := a1 y hy; have := b1 x hx; omega
    subst e
    congr 1
    refine int_ext a2 b2 fun z => ?_
    constructor
    · intro hz
      rcases List.mem_cons.mp ((h z).mp (by simp [hz])) with e | hz'
      · subst e; have := a1 z hz; omega
      · exact hz'
    · intro hz
      rcases List.mem_cons.mp ((h z).mpr (by simp [hz])) with e | hz'
      · subst e; have := b1 z hz; omega
      · exact hz'
section
variable {X : Cx} {B B0 : Hp} {ρ ρ' : En} {ω ω' : Ow} {e a b c o tg iter : Expr} {es : List Expr} {P P1 P2 : MP} {φ ψ : MO} {pos p p2 apos pos2 : Pos} {x y : Str} {rest body orelse : List Stmt} {D : Ends} {st : Stmt} {Ps Ps' : List MP} {α β ι : Type} {k : Nat} {C : Addr} {W : WX}
/-- sorted(set(ns)) is ms -/
theorem evn_sortSet {ns ms : List Int} (Bb : Bl X.mg) (hc : X.calm = true) (hg : Gl X "sorted") (hg2 : Gl X "set") (h : EvC X ρ ω e (lsO ns)) (hl : ns.length < 64) (h1 : ms.Pairwise (· < ·)) (h2 : ∀ z, z ∈ ms ↔ z ∈ ns)
    (he : starEach [e] X.env = [(false, eval e X.env)] := by exact se_one rfl) (he2 : starEach [.Call (.Name "set" p2) [e] [] pos2] X.env = [(false, eval (.Call (.Name "set" p2) [e] [] pos2) X.env)] := by exact se_one rfl) :
    EvN X ρ ω (.Call (.Name "sorted" p) [.Call (.Name "set" p2) [e] [] pos2] [] pos) (lsO ms) := .mk fun B B0 σ H H0 S Q q =>
  wE_of (pe_callB (cr_sortedSet hc) hg (Bb _ (by decide +kernel)) (by decide +kernel) (pa_cons (pe_callTy (cr_setI hc) hg2 (Bb _ (by decide +kernel)) (by decide +kernel) (pa_cons pe_w pa_nil (by rw [he]; rfl)) (by decide +kernel) (by decide +kernel) (by rw [he]; rfl) (by rfl)) pa_nil (by rw [he2]; rfl)) (by decide +kernel) (by decide +kernel) (by rw [he2]; rfl) (by rfl)) (h.run B B0 σ H H0 S _ fun l o H1 H01 n1 hp ⟨vs, e1, f⟩ => by
    subst e1
    have e2 := DF.ints_of f
    subst e2
    refine ⟨l, ns, rfl, SqL.of hp, hl, fun s c hs hcl => ?_⟩
    have n2 : Nx H1 H01 (upd H1 s (SetO X.w s (fun j => decide (j ∈ ns)) c)) H01 := Nx.fresh n1.c hs (fun _ z => by unfold SetO at z; cases z)
    refine ⟨s, _, c, rfl, upd_same, by omega, fun ms' p' g1 g2 g3 hp' => ?_⟩
    have e3 : ms' = ms := int_ext g1 h1 fun z => by rw [g2, h2]; simp
    subst e3
    exact q p' _ _ H01 ((n1.trans n2).trans (Nx.fresh n2.c hp')) (n1.a.free (n2.a.free hp')) (n2.c.free hp') upd_same ⟨_, rfl, of_ints⟩)
end
end DF

namespace DF
open R (rp)
open Dt (toD)
open PySem L2
/-! ### 22. enumerate -/
section
variable {X : Cx} {B B0 : Hp} {ρ ρ' : En} {ω ω' : Ow} {e a b c o tg iter : Expr} {es : List Expr} {P P1 P2 : MP} {φ ψ : MO} {pos p p2 apos pos2 tpos : Pos} {x y : Str} {rest body orelse : List Stmt} {D : Ends} {st : Stmt} {Ps Ps' : List MP} {α β ι : Type} {k : Nat} {C : Addr} {W : WX}
/-- (number, thing) one by one -/
def enumL {α : Type} (xs : List α) : List (Int × α) := List.zipWith (fun (i : Nat) (x : α) => ((i : Int), x)) (List.range xs.length) xs
theorem enumL_get {α : Type} {xs : List α} {i : Nat} {x : α} (h : xs[i]? = some x) : (enumL xs)[i]? = some ((i : Int), x) := by
  have hl : i < xs.length := (List.getElem?_eq_some_iff.mp h).1
  unfold enumL
  rw [List.getElem?_zipWith, h, List.getElem?_range hl]
theorem enumL_len {α : Type} {xs : List α} : (enumL xs).length = xs.length := by unfold enumL; simp
theorem it_enum [R α] {xs : List α} {elts : List Expr} {kk : Nat} (Bb : Bl X.mg) (hg : Gl X "enumerate") (h : Ev X ρ ω e (rp xs)) (hs : starEach [e] X.env = [(false, eval e X.env)] := by exact se_one rfl) : Itr X ρ ω (.Tuple elts kk tpos) (.Call (.Name "enumerate" p) [e] [] pos) ((enumL xs).map rp) := .mk fun B B0 σ H H0 S R r =>
  wI_of (pi_enum hg (Bb _ (by decide +kernel)) (pa_cons pe_w pa_nil (by rw [hs]; rfl)) hs) (h.run B B0 σ H H0 S _ fun v H' H0' n ⟨q, ob, e1, hq, vs, e2, f⟩ => by
    subst e1; subst e2
    refine ⟨q, vs, rfl, SqL.of (n.c _ _ hq), r _ H' H0' n ?_⟩
    have hl : vs.length = xs.length := by rw [Paired.length f, List.length_map]
    have hl2 : ((enumL xs).map rp).length = vs.length := by rw [List.length_map, enumL_len, hl]
    refine ⟨_, _, by rw [hl2]; exact walk_enum, fun H2 s => SqL.of (s _ _ hq), fun i H2 v H2' hi s y => ?_⟩
    obtain ⟨T, x1, x2, e1, hT, e2, h1, h2⟩ := y
    subst e1; subst e2
    have h1 : x1 = .int (i : Nat) := (Option.some.inj h1).symm
    subst h1
    have hi' : i < xs.length := by rw [hl2, hl] at hi; exact hi
    obtain ⟨P, hP, hf⟩ := Paired.getL f h2
    have eP : P = rp xs[i] := by
      rw [List.getElem?_map, List.getElem?_eq_getElem hi'] at hP
      exact (Option.some.inj hP).symm
    subst eP
    refine ⟨rp ((i : Int), xs[i]), by rw [List.getElem?_map, enumL_get (List.getElem?_eq_getElem hi')]; rfl, fun H02 s0 s2 => ⟨_, Nx.new s2 hT, T, _, rfl, upd_same, .cons rfl (.cons ((rp xs[i]).mono (s0.trans ?_) hf) .nil)⟩⟩
    exact fun b u e => by rw [upd_ne (ne_of_none e (s2.free hT))]; exact e)
end
end DF

namespace DF
open R (rp)
open Dt (toD)
open PySem L2
/-! ### 23. a call that hands back lists of lists of ours -/
structure EvNL (X : Cx) (ρ : En) (ω : Ow) (e : Expr) (φs : List MO) : Prop where
  run : ∀ B B0 σ H H0, Sat B B0 ρ ω σ H H0 → ∀ Q : VK, GoodNL φs H H0 Q → wE X e σ H Q
section
variable {X : Cx} {B B0 : Hp} {ρ ρ' : En} {ω ω' : Ow} {e a b c o tg iter : Expr} {es : List Expr} {P P1 P2 : MP} {φ ψ : MO} {φs : List MO} {pos p p2 apos pos2 tpos : Pos} {x y : Str} {rest body orelse : List Stmt} {D : Ends} {st : Stmt} {Ps Ps' : List MP} {α β ι : Type} {k : Nat} {C : Addr} {W : WX}
theorem evnl_call {m : Pm ι} (G : Cal X.prog X.w X.K X.mg X.base x k (spOf m)) (i : ι) (hr : Room k X.A) (hg : Gl X x) (hdb : (x == ("__debug__" : Str)) = false) (ha : EvA X ρ ω (e :: es) (m.args i)) (hp : m.pre i) (j : ∀ H H0 Q, GoodNL φs H H0 Q → m.ret i H H0 Q E0)
    (he : starEach (e :: es) X.env = (false, eval e X.env) :: starEach es X.env := by exact se_cons rfl) (hpl : (backTo pos (starEach es X.env)).any (·.1) = false := by exact se_any rfl) : EvNL X ρ ω (.Call (.Name x p) (e :: es) [] pos) φs := .mk fun B B0 σ H H0 S Q q =>
  w_call G hr hg hdb E0 passL he hpl (ha.run B B0 σ H H0 S _ fun vs H1 H01 n1 f1 => ⟨i, H01, ⟨n1.c, (S.step n1).tp⟩, f1, hp, j H1 H01 Q (GoodNL.step n1 q)⟩)
/-- .. as a value -/
theorem EvNL.evn [R α] {cs : List (List α)} (h : EvNL X ρ ω e (cs.map lsO)) : EvN X ρ ω e (lsO cs) := .mk fun B B0 σ H H0 S Q q => h.run B B0 σ H H0 S Q (GoodNL.of q)
/-- x = f(..): the lists are ours -/
theorem G_asgNL (nd : X.N.Nodup) (i : Nat) (h : EvNL X ρ ω e φs) (k : ∀ (q : Addr) (ps : List Addr), ps.length = φs.length → Go X B B0 (ρ.set i (some (atM q))) ((q, lsM (ps.map atM)) :: (ps.zip φs ++ ω)) rest D) (hi : X.N[i]? = some x := by rfl) (hx : Loc X.env.scope x := by first | exact Or.inl rfl | exact Or.inr rfl) (hf : X.fn x = true ∨ X.env.scope.names.lookup x = some .local := by first | exact Or.inl rfl | exact Or.inr rfl)
    (hs : swapsWithSole [.Name x p] e pos.line X.env = pure false := by exact sw_sole rfl) (hw : swappedStores [.Name x p] e X.env = pure none := by exact ss_name)
    (h1 : (assignEach [.Name x p] X.env).map (·.2) = [assign (.Name x p) X.env] := by exact ae_name) : Go X B B0 ρ ω (.Assign [.Name x p] e pos :: rest) D :=
  go_st (ps_asg pe_w (pg_name nd hi hx hf) hs hw h1) fun B1 u σ H H0 S => h.run B B1 σ H H0 S _ fun q ps H' H0' n hq h0 h' hn hE => by
    have S1 := Sat.owns S (S.step n) hE
    have S2 := S1.own (p := q) (o := .lst (ps.map L2.V.ref)) (φ := lsM (ps.map atM)) (fun a ψ hm => ?_) (S.nx.a.free hq) h0 h' ⟨_, rfl, refs_all⟩
    · exact (k q ps hE.len).run B1 u _ _ _ (S2.set i rfl)
    · rcases List.mem_append.mp hm with hm | hm
      · intro e; subst e; exact hn (List.of_mem_zip hm).1
      · obtain ⟨_, _, w, q3, _⟩ := S.ow a ψ hm
        exact ne_of_none q3 hq
end
end DF

namespace DF
open R (rp)
open Dt (toD)
open PySem L2
/-! ### 24. a game of ours -/
/-- a value as it stands in the whole heap -/
structure EvH (X : Cx) (ρ : En) (ω : Ow) (e : Expr) (P : MP) : Prop where
  run : ∀ B B0 σ H H0, Sat B B0 ρ ω σ H H0 → ∀ Q : VK, (∀ v H' H0', Nx H H0 H' H0' → P.f H' v → Q v H') → wE X e σ H Q
section
variable {X : Cx} {B B0 : Hp} {ρ ρ' : En} {ω ω' : Ow} {e a b c o tg iter : Expr} {es : List Expr} {P P1 P2 : MP} {φ ψ : MO} {φs : List MO} {pos p p2 apos pos2 tpos : Pos} {x y : Str} {rest body orelse : List Stmt} {D : Ends} {st : Stmt} {Ps Ps' : List MP} {α β ι : Type} {k : Nat} {C : Addr} {W : WX}
theorem Ev.evh (h : Ev X ρ ω e P) : EvH X ρ ω e P := .mk fun B B0 σ H H0 S Q q => h.run B B0 σ H H0 S Q fun v H' H0' n f => q v H' H0' n (P.mono n.c f)
theorem evh_game {q d : Addr} {g : GM} (h : Ev X ρ ω e (atM q)) (h1 : (q, insM g.C (gameF (rp g.stones) (atM d) g.h g.w g.lost)) ∈ ω) (h2 : (d, dcO g.known) ∈ ω) : EvH X ρ ω e (rp g) := .mk fun B B0 σ H H0 S Q k => h.run B B0 σ H H0 S _ fun v H' H0' n f => by
  have f : v = .ref q := f
  subst f
  have S1 := S.step n
  obtain ⟨_, _, oq, a1, dx, vs, e1, e2, e3⟩ := S1.ow q _ h1
  obtain ⟨_, _, od, b1, b2⟩ := S1.ow d _ h2
  refine k _ H' H0' n ⟨q, oq, rfl, a1, dx, vs, e1, e2, ?_⟩
  have s := S1.sub
  cases e3 with
  | cons c1 e3 =>
  cases e3 with
  | cons c2 e3 =>
  cases e3 with
  | cons c3 e3 =>
  cases e3 with
  | cons c4 e3 =>
  cases e3 with
  | cons c5 e3 =>
  cases e3
  exact .cons ⟨c1.1, c1.2⟩ (.cons ⟨c2.1, c2.2⟩ (.cons ⟨c3.1, (rp g.stones : MP).mono s c3.2⟩ (.cons ⟨c4.1, d, od, c4.2, b1, (dcO g.known).mono s b2⟩ (.cons ⟨c5.1, c5.2⟩ .nil))))
/-- a method, self and all as they stand, that hands back a plain thing -/
theorem ev_methH0 {m : Pm ι} {fl : List (Str × MP)} (G : CalM X.prog X.w X.K X.mg X.base C x k (spOf m)) (i : ι) (hr : Room k X.A) (h : EvH X ρ ω o (obM (insM C fl))) (hl : fl.lookup x = none) (hi : m.args i = [obM (insM C fl)]) (hp : m.pre i) (j : ∀ H H0 Q, GoodV P H H0 Q → m.ret i H H0 Q E0) (hP : ∀ H H' v, P.f H v → P.f H' v) {pl : Sem Bool}
    (ht : eval (.Call (.Attribute o x apos) [] [] pos) X.env = (do
      let ov ← eval o X.env
      standAt apos.atName
      let (f, first) ← holding [ov] (getMethod ov x pl)
      callWith pos f first (backTo pos (starEach [] X.env)) (backToKw pos (keywordEach [] X.env))) := by exact ev_attr rfl rfl (by decide) rfl) : Ev X ρ ω (.Call (.Attribute o x apos) [] [] pos) P := .mk fun B B0 σ H H0 S Q q => by
  obtain ⟨f, fd, ps, F, hm, hb⟩ := G.ex
  refine wE_of (pe_meth0 pe_w G.cl hm F hr hb .nil passL ht) (h.run B B0 σ H H0 S _ fun v H1 H01 n1 f0 => ?_)
  obtain ⟨r, ob, rfl, hr0, dx, vs, rfl, hlen, fs⟩ := id f0
  exact ⟨r, dx, vs, rfl, hr0, (look_ins fs).2 hl, i, H1, ⟨Same.refl _, fun _ _ e => e⟩, by rw [hi]; exact .cons f0 .nil, hp, j H1 H1 Q fun v H' H0' n' fv => q v H' (addT H1 H' H01) (n1.trans (nx_addT n1.c n'.a)) (hP _ _ _ fv)⟩
theorem evk_methH0 {m : Pm ι} {fl : List (Str × MP)} (G : CalM X.prog X.w X.K X.mg X.base C x k (spOf m)) (i : ι) (hr : Room k X.A) (h : EvH X ρ ω o (obM (insM C fl))) (hl : fl.lookup x = none) (hi : m.args i = [obM (insM C fl)]) (hp : m.pre i) (j : ∀ H H0 Q, GoodK φ H Q → m.ret i H H0 Q E0) {pl : Sem Bool}
    (ht : eval (.Call (.Attribute o x apos) [] [] pos) X.env = (do
      let ov ← eval o X.env
      standAt apos.atName
      let (f, first) ← holding [ov] (getMethod ov x pl)
      callWith pos f first (backTo pos (starEach [] X.env)) (backToKw pos (keywordEach [] X.env))) := by exact ev_attr rfl rfl (by decide) rfl) : EvK X ρ ω (.Call (.Attribute o x apos) [] [] pos) φ := .mk fun B B0 σ H H0 S Q q => by
  obtain ⟨f, fd, ps, F, hm, hb⟩ := G.ex
  refine wE_of (pe_meth0 pe_w G.cl hm F hr hb .nil passL ht) (h.run B B0 σ H H0 S _ fun v H1 H01 n1 f0 => ?_)
  obtain ⟨r, ob, rfl, hr0, dx, vs, rfl, hlen, fs⟩ := id f0
  exact ⟨r, dx, vs, rfl, hr0, (look_ins fs).2 hl, i, H1, ⟨Same.refl _, fun _ _ e => e⟩, by rw [hi]; exact .cons f0 .nil, hp, j H1 H1 Q (GoodK.step n1.a q)⟩
/-- .. with arguments -/
theorem ev_methH {m : Pm ι} {fl : List (Str × MP)} (G : CalM X.prog X.w X.K X.mg X.base C x k (spOf m)) (i : ι) (hr : Room k X.A) (h : EvH X ρ ω o (obM (insM C fl))) (hl : fl.lookup x = none) (ha : EvAC X ρ ω (e :: es) Ps) (hi : m.args i = obM (insM C fl) :: Ps) (hp : m.pre i) (j : ∀ H H0 Q, GoodV P H H0 Q → m.ret i H H0 Q E0) (hP : ∀ H H' v, P.f H v → P.f H' v) {pl : Sem Bool}
    (hst : starEach (e :: es) X.env = (false, eval e X.env) :: starEach es X.env := by exact se_cons rfl) (hpl : (backTo pos (starEach es X.env)).any (·.1) = false := by exact se_any rfl)
    (ht : eval (.Call (.Attribute o x apos) (e :: es) [] pos) X.env = (do
      let ov ← eval o X.env
      standAt apos.atName
      let (f, first) ← holding [ov] (getMethod ov x pl)
      callWith pos f first (backTo pos (starEach (e :: es) X.env)) (backToKw pos (keywordEach [] X.env))) := by exact ev_attr rfl rfl (by decide) rfl) : Ev X ρ ω (.Call (.Attribute o x apos) (e :: es) [] pos) P := .mk fun B B0 σ H H0 S Q q => by
  obtain ⟨f, fd, ps, F, hm, hb⟩ := G.ex
  refine wE_of (pe_meth pe_w G.cl hm F hr hb .nil passL pa_w hst hpl ht) (h.run B B0 σ H H0 S _ fun v H1 H01 n1 f0 => ?_)
  obtain ⟨r, ob, rfl, hr0, dx, vs, rfl, hlen, fs⟩ := id f0
  refine ⟨r, dx, vs, rfl, hr0, (look_ins fs).2 hl, ha.run B B0 σ H1 H01 (S.step n1) _ fun us H2 H02 n2 f2 => ?_⟩
  rw [List.append_nil]
  have nn := n1.trans n2
  exact ⟨i, H2, ⟨Same.refl _, fun _ _ e => e⟩, by rw [hi]; exact .cons ((obM (insM C fl)).mono n2.a f0) f2, hp, j H2 H2 Q fun v H' H0' n' fv => q v H' (addT H2 H' H02) (nn.trans (nx_addT nn.c n'.a)) (hP _ _ _ fv)⟩
end
end DF

namespace DF
open R (rp)
open Dt (toD)
open PySem L2
/-! ### 25. lists of ours within a list of ours: walked over, compared, sorted; a thing or None -/
def optM {α : Type} [R α] : Option α → MP
  | none => nonM
  | some x => rp x
theorem refs_of {H : Hp} : ∀ {vs : List L2.V} {ps : List Addr}, All2 H vs (ps.map atM) → vs = ps.map L2.V.ref
  | vs, [], h => by cases h; rfl
  | vs, p :: ps, h => by
    cases h with
    | cons a1 a2 =>
      have a1 : _ = L2.V.ref p := a1
      rw [a1, refs_of a2]; rfl
theorem dpAll_own {α : Type} [Dt α] {K : PySem.W.Frag} {H H0 : Hp} (s : Same H0 H) : ∀ {ps : List Addr} {cs : List (List α)}, ps.length = cs.length → (∀ z ∈ ps.zip (cs.map lsO), ∃ o, H z.1 = some o ∧ z.2.f H0 o) → DpAll K H (ps.map L2.V.ref) (cs.map toD)
  | [], [], _, _ => .nil
  | p :: ps, c :: cs, hl, h => by
    obtain ⟨o, h1, vs, h2, h3⟩ := h (p, lsO c) (by simp)
    subst h2
    exact .cons (.lst (SqL.of h1) (DpAll.mono s _ _ (dpAll_of h3))) (dpAll_own s (by simpa using hl) fun z hz => h z (by simp [hz]))
  | [], _ :: _, hl, _ => by simp at hl
  | _ :: _, [], hl, _ => by simp at hl
/-- what lies at the same place -/
theorem zip_fun {α β : Type} : ∀ {ps : List α} {cs : List β} {a : α} {x y : β}, ps.Nodup → (a, x) ∈ ps.zip cs → (a, y) ∈ ps.zip cs → x = y
  | [], _, _, _, _, _, h, _ => by simp at h
  | _ :: _, [], _, _, _, _, h, _ => by simp at h
  | p :: ps, c :: cs, a, x, y, nd, h1, h2 => by
    obtain ⟨n1, n2⟩ := List.nodup_cons.mp nd
    rw [List.zip_cons_cons] at h1 h2
    rcases List.mem_cons.mp h1 with e1 | h1 <;> rcases List.mem_cons.mp h2 with e2 | h2
    · cases e1; cases e2; rfl
    · cases e1; exact absurd (List.of_mem_zip h2).1 n1
    · cases e2; exact absurd (List.of_mem_zip h1).1 n1
    · exact zip_fun n2 h1 h2
theorem zip_map2 {α β γ : Type} (f : β → γ) {a : α} {y : β} : ∀ {ps : List α} {cs : List β}, (a, y) ∈ ps.zip cs → (a, f y) ∈ ps.zip (cs.map f)
  | [], _, h => by simp at h
  | _ :: _, [], h => by simp at h
  | p :: ps, c :: cs, h => by
    rw [List.zip_cons_cons] at h
    rcases List.mem_cons.mp h with e | h
    · cases e; simp
    · simp [zip_map2 f h]
theorem addrs_of {ps : List Addr} {α : Type} {cs : List α} : ∀ {zs : List L2.V} {ys : List α}, Paired (fun v y => ∃ a, v = L2.V.ref a ∧ (a, y) ∈ ps.zip cs) zs ys → ∃ as : List Addr, zs = as.map L2.V.ref ∧ Paired (fun a y => (a, y) ∈ ps.zip cs) as ys
  | _, _, .nil => ⟨[], rfl, .nil⟩
  | _, _, .cons ⟨a, e, h⟩ t => by
    obtain ⟨as, e2, h2⟩ := addrs_of t
    exact ⟨a :: as, by rw [e, e2]; rfl, .cons h h2⟩
theorem addrs_nd {ps : List Addr} {α : Type} {cs : List α} (nd : ps.Nodup) : ∀ {as : List Addr} {ys : List α}, Paired (fun a y => (a, y) ∈ ps.zip cs) as ys → ys.Nodup → as.Nodup
  | _, _, .nil, _ => by simp
  | _, _, .cons (a := a) (b := y) h t, hy => by
    obtain ⟨n1, n2⟩ := List.nodup_cons.mp hy
    refine List.nodup_cons.mpr ⟨fun hm => ?_, addrs_nd nd t n2⟩
    obtain ⟨i, hi, e⟩ := List.getElem_of_mem hm
    obtain ⟨y', hy', h'⟩ := Paired.getL t (show _[i]? = some a by rw [List.getElem?_eq_getElem hi, e])
    have := zip_fun nd h h'
    subst this
    exact n1 (List.mem_of_getElem? hy')
section
variable {X : Cx} {B B0 : Hp} {ρ ρ' : En} {ω ω' ω0 : Ow} {e a b c o tg iter : Expr} {es : List Expr} {P P1 P2 : MP} {φ ψ : MO} {φs : List MO} {pos p p2 apos pos2 tpos : Pos} {x y : Str} {rest body orelse : List Stmt} {D : Ends} {st : Stmt} {Ps Ps' : List MP} {α β ι : Type} {k : Nat} {C : Addr} {W : WX}
/-- is None, by what is known of the value alone -/
theorem et_isNf {k : Bool} (h : Ev X ρ ω a P) (hk : ∀ H v, P.f H v → decide (v = .non) = k) {j : Nat} {pos' : Pos} : EvT X ρ ω (.Compare a [.Is] [.Constant .none j pos'] pos) k := .mk fun B B0 σ H H0 S Q q =>
  wT_of (pt_cmpR op_isN pe_w pe_non (nomark _)) (h.run B B0 σ H H0 S _ fun v H' H0' n f => ⟨rfl, _, rfl, by rw [hk _ _ f]; exact q H' H0' n⟩)
theorem ls_non [R α] {xs : List α} (H : Hp) (v : L2.V) (f : (rp xs : MP).f H v) : decide (v = .non) = false := by
  obtain ⟨q, o, rfl, _⟩ := f
  rfl
theorem go_retNLe (h : EvNL X ρ ω e φs) (k : GoodNL φs B B0 D.rt) : Go X B B0 ρ ω (.Return (some e) pos :: rest) D :=
  go_st (ps_ret pe_w) fun B1 u σ H H0 S => h.run B B1 σ H H0 S _ (GoodNL.step (u _ _ S.nx) k)
/-- a list of ours of lists of ours, as a thing that is compared -/
theorem evd_own [Dt α] {q : Addr} {ps : List Addr} {cs : List (List α)} (h : Ev X ρ ω e (atM q)) (hq : (q, lsM (ps.map atM)) ∈ ω) (hl : ps.length = cs.length) (hps : ∀ z ∈ ps.zip (cs.map lsO), z ∈ ω) : EvD X ρ ω e (toD cs) := .mk fun B B0 σ H H0 S Q k => h.run B B0 σ H H0 S _ fun v H' H0' n f => by
  have f : v = .ref q := f
  subst f
  have S1 := S.step n
  obtain ⟨_, _, ob, h1, vs, e1, f1⟩ := S1.ow q _ hq
  subst e1
  have := refs_of f1
  subst this
  refine k _ H' H0' n (.lst (SqL.of h1) (dpAll_own S1.sub hl fun z hz => ?_))
  obtain ⟨_, _, o, h3, h4⟩ := S1.ow z.1 z.2 (hps z hz)
  exact ⟨o, h3, h4⟩
/-- over a list of ours, that stays as it is -/
theorem go_forO {S : Type} {q : Addr} {ps : List Addr} {g : TG} {vs : List Nat} (env : S → En) (own : S → Ow) (I : List Addr → S → Prop) (env' : Addr → S → En) (hp : PassesOwn (model X.prog X.w) X.A X.env X.xe) (hc : X.calm = true) (ho : Ev X ρ ω iter (atM q)) (hq0 : (q, lsM (ps.map atM)) ∈ ω) (hq : ∀ s, (q, lsM (ps.map atM)) ∈ own s)
    (hg : PG X tg g) (hgj : ∀ x s, GJ g (atM x) (env s) (env' x s) vs) (s0 : S) (h0 : I ps s0) (hle : Le ρ ω (env s0) (own s0))
    (hbody : ∀ B1, Up B B0 B1 → ∀ x ys s, I (x :: ys) s → Go X B B1 (env' x s) (own s) body { nx := PostL B B1 I env own ys, rt := D.rt, bk := wB X rest D, ct := PostL B B1 I env own ys })
    (hrest : ∀ s, I [] s → Go X B B0 (env s) (own s) rest D) (hs : ∀ x, foldedSetIterable iter X.env x = pure x := by exact fs_plain rfl) : Go X B B0 ρ ω (.For tg iter body [] pos :: rest) D :=
  go_st (ps_for hp hc (pi_list pe_w) hg pss_w hs) fun B1 u σ H H0 S0 => ho.run B B1 σ H H0 S0 _ fun v H1 H01 n1 f1 => by
    have f1 : v = .ref q := f1
    subst f1
    have get : ∀ {B B0 : Hp} {ρ : En} {ω : Ow} {σ : L2.St} {H H0 : Hp}, Sat B B0 ρ ω σ H H0 → (q, lsM (ps.map atM)) ∈ ω → H q = some (.lst (ps.map L2.V.ref)) := fun S hm => by
      obtain ⟨_, _, ob, h1, vs, e1, f1⟩ := S.ow q _ hm
      subst e1
      rw [h1, refs_of f1]
    have hv := get (S0.step n1) hq0
    refine ⟨q, rfl, ⟨_, SqL.of hv⟩, ?_⟩
    obtain ⟨H0', S1⟩ := hle B H01 σ H1 H01 (S0.step n1).base
    have u1 : Up B B0 H01 := u.trans (S0.step n1).nx.up
    have hlen : (ps.map L2.V.ref).length = ps.length := List.length_map ..
    refine for_it (n := (ps.map L2.V.ref).length) (walk_list (K := X.K) (a := q) (xs := ps.map L2.V.ref)) (fun i σ2 H2 => ∃ s H02, I (ps.drop i) s ∧ Sat B H01 (env s) (own s) σ2 H2 H02) ⟨s0, H0', h0, S1⟩ (fun i σ2 H2 _ ⟨s, H02, _, S2⟩ => SqL.of (get S2 (hq s))) (fun i v σ2 H2 H2' hi ⟨s, H02, hI2, S2⟩ y => ?_) (fun σ2 H2 ⟨s, H02, hI2, S2⟩ => ?_)
    · obtain ⟨e1, e2⟩ := y
      subst e1
      rw [hlen] at hi
      have ex : ps.drop i = ps[i] :: ps.drop (i + 1) := List.drop_eq_getElem_cons hi
      have ev : v = .ref ps[i] := by
        rw [List.getElem?_map, List.getElem?_eq_getElem hi] at e2
        exact (Option.some.inj e2).symm
      subst ev
      rw [ex] at hI2
      refine hgj ps[i] s B H01 (own s) σ2 H2' H02 _ S2 rfl _ fun σ3 S3 _ => ?_
      exact (hbody H01 u1 ps[i] (ps.drop (i + 1)) s hI2).run H01 Up.refl σ3 H2' H02 S3
    · rw [hlen, List.drop_length] at hI2
      exact (hrest s hI2).run H01 u1 σ2 H2 H02 S2
/-- a new thing of ours goes to the end of the others -/
theorem Le.snoc {q z : Addr} {ps : List Addr} (hl : ps.length = φs.length) : Le ρ ((z, φ) :: (q, lsM (ps.map atM ++ [atM z])) :: (ps.zip φs ++ ω0)) ρ ((q, lsM ((ps ++ [z]).map atM)) :: ((ps ++ [z]).zip (φs ++ [φ]) ++ ω0)) := by
  have e1 : (ps ++ [z]).map atM = ps.map atM ++ [atM z] := by rw [List.map_append]; rfl
  have e2 : (ps ++ [z]).zip (φs ++ [φ]) = ps.zip φs ++ [(z, φ)] := by rw [List.zip_append hl]; rfl
  rw [e1, e2, List.append_assoc]
  refine Le.perm ((List.Perm.swap _ _ _).trans (List.Perm.cons _ ?_))
  exact List.perm_middle.symm
theorem Le.snocL [R α] {q z : Addr} {ps : List Addr} {c : List α} {cs : List (List α)} (hl : ps.length = cs.length) : Le ρ ((z, lsO c) :: (q, lsM (ps.map atM ++ [atM z])) :: (ps.zip (cs.map lsO) ++ ω0)) ρ ((q, lsM ((ps ++ [z]).map atM)) :: ((ps ++ [z]).zip ((cs ++ [c]).map lsO) ++ ω0)) := by
  rw [List.map_append (f := lsO) (l₁ := cs)]
  exact Le.snoc (by rw [List.length_map]; exact hl)
theorem own_nd {ps : List Addr} {φs : List MO} {σ : L2.St} {H H0 : Hp} (S : Sat B B0 ρ ω σ H H0) (hps : (ps.zip φs).Sublist ω) (hl : ps.length = φs.length) : ps.Nodup := by
  have := S.nd.sublist (hps.map (·.1))
  rw [List.map_fst_zip (by omega)] at this
  exact this
theorem each_of_zip {H H0 H' H0' : Hp} {ps : List Addr} {cs : List (List α)} [R α] (hsub : ∀ a y, (a, y) ∈ ps.zip cs → H a = none ∧ H0' a = none ∧ ∃ o, H' a = some o ∧ (lsO y).f H0' o) : ∀ {as : List Addr} {ys : List (List α)}, Paired (fun a y => (a, y) ∈ ps.zip cs) as ys → as.Nodup → Each3 H H0 H' H0' as (ys.map lsO)
  | _, _, .nil, _ => trivial
  | _, _, .cons (a := a) (b := y) h t, nd => by
    obtain ⟨n1, n2⟩ := List.nodup_cons.mp nd
    obtain ⟨h1, h2, h3⟩ := hsub a y h
    exact ⟨h1, h2, h3, n1, each_of_zip hsub t n2⟩
theorem paired_zip {F : L2.V → β → Prop} : ∀ {ps : List Addr} {cs : List β}, ps.length = cs.length → (∀ a y, (a, y) ∈ ps.zip cs → F (.ref a) y) → Paired F (ps.map L2.V.ref) cs
  | [], [], _, _ => .nil
  | p :: ps, c :: cs, hl, h => .cons (h p c (by simp)) (paired_zip (by simpa using hl) fun a y hz => h a y (by simp [hz]))
  | [], _ :: _, hl, _ => by simp at hl
  | _ :: _, [], hl, _ => by simp at hl
/-- return sorted(l), l a list of ours of lists of ours, no two the same -/
theorem go_retSort {ps : List Addr} {cs : List (List Cell)} (Bb : Bl X.mg) (hu : X.A.units + 64 < cLine) (hg : Gl X "sorted") (ho : EvC X ρ ω e (lsM (ps.map atM))) (hps : (ps.zip (cs.map lsO)).Sublist ω) (hl : ps.length = cs.length) (nd : cs.Nodup)
    (k : GoodNL ((psort cs).map lsO) B B0 D.rt) (he : starEach [e] X.env = [(false, eval e X.env)] := by exact se_one rfl) : Go X B B0 ρ ω (.Return (some (.Call (.Name "sorted" p) [e] [] pos2)) pos :: rest) D :=
  go_st (ps_ret (pe_callB (cr_sortG (α := List Cell) (by have : Dt.dep (List Cell) = 2 := rfl; omega)) hg (Bb _ (by decide +kernel)) (by decide +kernel) (pa_cons pe_w pa_nil (by rw [he]; rfl)) (by decide +kernel) (by decide +kernel) (by rw [he]; rfl) (by rfl))) fun B1 u σ H H0 S => ho.run B B1 σ H H0 S _ fun q ob H1 H01 n1 h1 ⟨vs, e1, f1⟩ => by
    have S1 := S.step n1
    subst e1
    have := refs_of f1
    subst this
    have pnd := own_nd S1 hps (by rw [List.length_map]; exact hl)
    have hown : ∀ a (y : List Cell), (a, y) ∈ ps.zip cs → B a = none ∧ H01 a = none ∧ ∃ o, H1 a = some o ∧ (lsO y).f H01 o := fun a y h => S1.ow a _ (hps.subset (zip_map2 lsO h))
    refine ⟨q, ps.map L2.V.ref, cs, fun v y => ∃ a, v = .ref a ∧ (a, y) ∈ ps.zip cs, rfl, SqL.of h1, paired_zip hl fun a y hz => ⟨⟨a, rfl, hz⟩, ?_⟩, fun zs z hz hp => ?_⟩
    · obtain ⟨_, _, o, h3, ws, e4, h4⟩ := hown a y hz
      subst e4
      exact .lst (SqL.of h3) (DpAll.mono S1.sub _ _ (dpAll_of h4))
    · obtain ⟨as, e, hza⟩ := addrs_of hz
      subst e
      have hn : (psort cs).Nodup := (List.mergeSort_perm cs _).nodup_iff.mpr nd
      have and' := addrs_nd pnd hza hn
      have key : ∀ a (y : List Cell), (a, y) ∈ ps.zip cs → a ≠ z := fun a y h e => by
        obtain ⟨_, _, o, h3, _⟩ := hown a y h
        subst e; rw [hp] at h3; cases h3
      refine k z as _ H01 (u _ _ (S1.nx.trans (Nx.fresh n1.c hp))) (S1.nx.a.free hp) (n1.c.free hp) upd_same (fun hm => ?_) (each_of_zip (fun a y h => ?_) hza and')
      · obtain ⟨i, hi, e⟩ := List.getElem_of_mem hm
        obtain ⟨y, _, h'⟩ := Paired.getL hza (show as[i]? = some z by rw [List.getElem?_eq_getElem hi, e])
        exact key z y h' rfl
      · obtain ⟨a1, a2, o, a3, a4⟩ := hown a y h
        exact ⟨a1, a2, o, by rw [upd_ne (key a y h)]; exact a3, a4⟩
/-- name = [elt for tg in iter], a list of ours -/
theorem G_lc0N [R β] {xs : List α} {pm : α → MP} {g : TG} {elt : Expr} {scope : Scope} {own : List (Str × Nat)} {f : α → β} {ρ' : α → En} {py spos : Pos} (hN : X.N.Nodup) (i : Nat) (hc : X.calm = true) (hI : ItrC X ρ ω tg iter (xs.map pm)) (hl : xs.length < 1000000) (ok : BlkOk X.N X.env.scope scope own)
    (hg : ∀ s H C cl fp, PG (BX X scope s H C cl fp) tg g) (hgj : ∀ x, GJ g (pm x) (wipeE ρ (own.map (·.2))) (ρ' x) (own.map (·.2)))
    (he : ∀ s H C cl fp, ∀ x ∈ xs, Ev (BX X scope s H C cl fp) (ρ' x) ω elt (rp (f x))) (k : ∀ q : Addr, Go X B B0 (ρ.set i (some (atM q))) ((q, lsO (xs.map f)) :: ω) rest D) (hy : X.N[i]? = some y := by rfl) (hyl : X.env.scope.names.lookup y = some .local := by rfl)
    (hsw : swapsWith (.ListComp elt [⟨tg, iter, [], 0⟩] scope pos) (some (.Name y py)) spos.line X.env = pure true := by exact sw_true rfl rfl rfl (by decide +kernel)) (hs : ∀ x, foldedSetIterable iter X.env x = pure x := by exact fs_plain rfl) :
    Go X B B0 ρ ω (.Assign [.Name y py] (.ListComp elt [⟨tg, iter, [], 0⟩] scope pos) spos :: rest) D :=
  go_st (ps_setLc (g := g) (tt := tYes) (te := fun σ H Q => ∀ s H' C cl fp, wE (BX X scope s H' C cl fp) elt σ H Q) hc hN hy hyl hsw pi_w ok hg (fun _ _ _ _ _ => pts_nil) (fun s H' C cl fp => ⟨fun pins sh σ H Q I h => h s H' C cl fp pins sh I⟩) hs) fun B1 u σ H H0 S =>
    hI.run B B1 σ H H0 S _ fun J H1 H01 n1 w => fun Dl hD => lc_all (fun _ => true) (fun x => rp (f x)) ρ' (S.step n1) w hl hgj (fun x _ σ H H0 S2 Q q => q H H0 (Nx.refl S2.sub)) (fun x hx _ σ H H0 S2 Q q s H' C cl fp => (he s H' C cl fp x hx).run B B1 σ H H0 S2 Q q) Dl hD _ fun acc H' H0' n e0 e1 f1 => by
      rw [List.filter_eq_self.mpr (fun _ _ => rfl)] at f1
      have S1 := S.step (n1.trans n)
      refine (k Dl).run B1 u _ H' H0' ((S1.own (φ := lsO (xs.map f)) (fun a ψ hm => ?_) (S.nx.a.free (n1.a.free hD)) e0 e1 ⟨acc, rfl, by rw [List.map_map]; exact f1⟩).set i rfl)
      obtain ⟨_, _, w', q3, _⟩ := (S.step n1).ow a ψ hm
      exact ne_of_none q3 hD
/-- l[i] = e, l a list of ours -/
theorem go_lset [R α] {xs : List α} {z : α} {q : Addr} {i : Int} {pos' : Pos} (j : Nat) (ho : Ev X ρ ω o (atM q)) (hw : ω[j]? = some (q, lsO xs)) (h1 : Ev X ρ ω b (rp i)) (h2 : Ev X ρ ω e (rp z)) (hi0 : 0 ≤ i) (hi : i < xs.length) (k : Go X B B0 ρ (ω.set j (q, lsO (xs.set i.toNat z))) rest D)
    (hs : swapsWithSole [.Subscript o b pos'] e pos.line X.env = pure false := by exact sw_sole rfl) (hw2 : swappedStores [.Subscript o b pos'] e X.env = pure none := by exact ss_any rfl)
    (ha : (assignEach [.Subscript o b pos'] X.env).map (·.2) = [assign (.Subscript o b pos') X.env] := by rfl) (hb : ∀ v, assign (.Subscript o b pos') X.env v = (do
      let ov ← holding [v] (eval o X.env)
      let iv ← holding [v, ov] (eval b X.env)
      standAt pos'
      holding [v, ov, iv] (setItem ov iv v)
      release [v, ov, iv] []) := by intro _; rfl) : Go X B B0 ρ ω (.Assign [.Subscript o b pos'] e pos :: rest) D :=
  go_st (ps_asg pe_w (pg_sub pe_w pe_w set_list hb) hs hw2 ha) fun B1 u σ H H0 S => h2.run B B1 σ H H0 S _ fun v H1 H01 n1 f1 => ho.run B B1 σ H1 H01 (S.step n1) _ fun w H2 H02 n2 f2 => h1.run B B1 σ H2 H02 ((S.step n1).step n2) _ fun y H3 H03 n3 f3 => by
    have f2 : w = .ref q := f2
    subst f2
    have S3 := ((S.step n1).step n2).step n3
    obtain ⟨hB, h0, ob, hq, vs, e1, g⟩ := S3.ow q _ (List.mem_of_getElem? hw)
    subst e1
    have hlen := Paired.length g
    rw [List.length_map] at hlen
    refine ⟨q, vs, i, i.toNat, rfl, f3, hq, by unfold ixN; rw [if_pos hi0, if_pos (by rw [hlen]; exact hi)], ?_⟩
    refine k.run B1 u σ _ H03 (S3.put hw ⟨_, rfl, ?_⟩)
    rw [List.map_set]
    exact Paired.set (F := fun v (P : MP) => P.f H03 v) ((rp z : MP).mono (n2.b.trans n3.b) f1) _ g
end
end DF

namespace DF
open R (rp)
open Dt (toD)
open PySem L2
/-! ### 26. dicts by ints -/
abbrev ID := List (Int × Int)
def kI (kvs : ID) : List (Key × L2.V) := kvs.map fun kv => (Sum.inl kv.1, L2.V.int kv.2)
def diO (kvs : ID) : MO := ⟨fun _ o => o = .dK (kI kvs), fun _ h => h⟩
/-- .. that is locked -/
def lkM (kvs : ID) : MP := ⟨fun H v => ∃ a o, v = .ref a ∧ H a = some (.frz o (.dK (kI kvs))), fun s ⟨a, o, h1, h2⟩ => ⟨a, o, h1, s _ _ h2⟩⟩
def ipI (kvs : ID) (k v : Int) : ID := if (kvs.any fun kv => decide (kv.1 = k)) = true then kvs.map (fun kv => if kv.1 = k then (kv.1, v) else kv) else kvs ++ [(k, v)]
def iv? (kvs : ID) (k : Int) : Option Int := (kvs.find? fun kv => decide (kv.1 = k)).map (·.2)
/-- d.get(k, 0) -/
def igI (kvs : ID) (k : Int) : Int := (iv? kvs k).getD 0
theorem inl_iff {a b : Int} : (Sum.inl a : Key) = Sum.inl b ↔ a = b := by
  constructor
  · intro h; exact Sum.inl.inj h
  · intro h; rw [h]
theorem kI_any (kvs : ID) (k : Int) : ((kI kvs).any fun kv => decide (kv.1 = Sum.inl k)) = kvs.any fun kv => decide (kv.1 = k) := by
  unfold kI
  rw [List.any_map]
  congr 1
  funext kv
  simp only [Function.comp, inl_iff]
theorem kI_put (kvs : ID) (k v : Int) : putK (kI kvs) (Sum.inl k) (L2.V.int v) = kI (ipI kvs k v) := by
  unfold putK ipI
  rw [kI_any]
  split
  · unfold kI
    rw [List.map_map, List.map_map]
    refine List.map_congr_left fun kv _ => ?_
    simp only [Function.comp, inl_iff]
    split <;> rfl
  · unfold kI
    rw [List.map_append]; rfl
theorem kI_val : ∀ (kvs : ID) (k : Int), valV (kI kvs) (Sum.inl k) = (iv? kvs k).map L2.V.int
  | [], _ => rfl
  | kv :: kvs, k => by
    have ih := kI_val kvs k
    unfold valV iv? kI at ih ⊢
    simp only [List.map_cons, List.find?_cons, inl_iff]
    by_cases h : kv.1 = k
    · simp [h]
    · simp only [h, decide_false]; exact ih
theorem kI_inj {a b : ID} (h : kI a = kI b) : a = b := by
  induction a generalizing b with
  | nil =>
    cases b with
    | nil => rfl
    | cons y b => simp [kI] at h
  | cons x a ih =>
    cases b with
    | nil => simp [kI] at h
    | cons y b =>
      unfold kI at h
      simp only [List.map_cons, List.cons.injEq, Prod.mk.injEq, Sum.inl.injEq, L2.V.int.injEq] at h
      obtain ⟨⟨h1, h2⟩, h3⟩ := h
      rw [ih h3, Prod.ext h1 h2]
theorem ipI_len {kvs : ID} {k v : Int} : (ipI kvs k v).length ≤ kvs.length + 1 := by
  unfold ipI
  split
  · rw [List.length_map]; omega
  · rw [List.length_append]; simp
theorem Nx.putNew {H H0 H' H0' : Hp} {p : Addr} {o : HO} (n : Nx H H0 H' H0') (h : H p = none) (h0 : H0' p = none) (ho : ∀ vs, o ≠ .tup vs) : Nx H H0 (upd H' p o) H0' :=
  ⟨fun b u e => by rw [upd_ne (ne_of_none e h)]; exact n.a _ _ e, n.b, fun b u e => by rw [upd_ne (ne_of_none e h0)]; exact n.c _ _ e, n.d, fun x vs e e0 => n.e x vs (by
    by_cases hb : x = p
    · subst hb; rw [upd_same] at e; cases e; exact absurd rfl (ho vs)
    · rw [upd_ne hb] at e; exact e) e0⟩
/-- the pairs of a display -/
structure EvPr (X : Cx) (ρ : En) (ω : Ow) (pos : Pos) (ks : List (Option Expr)) (vs : List Expr) (kvs : ID) : Prop where
  ex : ∃ trs, PPs X pos ks vs trs ∧ ∀ B B0 σ H H0, Sat B B0 ρ ω σ H H0 → ∀ Q : List (L2.V × L2.V) → Hp → Prop, (∀ H' H0', Nx H H0 H' H0' → Q (kvs.map fun kv => (L2.V.int kv.1, L2.V.int kv.2)) H') → tPairs trs σ H Q
section
variable {X : Cx} {B B0 : Hp} {ρ ρ' : En} {ω ω' ω0 : Ow} {e a b c o tg iter : Expr} {es : List Expr} {P P1 P2 : MP} {φ ψ : MO} {φs : List MO} {pos p p2 apos pos2 tpos : Pos} {x y : Str} {rest body orelse sts : List Stmt} {D : Ends} {st : Stmt} {Ps Ps' : List MP} {α β ι : Type} {k : Nat} {C : Addr} {W : WX}
theorem evp_nil : EvPr X ρ ω pos [] [] [] := ⟨[], pps_nil, fun B B0 σ H H0 S Q q => q H H0 (Nx.refl S.sub)⟩
theorem evp_cons {i j : Int} {ks : List (Option Expr)} {vs : List Expr} {kvs : ID} (h1 : Ev X ρ ω a (rp i)) (h2 : Ev X ρ ω b (rp j)) (h : EvPr X ρ ω pos ks vs kvs) : EvPr X ρ ω pos (some a :: ks) (b :: vs) ((i, j) :: kvs) := by
  obtain ⟨trs, q1, q2⟩ := h.ex
  refine ⟨_, pps_cons pe_w pe_w q1, fun B B0 σ H H0 S Q q => ?_⟩
  refine h1.run B B0 σ H H0 S _ fun v1 H1 H01 n1 f1 => h2.run B B0 σ H1 H01 (S.step n1) _ fun v2 H2 H02 n2 f2 => q2 B B0 σ H2 H02 ((S.step n1).step n2) _ fun H3 H03 n3 => ?_
  have f1 : v1 = .int i := f1
  have f2 : v2 = .int j := f2
  subst f1; subst f2
  exact q H3 H03 ((n1.trans n2).trans n3)
theorem evn_ddisp {ks : List (Option Expr)} {vs : List Expr} {kvs kvs' : ID} (h : EvPr X ρ ω pos ks vs kvs) (hall : ks.all (·.isSome) = true) (hl : ks.length = vs.length) (h0 : ks ≠ []) (h15 : ks.length ≤ 15) (hk : kvs.length ≤ 15) (hm : mergeK [] (kI kvs) = kI kvs') : EvN X ρ ω (.Dict ks vs pos) (diO kvs') := by
  obtain ⟨trs, q1, q2⟩ := h.ex
  refine .mk fun B B0 σ H H0 S Q q => wE_of (pe_disp q1 hall hl h0 h15) fun p hp => ?_
  have n0 : Nx H H0 (upd H p (.dK [])) H0 := Nx.fresh S.sub hp
  refine q2 B B0 σ _ H0 (S.step n0) _ fun H2 H02 n2 => ?_
  have e2 : H2 p = some (.dK []) := n2.a _ _ upd_same
  have e02 : H02 p = none := n2.d _ _ upd_same (S.sub.free hp)
  refine ⟨e2, kI kvs, by unfold kI; rw [List.map_map]; rfl, by unfold kI; rw [List.length_map]; exact hk, ?_⟩
  rw [hm]
  exact q p _ _ H02 ((n0.trans n2).putNew hp e02 fun _ z => nomatch z) hp e02 upd_same rfl
theorem evn_dnewI : EvN X ρ ω (.Dict [] [] pos) (diO []) := .mk fun B B0 σ H H0 S Q q =>
  wE_of pe_dnewK (fun p hp => q p _ _ H0 (Nx.fresh S.sub hp) hp (S.sub.free hp) upd_same rfl)
/-- d.get(k, 0) -/
theorem ev_igetD {kvs : ID} {i j : Int} {z : Nat} (hu : X.A.units + 64 < cLine) (h1 : EvC X ρ ω o (diO kvs)) (h2 : Ev X ρ ω e (rp i)) (h3 : Ev X ρ ω b (rp j)) (m : M2 X o "get" apos e b pos) : Ev X ρ ω (.Call (.Attribute o "get" apos) [e, b] [] pos) (rp ((iv? kvs i).getD j)) := .mk fun B B0 σ H H0 S Q q =>
  wE_of (pe_dget2 (by omega) pe_w pe_w pe_w m) (h1.run B B0 σ H H0 S _ fun d ob H1 H01 n1 hd f1 => by
    have f1 : ob = .dK (kI kvs) := f1
    subst f1
    refine ⟨d, rfl, .inl ⟨_, .inl hd⟩, h2.run B B0 σ H1 H01 (S.step n1) _ fun v2 H2 H02 n2 f2 => h3.run B B0 σ H2 H02 ((S.step n1).step n2) _ fun v3 H3 H03 n3 f3 => ?_⟩
    have f2 : v2 = .int i := f2
    have f3 : v3 = .int j := f3
    subst f2; subst f3
    refine ⟨_, DGet.k (k := Sum.inl i) (n3.a _ _ (n2.a _ _ hd)), q _ H3 H03 ((n1.trans n2).trans n3) ?_⟩
    rw [kI_val]
    cases iv? kvs i <;> rfl)
/-- d[k], d locked -/
theorem ev_lget {kvs : ID} {i : Int} {v : Int} (hu : X.A.units + 64 < cLine) (h1 : Ev X ρ ω o (lkM kvs)) (h2 : Ev X ρ ω e (rp i)) (hv : iv? kvs i = some v) (hs : NoSl e := by exact fun _ _ => rfl) : Ev X ρ ω (.Subscript o e pos) (rp v) := .mk fun B B0 σ H H0 S Q q =>
  wE_of (pe_dget (by omega) pe_w pe_w hs) (h1.run B B0 σ H H0 S _ fun w H1 H01 n1 ⟨d, od, e1, hd⟩ => h2.run B B0 σ H1 H01 (S.step n1) _ fun w2 H2 H02 n2 f2 => by
    have f2 : w2 = .int i := f2
    subst f2
    refine ⟨d, .int v, e1, .inl ⟨_, Sum.inl i, .inr ⟨od, n2.a _ _ (n1.c _ _ hd)⟩, rfl, ?_⟩, q _ H2 H02 (n1.trans n2) rfl⟩
    rw [kI_val, hv]; rfl)
/-- d[k] = v, d a dict of ours -/
theorem go_iput {kvs : ID} {i v : Int} {q : Addr} {pos' : Pos} (hu : X.A.units + 64 < cLine) (j : Nat) (ho : Ev X ρ ω o (atM q)) (hw : ω[j]? = some (q, diO kvs)) (h1 : Ev X ρ ω e (rp i)) (h2 : Ev X ρ ω a (rp v)) (hl : kvs.length < 1000000) (k : Go X B B0 ρ (ω.set j (q, diO (ipI kvs i v))) rest D)
    (hs : swapsWith a (some (.Subscript o e pos')) pos.line X.env = pure false := by exact sw_any rfl) : Go X B B0 ρ ω (.Assign [.Subscript o e pos'] a pos :: rest) D :=
  go_st (ps_dput (by omega) pe_w pe_w pe_w hs) fun B1 u σ H H0 S => h2.run B B1 σ H H0 S _ fun w H1 H01 n1 f1 => ho.run B B1 σ H1 H01 (S.step n1) _ fun z H2 H02 n2 f2 => h1.run B B1 σ H2 H02 ((S.step n1).step n2) _ fun y H3 H03 n3 f3 => by
    have f1 : w = .int v := f1
    have f2 : z = .ref q := f2
    have f3 : y = .int i := f3
    subst f1; subst f2; subst f3
    have S3 := ((S.step n1).step n2).step n3
    obtain ⟨hB, h0, ob, hq, e1⟩ := S3.ow q _ (List.mem_of_getElem? hw)
    have e1 : ob = .dK (kI kvs) := e1
    subst e1
    refine ⟨q, _, rfl, DPut.k (k := Sum.inl i) hq (Nat.lt_of_lt_of_le (by unfold kI; rw [List.length_map]; exact hl) (by decide)), ?_⟩
    rw [kI_put]
    exact k.run B1 u σ _ H03 (S3.put hw rfl)
/-- for k in d, d locked -/
theorem it_lkeys {kvs : ID} (h : Ev X ρ ω e (lkM kvs)) : Itr X ρ ω tg e ((kvs.map (·.1)).map rp) := .mk fun B B0 σ H H0 S R r =>
  wI_of (pi_keys pe_w) (h.run B B0 σ H H0 S _ fun v H' H0' n ⟨d, od, e1, hd⟩ => by
    subst e1
    refine ⟨d, od, rfl, .inl ⟨kI kvs, n.c _ _ hd, r _ H' H0' n ?_⟩⟩
    have hl : ((kvs.map (·.1)).map (rp : Int → MP)).length = (kI kvs).length := by unfold kI; rw [List.length_map, List.length_map, List.length_map]
    refine ⟨_, _, by rw [hl]; exact walk_keys, fun H2 s => s _ _ hd, fun i H2 v H2' hi s y => ?_⟩
    obtain ⟨e1, kk, w, h1, e2⟩ := y
    subst e1; subst e2
    unfold kI at h1
    rw [List.getElem?_map] at h1
    cases hk : kvs[i]? with
    | none => rw [hk] at h1; cases h1
    | some kv =>
      rw [hk] at h1
      cases h1
      exact ⟨rp kv.1, by rw [List.getElem?_map, List.getElem?_map, hk]; rfl, fun H02 s0 s2 => ⟨H02, Nx.refl s2, rfl⟩⟩)
/-! a thing is locked for the rest -/
theorem wB_lock {σ : L2.St} {H : Hp} {d : Addr} {u : HO} (hd : H d = some u) (mu : Mut (some u))
    (h : ∀ od, wB X sts ⟨fun σ' H' => H' d = some (.frz od u) ∧ D.nx σ' (upd H' d u), fun v H' => H' d = some (.frz od u) ∧ D.rt v (upd H' d u), fun σ' H' => H' d = some (.frz od u) ∧ D.bk σ' (upd H' d u), fun σ' H' => H' d = some (.frz od u) ∧ D.ct σ' (upd H' d u)⟩ σ (upd H d (.frz od u))) : wB X sts D σ H := fun pins s I => by
  obtain ⟨od, I1⟩ := I.lock hd mu
  refine thn (h od pins s I1) fun f s1 q => ?_
  cases f with
  | next => obtain ⟨σ', H', I2, e, q⟩ := q; exact ⟨σ', _, I2.unlock e (I.nofrz hd mu), q⟩
  | brk => obtain ⟨σ', H', I2, e, q⟩ := q; exact ⟨σ', _, I2.unlock e (I.nofrz hd mu), q⟩
  | cont => obtain ⟨σ', H', I2, e, q⟩ := q; exact ⟨σ', _, I2.unlock e (I.nofrz hd mu), q⟩
  | ret v => obtain ⟨x, σ', H', I2, r, e, q⟩ := q; exact ⟨x, σ', _, I2.unlock e (I.nofrz hd mu), r, q⟩
/-- two dicts are locked for all that follows; a new dict is handed back -/
theorem go_lock2 {k1 k2 fin : ID} {n : Nat} (hρ : ρ = some (obM (diO k1)) :: some (obM (diO k2)) :: List.replicate n none) (hret : GoodN (diO fin) B B0 D.rt)
    (hb : ∀ (Hl : Hp) (Dl : Ends), (∀ p H', Same Hl H' → Hl p = none → H' p = some (.dK (kI fin)) → Dl.rt (.ref p) H') → Go X Hl Hl (some (lkM k1) :: some (lkM k2) :: List.replicate n none) [] sts Dl) : Go X B B0 ρ [] sts D := .mk fun B1 u σ H H0 S => by
  subst hρ
  obtain ⟨v1, s1, a1, o1, e1, h1, f1⟩ := S.sl 0 _ rfl
  obtain ⟨v2, s2, a2, o2, e2, h2, f2⟩ := S.sl 1 _ rfl
  have f1 : o1 = .dK (kI k1) := f1
  have f2 : o2 = .dK (kI k2) := f2
  subst e1; subst e2; subst f1; subst f2
  have g1 := S.sub _ _ h1
  have g2 := S.sub _ _ h2
  have nx0 : Nx B B0 H H0 := u _ _ S.nx
  have tpr : ∀ G : Hp, Tp G G := fun G x vs e => e
  -- what the end comes to
  have fine : ∀ (p : Addr) (H' : Hp), Same H H' → H p = none → H' p = some (.dK (kI fin)) → D.rt (.ref p) H' := fun p H' s hp hp' => by
    refine hret p _ H' (addT H H' H0) (nx0.trans (nx_addT S.sub s)) (nx0.a.free hp) ?_ hp' rfl
    unfold addT
    rw [S.sub.free hp, hp, hp']; rfl
  by_cases ea : a1 = a2
  · subst ea
    rw [g1] at g2
    have ek : k2 = k1 := (kI_inj (HO.dK.inj (Option.some.inj g2))).symm
    subst ek
    refine wB_lock g1 True.intro fun od => ?_
    refine (hb (upd H a1 (.frz od (.dK (kI k2)))) _ fun p H' s hp hp' => ?_).run _ Up.refl σ _ _ ⟨Nx.refl (Same.refl _), S.len, fun i P hi => ?_, fun a φ h => by simp at h, by simp, tpr _⟩
    · have hne : p ≠ a1 := fun z => by subst z; rw [upd_same] at hp; cases hp
      refine ⟨s _ _ upd_same, fine p _ (fun b w e => ?_) (by rw [upd_ne hne] at hp; exact hp) (by rw [upd_ne hne]; exact hp')⟩
      by_cases hb' : b = a1
      · subst hb'; rw [g1] at e; cases e; exact upd_same
      · rw [upd_ne hb']; exact s _ _ (by rw [upd_ne hb']; exact e)
    · match i, hi with
      | 0, hi => cases hi; exact ⟨_, s1, a1, od, rfl, upd_same⟩
      | 1, hi => cases hi; exact ⟨_, s2, a1, od, rfl, upd_same⟩
      | i + 2, hi =>
        have hi : (List.replicate n (none : Option MP))[i]? = some (some P) := hi
        rw [List.getElem?_replicate] at hi
        split at hi <;> cases hi
  · refine wB_lock g1 True.intro fun od => ?_
    refine wB_lock (d := a2) (u := .dK (kI k2)) (by rw [upd_ne (Ne.symm ea)]; exact g2) True.intro fun od2 => ?_
    refine (hb (upd (upd H a1 (.frz od (.dK (kI k1)))) a2 (.frz od2 (.dK (kI k2)))) _ fun p H' s hp hp' => ?_).run _ Up.refl σ _ _ ⟨Nx.refl (Same.refl _), S.len, fun i P hi => ?_, fun a φ h => by simp at h, by simp, tpr _⟩
    · have hne2 : p ≠ a2 := fun z => by subst z; rw [upd_same] at hp; cases hp
      rw [upd_ne hne2] at hp
      have hne : p ≠ a1 := fun z => by subst z; rw [upd_same] at hp; cases hp
      rw [upd_ne hne] at hp
      have l1 : H' a1 = some (.frz od (.dK (kI k1))) := s _ _ (by rw [upd_ne ea, upd_same])
      refine ⟨s _ _ upd_same, by rw [upd_ne ea]; exact l1, fine p _ (fun b w e => ?_) hp (by rw [upd_ne hne, upd_ne hne2]; exact hp')⟩
      by_cases hb' : b = a1
      · subst hb'; rw [g1] at e; cases e; exact upd_same
      · rw [upd_ne hb']
        by_cases hb2 : b = a2
        · subst hb2; rw [g2] at e; cases e; exact upd_same
        · rw [upd_ne hb2]; exact s _ _ (by rw [upd_ne hb2, upd_ne hb']; exact e)
    · match i, hi with
      | 0, hi => cases hi; exact ⟨_, s1, a1, od, rfl, by rw [upd_ne ea, upd_same]⟩
      | 1, hi => cases hi; exact ⟨_, s2, a2, od2, rfl, upd_same⟩
      | i + 2, hi =>
        have hi : (List.replicate n (none : Option MP))[i]? = some (some P) := hi
        rw [List.getElem?_replicate] at hi
        split at hi <;> cases hi
/-! more of lists of ints -/
/-- l.count(k) -/
theorem ev_lcount {ns : List Int} {i : Int} (h1 : EvC X ρ ω o (lsO ns)) (h2 : Ev X ρ ω e (rp i))
    (hfew : ((backTo pos (starEach [e] X.env)).all (fun x => !x.1) && (backToKw pos (keywordEach [] X.env)).all (fun x => x.1.isSome) && decide ([e].length + ([] : List Keyword).length + (if ([] : List Keyword).isEmpty then 0 else 1) < 30)) = true := by exact se_few rfl)
    (hline : (apos.endLine == pos.line) = true := by rfl) (hst : starEach [e] X.env = (false, eval e X.env) :: starEach [] X.env := by exact se_cons rfl) (hbase : attributeBase o "count" X.env (eval o X.env) = eval o X.env := by exact ab_plain rfl) :
    Ev X ρ ω (.Call (.Attribute o "count" apos) [e] [] pos) (rp ((ns.count i : Nat) : Int)) := .mk fun B B0 σ H H0 S Q q =>
  wE_of (pe_bm PySem.F.plainAttrs_list PySem.F.slot_list_count PySem.F.type_list_count mt_lcount pe_w (pa_cons pe_w pa_nil hst) hbase hfew hline hst (by rfl)) (h1.run B B0 σ H H0 S _ fun l ob H1 H01 n1 hl ⟨vs, e1, f1⟩ => by
    subst e1
    have e2 := ints_of f1
    subst e2
    refine ⟨.inl ⟨rfl, _, SqL.of hl⟩, h2.run B B0 σ H1 H01 (S.step n1) _ fun v2 H2 H02 n2 f2 => ?_⟩
    have f2 : v2 = .int i := f2
    subst f2
    exact ⟨l, ns, i, rfl, rfl, SqL.of (n2.a _ _ hl), q _ H2 H02 (n1.trans n2) rfl⟩)
theorem ev_fdivW {i j : Int} (h1 : Ev X ρ ω a (rp i)) (h2 : Ev X ρ ω b (rp j)) (hc : CDivW i j) : Ev X ρ ω (.BinOp a .FloorDiv b pos) (rp (i / j)) := ev_op op_fdivW (jI hc) h1 h2
/-- max(l, default=d) -/
def maxDI (d : Int) : List Int → Int
  | [] => d
  | y :: ys => ys.foldl max y
def rMaxD (K : PySem.W.Frag) : List L2.V → List L2.V → Hp → VK → Prop := fun vs zs H Q => ∃ (l : Addr) (ns : List Int) (d : Int), vs = [.ref l] ∧ zs = [.int d] ∧ SqL K H l (ns.map L2.V.int) ∧
  Q (.int (maxDI d ns)) H
open PySem.Spec PyProof.Rows in
theorem reads_ints {h : Heap} : ∀ {ns : List Int} {its : List Value}, Vals (ns.map L2.V.int) its → ReadsAll h its (ns.map PyData.int) []
  | [], _, r => by cases r; exact .nil
  | n :: ns, _, r => by
    cases r with
    | cons r1 r2 =>
      obtain ⟨t, rfl⟩ := r1
      exact ReadsAll.cons (as := []) (bs := []) (Reads.int _ _) (reads_ints r2)
open PySem.Spec PyProof.Rows in
theorem cr_maxD {X : Cx} (hc : X.calm = true) (hu : X.A.units + 64 < cLine) : CallRK X (.builtin "max") ["default"] (rMaxD X.K) := by
  intro pins s σ H xs zs us ws Q I rx rz h
  obtain ⟨l, ns, d, rfl, rfl, hs, q⟩ := h
  obtain ⟨its, rv, hl, _⟩ := I.list hs
  rw [Vals.ref1 rx]
  obtain ⟨w, rfl, rw'⟩ := rz.one
  obtain ⟨t, rfl⟩ := rw'
  have rd : ReadsAll s.heap its (ns.map .int) [] := reads_ints rv
  have hal : PySem.W.AlikeAll (ns.map PyData.int) := by
    refine ⟨fun x hx y hy => ?_, fun x hx => ?_⟩
    · obtain ⟨i, _, rfl⟩ := List.mem_map.mp hx
      obtain ⟨j, _, rfl⟩ := List.mem_map.mp hy
      simp only [PySem.W.alike]
    · obtain ⟨i, _, rfl⟩ := List.mem_map.mp hx
      exact fun z => nomatch z
  have hdep : PyData.depthAll (ns.map PyData.int) ≤ 0 := depAll (α := Int) ns
  refine PySem.W.max_list_default (vs := its.toArray) (xs := ns.map PyData.int) (as := []) (I.ok.hd hc) hl.isList (by rw [List.toList_toArray]; exact rd) hal (by omega) (fun h0 h' tk hk => ?_) (fun y ys i v h' tk bs e hv hr hk => ?_)
  · have h0 : ns = [] := List.map_eq_nil_iff.mp h0
    subst h0
    exact ⟨.int d, H, I.kept hk, ⟨t, rfl⟩, q⟩
  · cases ns with
    | nil => cases e
    | cons n ns =>
      simp only [List.map_cons, List.cons.injEq] at e
      obtain ⟨e1, e2⟩ := e
      rw [← e1, ← e2, PySem.W.maxD_ints] at hr
      have hv2 : its[i]? = some v := by simpa using hv
      cases hr with
      | int i t => exact ⟨.int _, H, I.kept hk, ⟨t, rfl⟩, q⟩
theorem ev_maxD {ns : List Int} {d : Int} {kpos : Pos} (Bb : Bl X.mg) (hc : X.calm = true) (hu : X.A.units + 64 < cLine) (hg : Gl X "max") (h1 : EvC X ρ ω e (lsO ns)) (h2 : Ev X ρ ω b (rp d))
    (he : backTo pos (starEach [e] X.env) = (false, eval e X.env) :: backTo pos (starEach [] X.env) := by rfl) (hpl : (backTo pos (starEach [e] X.env)).any (·.1) = false := by exact se_any rfl) (hst : starEach [e] X.env = (false, eval e X.env) :: starEach [] X.env := by exact se_cons rfl) : Ev X ρ ω (.Call (.Name "max" p) [e] [⟨some "default", b, kpos⟩] pos) (rp (maxDI d ns)) := .mk fun B B0 σ H H0 S Q q =>
  wE_of (pe_callBK (cr_maxD hc hu) hg (Bb _ (by decide +kernel)) (by decide +kernel) (pa_cons pe_w pa_nil hst) (pk_cons pe_w pk_nil) (by decide +kernel) (by decide +kernel) he hpl) (h1.run B B0 σ H H0 S _ fun l ob H1 H01 n1 hl ⟨vs, e1, f1⟩ => by
    subst e1
    have e2 := ints_of f1
    subst e2
    refine h2.run B B0 σ H1 H01 (S.step n1) _ fun v2 H2 H02 n2 f2 => ?_
    have f2 : v2 = .int d := f2
    subst f2
    exact ⟨l, ns, d, rfl, rfl, SqL.of (n2.a _ _ hl), q _ H2 H02 (n1.trans n2) rfl⟩)
end
end DF

namespace DF
open R (rp)
open Dt (toD)
open PySem L2
/-! ### 27. a cell or None; dicts by ints as things -/
instance {α : Type} [R α] : R (Option α) := ⟨optM⟩
structure DI where
  kvs : ID
instance : R DI := ⟨fun d => obM (diO d.kvs)⟩
def toDo : Option Cell → PyData
  | none => .none
  | some c => toD c
theorem shaped_o (w : Option Cell) : SeqAt.shaped (toDo w) = true := by
  cases w with
  | none => rfl
  | some c => exact shaped_of c ⟨trivial, trivial⟩ (by decide)
def inO (w : Option Cell) (l : List Cell) : Bool := match w with | none => false | some c => decide (c ∈ l)
theorem any_opt (w : Option Cell) (l : List Cell) : ((l.map toD).any fun z => PyData.eqv z (toDo w)) = inO w l := by
  cases w with
  | some c => exact any_eqv c l
  | none =>
    show ((l.map toD).any fun z => PyData.eqv z .none) = false
    rw [List.any_eq_false]
    intro d hd
    obtain ⟨c, _, rfl⟩ := List.mem_map.mp hd
    show ¬ PyData.eqv (.tuple _) .none = true
    simp [PyData.eqv]
section
variable {X : Cx} {B B0 : Hp} {ρ ρ' : En} {ω ω' ω0 : Ow} {e a b c o tg iter : Expr} {es : List Expr} {P P1 P2 : MP} {φ ψ : MO} {φs : List MO} {pos p p2 apos pos2 tpos : Pos} {x y : Str} {rest body orelse sts : List Stmt} {D : Ends} {st : Stmt} {Ps Ps' : List MP} {α β ι : Type} {k : Nat} {C : Addr} {W : WX}
theorem evd_opt {w : Option Cell} (h : Ev X ρ ω e (rp w)) : EvD X ρ ω e (toDo w) := by
  cases w with
  | some c => exact Ev.evd (x := c) h
  | none => exact .mk fun B B0 σ H H0 S Q q => h.run B B0 σ H H0 S Q fun v H' H0' n f => q v H' H0' n (by
      have f : v = .non := f
      subst f
      exact .non)
theorem et_inO {w : Option Cell} {l : List Cell} (h1 : Ev X ρ ω a (rp w)) (h2 : EvD X ρ ω b (toD l)) (hu : X.A.units + 65 < cLine) (hm : behindInMarks .In b = false := by exact bm_plain rfl) : EvT X ρ ω (.Compare a [.In] [b] pos) (inO w l) :=
  (et_inD hu (evd_opt h1) h2 (shaped_o w) (shaped_of l (fun _ _ => ⟨trivial, trivial⟩) (by decide)) hm).cast (any_opt w l)
theorem et_niO {w : Option Cell} {l : List Cell} (h1 : Ev X ρ ω a (rp w)) (h2 : EvD X ρ ω b (toD l)) (hu : X.A.units + 65 < cLine) (hm : behindInMarks .NotIn b = false := by exact bm_plain rfl) : EvT X ρ ω (.Compare a [.NotIn] [b] pos) (!inO w l) :=
  (et_niD hu (evd_opt h1) h2 (shaped_o w) (shaped_of l (fun _ _ => ⟨trivial, trivial⟩) (by decide)) hm).cast (by rw [any_opt])
theorem ev_neO {w : Option Cell} {c : Cell} (h1 : Ev X ρ ω a (rp c)) (h2 : Ev X ρ ω b (rp w)) (hu : X.A.units + 64 < cLine) : Ev X ρ ω (.Compare a [.NotEq] [b] pos) (rp (!decide (some c = w))) :=
  (ev_neD hu (Ev.evd h1) (evd_opt h2) (shaped_of c ⟨trivial, trivial⟩ (by decide)) (shaped_o w)).cast (by
    congr 2
    cases w with
    | none =>
      show PyData.eqv (.tuple _) .none = _
      simp [PyData.eqv]
    | some d =>
      show PyData.eqv (toD c) (toD d) = _
      rw [Dt.eqd, Bool.eq_iff_iff, decide_eq_true_iff, decide_eq_true_iff, Option.some.injEq])
theorem m2_get {f : Expr} (h1 : attributeBase o "get" X.env (eval o X.env) = eval o X.env) (h2 : starEach [e, f] X.env = [(false, eval e X.env), (false, eval f X.env)]) (h3 : (apos.endLine == pos.line) = true) : M2 X o "get" apos e f pos := by
  refine ⟨h1, ?_, h3, ?_⟩
  · rw [h2]; rfl
  · rw [h2]; rfl
/-- d.get(k, i) -/
theorem ev_iget {kvs : ID} {i j : Int} (hu : X.A.units + 64 < cLine) (h1 : EvC X ρ ω o (diO kvs)) (h2 : Ev X ρ ω e (rp i)) (h3 : Ev X ρ ω b (rp j)) (hb : attributeBase o "get" X.env (eval o X.env) = eval o X.env := by exact ab_plain rfl) (hs : starEach [e, b] X.env = [(false, eval e X.env), (false, eval b X.env)] := by exact se_two rfl rfl) (hl : (apos.endLine == pos.line) = true := by rfl) :
    Ev X ρ ω (.Call (.Attribute o "get" apos) [e, b] [] pos) (rp ((iv? kvs i).getD j)) := ev_igetD (z := 0) hu h1 h2 h3 (m2_get hb hs hl)
/-- name = e, a name that a comprehension takes in -/
theorem G_asgC (nd : X.N.Nodup) (i : Nat) (h : Ev X ρ ω e P) (k : Go X B B0 (ρ.set i (some P)) ω rest D) (hi : X.N[i]? = some x := by rfl) (hx : Loc X.env.scope x := by first | exact Or.inl rfl | exact Or.inr rfl) (hf : X.fn x = true ∨ X.env.scope.names.lookup x = some .local := by first | exact Or.inl rfl | exact Or.inr rfl)
    (hs : swapsWithSole [.Name x p] e pos.line X.env = pure false := by rfl) (hw : swappedStores [.Name x p] e X.env = pure none := by exact ss_name)
    (h1 : (assignEach [.Name x p] X.env).map (·.2) = [assign (.Name x p) X.env] := by exact ae_name) : Go X B B0 ρ ω (.Assign [.Name x p] e pos :: rest) D := go_asg i h nd hi hx hf k hs hw h1
theorem evn_repW {Ps : List MP} {k : Int} (h1 : EvC X ρ ω a (lsM Ps)) (h2 : Ev X ρ ω b (rp k)) (hk : -100000 ≤ k ∧ k ≤ 100000) (hl : Ps.length ≤ 10) : EvN X ρ ω (.BinOp a .Mult b pos) (lsM (List.replicate k.toNat Ps).flatten) := .mk fun B B0 σ H H0 S Q q =>
  wE_of (pe_op op_rep pe_w pe_w) (h1.run B B0 σ H H0 S _ fun p o H1 H01 n1 hp ⟨vs, e1, f1⟩ => h2.run B B0 σ H1 H01 (S.step n1) _ fun v2 H2 H02 n2 f2 => by
    subst e1
    have g1 := Paired.length f1
    refine ⟨p, k, vs, rfl, f2, n2.a _ _ hp, by omega, by omega, ?_, fun l hz => ?_⟩
    · refine Nat.le_trans ?_ (show 10 * 100000 ≤ sizeLine by decide)
      exact Nat.mul_le_mul (by omega) (by omega)
    exact q l _ _ H02 ((n1.trans n2).trans (Nx.fresh n2.c hz)) (n1.a.free (n2.a.free hz)) (n2.c.free hz) upd_same ⟨_, rfl, paired_rep (f1.mono n2.b) _⟩)
/-- [x] * n -/
theorem evn_rep1 [R α] {z : α} {n : Int} (h1 : EvC X ρ ω a (lsO [z])) (h2 : Ev X ρ ω b (rp n)) (hn : -100000 ≤ n ∧ n ≤ 100000) : EvN X ρ ω (.BinOp a .Mult b pos) (lsO (List.replicate n.toNat z)) :=
  (evn_repW (Ps := [rp z]) h1 h2 hn (by show 1 ≤ 10; decide)).cast (by
    unfold lsO
    congr 1
    rw [List.map_replicate]
    induction n.toNat with
    | zero => rfl
    | succ m ih => rw [List.replicate_succ, List.replicate_succ, List.flatten_cons, ih]; rfl)
theorem rz_iget (hu : X.A.units + 64 < cLine) (h : Rz X W ρ ω o C) (hb : attributeBase o "get" X.env (eval o X.env) = eval o X.env := by exact ab_plain rfl) (hs : starEach [e, b] X.env = [(false, eval e X.env), (false, eval b X.env)] := by exact se_two rfl rfl) (hl : (apos.endLine == pos.line) = true := by rfl) :
    Rz X W ρ ω (.Call (.Attribute o "get" apos) [e, b] [] pos) C := .mk fun tk B B0 σ H H0 S Q q => wE_of (pe_dget2 (ty := wE X e) (tx := wE X b) (by omega) pe_w pe_w pe_w (m2_get hb hs hl)) (h.run tk B B0 σ H H0 S _ q)
theorem evn_d1 {i j : Int} {e2 : Expr} (h1 : Ev X ρ ω e (rp i)) (h2 : Ev X ρ ω e2 (rp j)) : EvN X ρ ω (.Dict [some e] [e2] pos) (diO [(i, j)]) :=
  evn_ddisp (evp_cons h1 h2 evp_nil) rfl rfl (by simp) (by show 1 ≤ 15; decide) (by show 1 ≤ 15; decide) rfl
theorem evn_d2 {i j i2 j2 : Int} {e2 e3 e4 : Expr} (hne : i ≠ i2) (h1 : Ev X ρ ω e (rp i)) (h2 : Ev X ρ ω e2 (rp j)) (h3 : Ev X ρ ω e3 (rp i2)) (h4 : Ev X ρ ω e4 (rp j2)) : EvN X ρ ω (.Dict [some e, some e3] [e2, e4] pos) (diO [(i, j), (i2, j2)]) :=
  evn_ddisp (evp_cons h1 h2 (evp_cons h3 h4 evp_nil)) rfl rfl (by simp) (by show 2 ≤ 15; decide) (by show 2 ≤ 15; decide) (by
    show putK (putK [] (Sum.inl i) (L2.V.int j)) (Sum.inl i2) (L2.V.int j2) = _
    have e1 : putK [] (Sum.inl i : Key) (L2.V.int j) = kI [(i, j)] := rfl
    rw [e1, kI_put]
    congr 1
    unfold ipI
    simp [hne])
end
end DF

namespace DF
open R (rp)
open Dt (toD)
open PySem L2
/-! ### 28. len of a tuple; min of two; great products -/
section
variable {X : Cx} {B B0 : Hp} {ρ ρ' : En} {ω ω' ω0 : Ow} {e a b c o tg iter : Expr} {es : List Expr} {P P1 P2 : MP} {φ ψ : MO} {φs : List MO} {pos p p2 apos pos2 tpos : Pos} {x y : Str} {rest body orelse sts : List Stmt} {D : Ends} {st : Stmt} {Ps Ps' : List MP} {α β ι : Type} {k : Nat} {C : Addr} {W : WX}
theorem ev_lenT (Bb : Bl X.mg) (hg : Gl X "len") (h : Ev X ρ ω e (tupM Ps)) (he : starEach [e] X.env = [(false, eval e X.env)] := by exact se_one rfl) : Ev X ρ ω (.Call (.Name "len" p) [e] [] pos) (rp (Ps.length : Int)) :=
  g_cb1 call_len_seq hg (Bb _ (by decide +kernel)) PySem.boot_len h.evg (by decide +kernel) (by decide +kernel) he fun v H H0 s ⟨p, vs, e1, hp, f⟩ Q q => by
    have hl := Paired.length f
    exact ⟨p, vs, by rw [e1], .inr (SqT.of (s _ _ hp)), by rw [hl]; exact q _ H H0 (Nx.refl s) rfl⟩
theorem ev_min2 {i j : Int} (Bb : Bl X.mg) (hc : X.calm = true) (hg : Gl X "min") (h1 : Ev X ρ ω a (rp i)) (h2 : Ev X ρ ω b (rp j)) (hs1 : starEach [a, b] X.env = (false, eval a X.env) :: starEach [b] X.env := by exact se_cons rfl) (hs2 : starEach [b] X.env = (false, eval b X.env) :: starEach [] X.env := by exact se_cons rfl)
    (hpl : (backTo pos (starEach [b] X.env)).any (·.1) = false := by exact se_any rfl) : Ev X ρ ω (.Call (.Name "min" p) [a, b] [] pos) (rp (if j < i then j else i)) := .mk fun B B0 σ H H0 S Q q =>
  wE_of (pe_callB (call_min2 hc) hg (Bb _ (by decide +kernel)) (by decide +kernel) (pa_cons pe_w (pa_cons pe_w pa_nil hs2) hs1) (by decide +kernel) (by decide +kernel) hs1 hpl) (h1.run B B0 σ H H0 S _ fun v1 H1 H01 n1 f1 => h2.run B B0 σ H1 H01 (S.step n1) _ fun v2 H2 H02 n2 f2 => by
    have f1 : v1 = .int i := f1
    have f2 : v2 = .int j := f2
    subst f1; subst f2
    exact ⟨i, j, rfl, q _ H2 H02 (n1.trans n2) rfl⟩)
theorem ev_mulW {i j : Int} (h1 : Ev X ρ ω a (rp i)) (h2 : Ev X ρ ω b (rp j)) (hc : CMulW i j) : Ev X ρ ω (.BinOp a .Mult b pos) (rp (i * j)) := ev_op op_mulW (jI hc) h1 h2
end
end DF

namespace DF
open R (rp)
open Dt (toD)
open PySem L2
/-! ### 29. a pair of new lists; zip -/
/-- a new pair of new things -/
def GoodP2 (φ1 φ2 : MO) (H H0 : Hp) (Q : VK) : Prop := ∀ (p a b : Addr) (H' H0' : Hp), Nx H H0 H' H0' → H0' p = some (.tup [.ref a, .ref b]) → Each3 H H0 H' H0' [a, b] [φ1, φ2] → Q (.ref p) H'
abbrev retP2 (φ1 φ2 : MO) : Hp → Hp → VK → XK → Prop := fun H H0 Q _ => GoodP2 φ1 φ2 H H0 Q
theorem GoodP2.step {φ1 φ2 : MO} {H H0 H1 H01 : Hp} {Q : VK} (n : Nx H H0 H1 H01) (g : GoodP2 φ1 φ2 H H0 Q) : GoodP2 φ1 φ2 H1 H01 Q := fun p a b H' H0' n' h1 h2 => g p a b H' H0' (n.trans n') h1 (Each3.base n.a h2)
/-- all of it stays from now on -/
theorem GoodP2.of {φ1 φ2 : MO} {H H0 : Hp} {Q : VK} (g : GoodV (tupM [obM φ1, obM φ2]) H H0 Q) : GoodP2 φ1 φ2 H H0 Q := fun p a b H' H0' n h1 h5 => by
  have key := h5.mem
  have s : Same H0' (fun x => if x ∈ [a, b] then H' x else H0' x) := fun c u e => by
    have : c ∉ [a, b] := fun hb => by rw [(key c hb).2.1] at e; cases e
    show (if c ∈ [a, b] then _ else _) = _
    rw [if_neg this]; exact e
  refine g _ H' (fun x => if x ∈ [a, b] then H' x else H0' x) ⟨n.a, n.b.trans s, fun c u e => ?_, fun c u e e0 => ?_, fun c vs e e0 => ?_⟩ ⟨p, _, rfl, s _ _ h1, ?_⟩
  · have e : (if c ∈ [a, b] then H' c else H0' c) = some u := e
    by_cases hb : c ∈ [a, b]
    · rw [if_pos hb] at e; exact e
    · rw [if_neg hb] at e; exact n.c _ _ e
  · show (if c ∈ [a, b] then H' c else H0' c) = none
    have : c ∉ [a, b] := fun hb => by rw [(key c hb).1] at e; cases e
    rw [if_neg this]; exact n.d _ _ e e0
  · show (if c ∈ [a, b] then H' c else H0' c) = _
    by_cases hb : c ∈ [a, b]
    · rw [if_pos hb]; exact e
    · rw [if_neg hb]; exact n.e _ _ e e0
  · exact Each3.all (ps' := [a, b]) s (fun q o hq hm => by show (if q ∈ [a, b] then H' q else H0' q) = _; rw [if_pos hm]; exact hq) (fun p hp => hp) h5
structure EvP2 (X : Cx) (ρ : En) (ω : Ow) (e : Expr) (φ1 φ2 : MO) : Prop where
  run : ∀ B B0 σ H H0, Sat B B0 ρ ω σ H H0 → ∀ Q : VK, GoodP2 φ1 φ2 H H0 Q → wE X e σ H Q
section
variable {X : Cx} {B B0 : Hp} {ρ ρ' : En} {ω ω' ω0 : Ow} {e e2 a b c o tg iter : Expr} {es : List Expr} {P P1 P2 : MP} {φ φ1 φ2 ψ : MO} {φs : List MO} {pos p p2 apos pos2 tpos : Pos} {x y : Str} {rest body orelse sts : List Stmt} {D : Ends} {st : Stmt} {Ps Ps' : List MP} {α β ι : Type} {k : Nat} {C : Addr} {W : WX}
/-- return (a, b), both new -/
theorem go_retP2 {kk : Nat} (h1 : EvN X ρ ω a φ1) (h2 : EvN X ρ ω b φ2) (k : GoodP2 φ1 φ2 B B0 D.rt) (hs1 : starEach [a, b] X.env = (false, eval a X.env) :: starEach [b] X.env := by exact se_cons rfl) (hs2 : starEach [b] X.env = (false, eval b X.env) :: starEach [] X.env := by exact se_cons rfl) :
    Go X B B0 ρ ω (.Return (some (.Tuple [a, b] kk pos2)) pos :: rest) D :=
  go_st (ps_ret (pe_tup (pa_cons pe_w (pa_cons pe_w pa_nil hs2) hs1))) fun B1 u σ H H0 S => h1.run B B1 σ H H0 S _ fun x1 o1 H1 H01 n1 q1 z1 w1 f1 => h2.run B B1 σ H1 H01 (S.step n1) _ fun x2 o2 H2 H02 n2 q2 z2 w2 f2 => ⟨by show 2 ≤ sizeLine; decide, fun p hp => by
    have n3 := Nx.new (o := .tup [.ref x1, .ref x2]) n2.c hp
    have h1p : x1 ≠ p := ne_of_none (n2.a _ _ w1) hp
    have h2p : x2 ≠ p := ne_of_none w2 hp
    have h12 : x1 ≠ x2 := ne_of_none w1 q2
    refine k p x1 x2 _ _ ((u _ _ S.nx).trans (n1.trans (n2.trans n3))) upd_same ⟨S.nx.a.free q1, ?_, ⟨o1, ?_, φ1.mono (n2.b.trans n3.b) f1⟩, by simpa using h12, S.nx.a.free (n1.a.free q2), ?_, ⟨o2, ?_, φ2.mono n3.b f2⟩, by simp, trivial⟩
    · rw [upd_ne h1p]; exact n2.d _ _ w1 z1
    · rw [upd_ne h1p]; exact n2.a _ _ w1
    · rw [upd_ne h2p]; exact z2
    · rw [upd_ne h2p]; exact w2⟩
theorem evp2_call {m : Pm ι} (G : Cal X.prog X.w X.K X.mg X.base x k (spOf m)) (i : ι) (hr : Room k X.A) (hg : Gl X x) (hdb : (x == ("__debug__" : Str)) = false) (ha : EvA X ρ ω (e :: es) (m.args i)) (hp : m.pre i) (j : ∀ H H0 Q, GoodP2 φ1 φ2 H H0 Q → m.ret i H H0 Q E0)
    (he : starEach (e :: es) X.env = (false, eval e X.env) :: starEach es X.env := by exact se_cons rfl) (hpl : (backTo pos (starEach es X.env)).any (·.1) = false := by exact se_any rfl) : EvP2 X ρ ω (.Call (.Name x p) (e :: es) [] pos) φ1 φ2 := .mk fun B B0 σ H H0 S Q q =>
  w_call G hr hg hdb E0 passL he hpl (ha.run B B0 σ H H0 S _ fun vs H1 H01 n1 f1 => ⟨i, H01, ⟨n1.c, (S.step n1).tp⟩, f1, hp, j H1 H01 Q (GoodP2.step n1 q)⟩)
/-- x = f(..): both are ours -/
theorem G_asgP2 (nd : X.N.Nodup) (i : Nat) (h : EvP2 X ρ ω e φ1 φ2) (k : ∀ (a b : Addr), Go X B B0 (ρ.set i (some (tupM [atM a, atM b]))) ((a, φ1) :: (b, φ2) :: ω) rest D) (hi : X.N[i]? = some x := by rfl) (hx : Loc X.env.scope x := by first | exact Or.inl rfl | exact Or.inr rfl) (hf : X.fn x = true ∨ X.env.scope.names.lookup x = some .local := by first | exact Or.inl rfl | exact Or.inr rfl)
    (hs : swapsWithSole [.Name x p] e pos.line X.env = pure false := by exact sw_sole rfl) (hw : swappedStores [.Name x p] e X.env = pure none := by exact ss_name)
    (h1 : (assignEach [.Name x p] X.env).map (·.2) = [assign (.Name x p) X.env] := by exact ae_name) : Go X B B0 ρ ω (.Assign [.Name x p] e pos :: rest) D :=
  go_st (ps_asg pe_w (pg_name nd hi hx hf) hs hw h1) fun B1 u σ H H0 S => h.run B B1 σ H H0 S _ fun q a b H' H0' n hq hE => by
    have S1 := Sat.owns S (S.step n) hE
    exact (k a b).run B1 u _ _ _ (S1.set i ⟨q, _, rfl, hq, .cons rfl (.cons rfl .nil)⟩)
/-- over zip(e, e2), both of one length -/
theorem it_zip [R α] [R β] {xs : List α} {ys : List β} {elts : List Expr} {kk : Nat} (Bb : Bl X.mg) (hg : Gl X "zip") (h1 : Ev X ρ ω e (rp xs)) (h2 : Ev X ρ ω e2 (rp ys)) (hl : xs.length = ys.length) (hs1 : starEach [e, e2] X.env = (false, eval e X.env) :: starEach [e2] X.env := by exact se_cons rfl) (hs2 : starEach [e2] X.env = (false, eval e2 X.env) :: starEach [] X.env := by exact se_cons rfl)
    (hpl : (backTo pos (starEach [e2] X.env)).any (·.1) = false := by exact se_any rfl) : Itr X ρ ω (.Tuple elts kk tpos) (.Call (.Name "zip" p) [e, e2] [] pos) ((xs.zip ys).map rp) := .mk fun B B0 σ H H0 S R r =>
  wI_of (pi_zip hg (Bb _ (by decide +kernel)) (pa_cons pe_w (pa_cons pe_w pa_nil hs2) hs1) hs1 hpl) (h1.run B B0 σ H H0 S _ fun v1 H1 H01 n1 ⟨q1, o1, e1, hq1, vs1, e1', f1⟩ => h2.run B B0 σ H1 H01 (S.step n1) _ fun v2 H2 H02 n2 ⟨q2, o2, e2, hq2, vs2, e2', f2⟩ => by
    subst e1; subst e1'; subst e2; subst e2'
    have hq1' := n2.b _ _ hq1
    have f1' := f1.mono n2.b
    refine ⟨q1, q2, vs1, vs2, rfl, SqL.of (n2.c _ _ hq1'), SqL.of (n2.c _ _ hq2), r _ H2 H02 (n1.trans n2) ?_⟩
    have l1 : vs1.length = xs.length := by rw [Paired.length f1, List.length_map]
    have l2 : vs2.length = ys.length := by rw [Paired.length f2, List.length_map]
    have hn : ((xs.zip ys).map rp).length = min vs1.length vs2.length := by rw [List.length_map, List.length_zip, l1, l2]
    refine ⟨_, _, walk_zip hn, fun H3 s => ⟨SqL.of (s _ _ hq1'), SqL.of (s _ _ hq2)⟩, fun i H3 v H3' hi s y => ?_⟩
    obtain ⟨T, x1, x2, e1, hT, e2, h1, h2⟩ := y
    subst e1; subst e2
    rw [hn] at hi
    have hi1 : i < xs.length := by omega
    have hi2 : i < ys.length := by omega
    obtain ⟨P1, hP1, hf1⟩ := Paired.getL f1' h1
    obtain ⟨P2, hP2, hf2⟩ := Paired.getL f2 h2
    have eP1 : P1 = rp xs[i] := by
      rw [List.getElem?_map, List.getElem?_eq_getElem hi1] at hP1
      exact (Option.some.inj hP1).symm
    have eP2 : P2 = rp ys[i] := by
      rw [List.getElem?_map, List.getElem?_eq_getElem hi2] at hP2
      exact (Option.some.inj hP2).symm
    subst eP1; subst eP2
    have hz : (xs.zip ys)[i]? = some (xs[i], ys[i]) := List.getElem?_zip_eq_some.mpr ⟨List.getElem?_eq_getElem hi1, List.getElem?_eq_getElem hi2⟩
    refine ⟨rp (xs[i], ys[i]), by rw [List.getElem?_map, hz]; rfl, fun H03 s0 s2 => ?_⟩
    have s3 : Same H02 (upd H03 T (.tup [x1, x2])) := s0.trans fun b u e => by rw [upd_ne (ne_of_none e (s2.free hT))]; exact e
    exact ⟨_, Nx.new s2 hT, T, _, rfl, upd_same, .cons ((rp xs[i]).mono s3 hf1) (.cons ((rp ys[i]).mono s3 hf2) .nil)⟩)
/-- x, y = e, e raises -/
theorem G_asgT_rz {g : TG} (h : Rz X W ρ ω e C) (tk : Takes X W) (hg : PG X tg g) (k : ∀ B1, Up B B0 B1 → ∀ σ H H0, Sat B B1 ρ ω σ H H0 → ∀ H', Same H H' → W (.ref C) none σ H') (hs : swapsWithSole [tg] e pos.line X.env = pure false := by exact sw_sole rfl) (hw : swappedStores [tg] e X.env = pure none := by exact ss_any rfl)
    (h1 : (assignEach [tg] X.env).map (·.2) = [assign tg X.env] := by first | exact ae_name | exact ae_tup) : Go X B B0 ρ ω (.Assign [tg] e pos :: rest) D := go_asg_rz h tk k hg hs hw h1
end
end DF

namespace DF
open R (rp)
open Dt (toD)
open PySem L2
/-! ### 30. over a tuple; try with one clause and no name -/
theorem walkM_tup {p : Addr} {vs : List L2.V} {H H0 : Hp} {K : PySem.W.Frag} {Ps : List MP} (hp : H p = some (.tup vs)) (f : All2 H0 vs Ps) : WalkM (Itt K p) Ps H H0 := by
  have hl := Paired.length f
  refine ⟨_, _, by rw [← hl]; exact walk_tup, fun H2 s => SqT.of (s _ _ hp), fun i H2 v H2' hi s y => ?_⟩
  obtain ⟨e1, e2⟩ := y
  subst e1
  obtain ⟨P, h1, h2⟩ := Paired.getL f e2
  exact ⟨P, h1, fun H02 s0 s2 => ⟨H02, Nx.refl s2, P.mono s0 h2⟩⟩
section
variable {X : Cx} {B B0 : Hp} {ρ ρ' : En} {ω ω' ω0 : Ow} {e e2 a b c o tg iter : Expr} {es : List Expr} {P P1 P2 : MP} {φ φ1 φ2 ψ : MO} {φs : List MO} {pos p p2 apos pos2 tpos : Pos} {x y : Str} {rest body orelse sts : List Stmt} {D : Ends} {st : Stmt} {Ps Ps' : List MP} {α β ι : Type} {k : Nat} {C : Addr} {W : WX}
theorem it_tupM (h : Ev X ρ ω e (tupM Ps)) : Itr X ρ ω tg e Ps := .mk fun B B0 σ H H0 S R r =>
  wI_of (pi_tup pe_w) (h.run B B0 σ H H0 S _ fun v H' H0' n ⟨p, vs, e1, hp, f⟩ => by
    exact ⟨p, e1, ⟨vs, SqT.of (n.c _ _ hp)⟩, r _ H' H0' n (walkM_tup hp f)⟩)
theorem go_tryO {cv : Value} {Cs : Addr → Prop} {b₀ : Stmt} {suite : List Stmt} {np pos' : Pos} {Wout : WX} (hs : X.stack = X.env :: X.outer) (hf : X.env.frame = some X.env.locals) (hc : Names X x cv) (hC : ∀ C, Cs C → PySem.W.exmOne X.K (.ref C) cv = some true) (tk : Takes X Wout)
    (hbody : ∀ (W : WX) (pn : List (Addr × Obj)) (xe : Value → Shared → Prop), Takes (X.tr pn xe) W → PassesOwn (model X.prog X.w) X.A X.env xe → Caught B B0 ρ ω Cs W → Go (X.tr pn xe) B B0 ρ ω body { nx := wB X rest D, rt := D.rt, bk := D.bk, ct := D.ct })
    (hsuite : ∀ C, Cs C → ∀ (ad : Addr) (oe : Obj) (pn : List (Addr × Obj)), Err1 C oe → Go (X.suite ad ((ad, oe) :: pn)) B B0 ρ ω (b₀ :: suite) { nx := wB X rest D, rt := D.rt, bk := D.bk, ct := D.ct }) :
    Go X B B0 ρ ω (.Try body [.ExceptHandler (some (.Name x np)) none (b₀ :: suite) pos'] [] [] pos :: rest) D :=
  go_st (ps_try_only (tb := fun W D σ H => ∀ pn xe, Takes (X.tr pn xe) W → PassesOwn (model X.prog X.w) X.A X.env xe → wB (X.tr pn xe) body D σ H)
      (ts := fun ad cls d D σ H => ∀ oe pn, Zc cls d oe → (∃ vs, oe.data = .fields vs) → wB (X.suite ad ((ad, oe) :: pn)) (b₀ :: suite) D σ H) hs hf hc tk
      (fun W pn xe tk po => ⟨fun pins s σ H D I h => h pn xe tk po pins s I⟩)
      (fun ad oe cls d pn hz hd => ⟨fun pins s σ H D I h => h oe pn hz hd pins s I⟩)) fun B1 u σ H H0 S => fun pn xe tk' po => (hbody _ pn xe tk' po (fun C hCs B2 u2 σ2 H2 H02 S2 H3 s3 =>
      ⟨true, hC C hCs, fun _ ad had oe pn2 hz hd => (hsuite C hCs ad oe pn2 ⟨hz, hd⟩).run B2 u2 _ H3 (addT H2 H3 H02) (S2.step (nx_addT S2.sub s3)), fun z => nomatch z⟩)).run B1 u σ H H0 S
end
end DF

namespace DF
open R (rp)
open Dt (toD)
open PySem L2
/-! ### 31. a game of ours that changes -/
/-- two things said of one value -/
def bothM (P Q : MP) : MP := ⟨fun H v => P.f H v ∧ Q.f H v, fun s h => ⟨P.mono s h.1, Q.mono s h.2⟩⟩
/-- the game's own object: its stones stand at sv, its dict at d -/
def ownG (sv : L2.V) (d : Addr) (g : GM) : MO := insM g.C (gameF (bothM (valM sv) (rp g.stones)) (atM d) g.h g.w g.lost)
theorem ownG_move {sv : L2.V} {d : Addr} {g : GM} {H H2 : Hp} {ob : HO} (f : (ownG sv d g).f H ob) (hs : (rp g.stones : MP).f H2 sv) : (ownG sv d g).f H2 ob := by
  obtain ⟨dx, vs, e1, e2, e3⟩ := f
  refine ⟨dx, vs, e1, e2, ?_⟩
  cases e3 with
  | cons a1 e3 =>
  cases e3 with
  | cons a2 e3 =>
  cases e3 with
  | cons a3 e3 =>
  cases e3 with
  | cons a4 e3 =>
  cases e3 with
  | cons a5 e3 =>
  cases e3
  have h3 : _ = sv := a3.2.1
  exact .cons a1 (.cons a2 (.cons ⟨a3.1, h3, by rw [h3]; exact hs⟩ (.cons a4 (.cons a5 .nil))))
theorem ownG_sv {sv : L2.V} {d : Addr} {g : GM} {H : Hp} {ob : HO} (f : (ownG sv d g).f H ob) : (rp g.stones : MP).f H sv := by
  obtain ⟨dx, vs, e1, e2, e3⟩ := f
  cases e3 with
  | cons a1 e3 =>
  cases e3 with
  | cons a2 e3 =>
  cases e3 with
  | cons a3 e3 =>
  have h3 : _ = sv := a3.2.1
  rw [← h3]; exact a3.2.2
theorem ownG_ins {sv : L2.V} {d : Addr} {g : GM} {H : Hp} {ob : HO} (f : (ownG sv d g).f H ob) : ∀ us, ob ≠ .tup us := fun us z => by
  obtain ⟨dx, vs, e1, _⟩ := f
  rw [e1] at z; cases z
theorem dcB_move {kvs : List (Cell × Bool)} {H H2 : Hp} {ob : HO} (f : (dcO kvs).f H ob) : (dcO kvs).f H2 ob := by
  obtain ⟨vs, e1, e2⟩ := f
  refine ⟨vs, e1, ?_⟩
  have e2 : Paired _ vs _ := e2
  exact paired_map.mpr (Paired.mapP (paired_map.mp e2) fun x y q => q)
theorem dcB_no {kvs : List (Cell × Bool)} {H : Hp} {ob : HO} (f : (dcO kvs).f H ob) : ∀ us, ob ≠ .tup us := fun us z => by
  obtain ⟨vs, e1, _⟩ := f
  rw [e1] at z; cases z
structure Mine (q d : Addr) (sv : L2.V) (g : GM) (Hx H : Hp) : Prop where
  o : ∃ ob, H q = some ob ∧ (ownG sv d g).f Hx ob
  k : ∃ od, H d = some od ∧ (dcO g.known).f Hx od
/-- a promise of a def that changes the game handed in first -/
structure Pg (ι : Type) where
  game : ι → GM
  args : ι → List MP
  pre : ι → Prop
  ret : ι → Addr → Addr → L2.V → Hp → Hp → VK → XK → Prop
def spG {ι : Type} (m : Pg ι) : Sp := fun vs H Q E => ∃ i q d sv us Hb, vs = .ref q :: us ∧ (Same Hb H ∧ Tp H Hb) ∧ (Hb q = none ∧ Hb d = none ∧ q ≠ d) ∧ Mine q d sv (m.game i) Hb H ∧ All2 Hb us (m.args i) ∧ m.pre i ∧ m.ret i q d sv Hb H Q E
abbrev retGV (g' : GM) (v : L2.V) : Addr → Addr → L2.V → Hp → Hp → VK → XK → Prop := fun q d sv Hb _ Q _ => ∀ H', Same Hb H' → Mine q d sv g' Hb H' → Q v H'
abbrev retGL (g' : GM) (cs : List Cell) : Addr → Addr → L2.V → Hp → Hp → VK → XK → Prop := fun q d sv Hb _ Q _ => ∀ p vs H', Same Hb H' → Mine q d sv g' Hb H' → Hb p = none → p ≠ q → p ≠ d → H' p = some (.lst vs) → All2 H' vs (cs.map rp) → Q (.ref p) H'
theorem sat_game {ι : Type} {m : Pg ι} {N : List Str} {n : Nat} {i : ι} {q d : Addr} {sv : L2.V} {us : List L2.V} {H Hb : Hp} (hs : Same Hb H) (ht : Tp H Hb) (hn : Hb q = none ∧ Hb d = none ∧ q ≠ d) (hm : Mine q d sv (m.game i) Hb H) (ha : All2 Hb us (m.args i)) (hl : (m.args i).length = n) :
    Sat Hb Hb (some (atM q) :: (m.args i).map some ++ List.replicate (N.length - (n + 1)) none) [(q, ownG sv d (m.game i)), (d, dcO (m.game i).known)] (L2.start N (.ref q :: us)) H Hb := by
  have all : All2 Hb (L2.V.ref q :: us) (atM q :: m.args i) := .cons rfl ha
  have S0 := sat_start (N := N) (n := n + 1) (Same.refl Hb) (fun _ _ e => e) all (by rw [List.length_cons, hl])
  obtain ⟨ob, h1, h2⟩ := hm.o
  obtain ⟨od, h3, h4⟩ := hm.k
  refine ⟨⟨hs, Same.refl _, hs, fun _ _ _ z => z, fun x vs e _ => ht x vs e⟩, S0.len, S0.sl, fun a φ' hm => ?_, by simpa using hn.2.2, ht⟩
  simp only [List.mem_cons, List.not_mem_nil, or_false] at hm
  rcases hm with e | e
  · cases e; exact ⟨hn.1, hn.1, ob, h1, h2⟩
  · cases e; exact ⟨hn.2.1, hn.2.1, od, h3, h4⟩
section
variable {P : Program} {w : World} {K : PySem.W.Frag} {mg : Str → Option Value} {base : Heap} {ι : Type} {m : Pg ι} {x qual p0 : Str} {st : Stmt} {N ps : List Str} {k : Nat} {C : Addr}
theorem fng_go {f : Addr} {fd : FuncData} (F : Fun K x qual st f fd) (S : FnScope N (p0 :: ps) (defScope st)) (hlen : ∀ i, (m.args i).length = ps.length)
    (body : ∀ (cdv : Value) (A : Around) (outer : List Env) (s : Shared) (H Hb : Hp) (Q : VK) (E : XK) (i : ι) (q d : Addr) (sv : L2.V), Room k (fX P w K mg base N qual st f cdv A outer s H E).A → m.pre i → m.ret i q d sv Hb H Q E → Same Hb H → Hb q = none ∧ Hb d = none ∧ q ≠ d → (rp (m.game i).stones : MP).f Hb sv →
      Go (fX P w K mg base N qual st f cdv A outer s H E) Hb Hb (some (atM q) :: (m.args i).map some ++ List.replicate (N.length - (ps.length + 1)) none) [(q, ownG sv d (m.game i)), (d, dcO (m.game i).known)] (defBody st) { nx := fun _ H' => Q .non H', rt := Q }) : FnOk P w K mg base (L2.CX P w) (k + 1) f fd (p0 :: ps) (spG m) := by
  refine F.okX S (fun vs H Q E h => ?_) fun cdv A outer s H vs Q E hr h => ?_
  · obtain ⟨i, q, d, sv, us, Hb, rfl, _, _, _, ha, _⟩ := h
    rw [List.length_cons, List.length_cons, Paired.length ha, hlen]
  · obtain ⟨i, q, d, sv, us, Hb, rfl, ⟨hs, ht⟩, hn, hm, ha, hp, hret⟩ := h
    refine ⟨_, pss_w, (body cdv A outer s H Hb Q E i q d sv hr hp hret hs hn ?_).run Hb Up.refl _ H Hb (sat_game hs ht hn hm ha (hlen i))⟩
    obtain ⟨ob, _, h2⟩ := hm.o
    exact ownG_sv h2
theorem calMG_go {qx : Str} (c : ClsAt K mg qx C) (d : MethAt K C x qual st (p0 :: ps)) (S : FnScope N (p0 :: ps) (defScope st)) (hlen : ∀ i, (m.args i).length = ps.length)
    (body : ∀ (f : Addr) (cdv : Value) (A : Around) (outer : List Env) (s : Shared) (H Hb : Hp) (Q : VK) (E : XK) (i : ι) (q d : Addr) (sv : L2.V), Room k (fX P w K mg base N qual st f cdv A outer s H E).A → m.pre i → m.ret i q d sv Hb H Q E → Same Hb H → Hb q = none ∧ Hb d = none ∧ q ≠ d → (rp (m.game i).stones : MP).f Hb sv →
      Go (fX P w K mg base N qual st f cdv A outer s H E) Hb Hb (some (atM q) :: (m.args i).map some ++ List.replicate (N.length - (ps.length + 1)) none) [(q, ownG sv d (m.game i)), (d, dcO (m.game i).known)] (defBody st) { nx := fun _ H' => Q .non H', rt := Q }) : CalM P w K mg base C x (k + 1) (spG m) := by
  obtain ⟨f, fd, F, h1, h2, h3, h4⟩ := d.ex
  exact ⟨c.cl, f, fd, _, fng_go F S hlen (body f), ⟨h1, h2, h3⟩, h4⟩
theorem calG_go (d : DefAt K mg x st (p0 :: ps)) (S : FnScope N (p0 :: ps) (defScope st)) (hlen : ∀ i, (m.args i).length = ps.length)
    (body : ∀ (f : Addr) (cdv : Value) (A : Around) (outer : List Env) (s : Shared) (H Hb : Hp) (Q : VK) (E : XK) (i : ι) (q d : Addr) (sv : L2.V), Room k (fX P w K mg base N x st f cdv A outer s H E).A → m.pre i → m.ret i q d sv Hb H Q E → Same Hb H → Hb q = none ∧ Hb d = none ∧ q ≠ d → (rp (m.game i).stones : MP).f Hb sv →
      Go (fX P w K mg base N x st f cdv A outer s H E) Hb Hb (some (atM q) :: (m.args i).map some ++ List.replicate (N.length - (ps.length + 1)) none) [(q, ownG sv d (m.game i)), (d, dcO (m.game i).known)] (defBody st) { nx := fun _ H' => Q .non H', rt := Q }) : Cal P w K mg base x (k + 1) (spG m) := by
  obtain ⟨f, fd, F, h1, h2, h3⟩ := d.ex
  exact ⟨f, fd, _, fng_go F S hlen (body f), h1, h2, h3⟩
end
/-- all but two -/
def cut2 (q d : Addr) (H : Hp) : Hp := fun x => if x = q ∨ x = d then none else H x
theorem cut2_some {q d x : Addr} {H : Hp} {o : HO} (e : cut2 q d H x = some o) : x ≠ q ∧ x ≠ d ∧ H x = some o := by
  unfold cut2 at e
  split at e
  · cases e
  · rename_i h; exact ⟨fun z => h (.inl z), fun z => h (.inr z), e⟩
theorem cut2_of {q d x : Addr} {H : Hp} (h1 : x ≠ q) (h2 : x ≠ d) : cut2 q d H x = H x := if_neg fun z => z.elim h1 h2
theorem cut2_q {q d : Addr} {H : Hp} : cut2 q d H q = none := if_pos (.inl rfl)
theorem cut2_d {q d : Addr} {H : Hp} : cut2 q d H d = none := if_pos (.inr rfl)
theorem cut2_sub {q d : Addr} {H : Hp} : Same (cut2 q d H) H := fun x o e => (cut2_some e).2.2
theorem cut2_keep {q d : Addr} {H H0 : Hp} (s : Same H0 H) (h1 : H0 q = none) (h2 : H0 d = none) : Same H0 (cut2 q d H) := fun x o e => by
  rw [cut2_of (ne_of_none e h1) (ne_of_none e h2)]; exact s _ _ e
theorem set_fst {ω : Ow} {a : Nat} {q : Addr} {φ φ' : MO} (h : ω[a]? = some (q, φ)) : (ω.set a (q, φ')).map (·.1) = ω.map (·.1) := by
  apply List.ext_getElem?
  intro k
  rw [List.getElem?_map, List.getElem?_map]
  by_cases hk : a = k
  · subst hk
    rw [List.getElem?_set_self (List.getElem?_eq_some_iff.mp h).1, h]; rfl
  · rw [List.getElem?_set_ne hk]
theorem Sat.game {B B0 H H0 H' : Hp} {ρ : En} {ω : Ow} {σ : L2.St} (S : Sat B B0 ρ ω σ H H0) {a b : Nat} {q d : Addr} {sv : L2.V} {g g' : GM} (h1 : ω[a]? = some (q, ownG sv d g)) (h2 : ω[b]? = some (d, dcO g.known)) (hab : a ≠ b) (hg : g'.stones = g.stones) (s : Same (cut2 q d H) H') (M : Mine q d sv g' (cut2 q d H) H') :
    Sat B B0 ρ ((ω.set a (q, ownG sv d g')).set b (d, dcO g'.known)) σ H' (addT H H' H0) ∧ Same H0 (addT H H' H0) := by
  obtain ⟨q1, q2, oq, q3, q4⟩ := S.ow q _ (List.mem_of_getElem? h1)
  obtain ⟨d1, d2, od, d3, d4⟩ := S.ow d _ (List.mem_of_getElem? h2)
  obtain ⟨o1, m1, m2⟩ := M.o
  obtain ⟨o2, m3, m4⟩ := M.k
  have hqd : q ≠ d := fun e => by
    have e1 : (ω.map (·.1))[a]? = some q := by rw [List.getElem?_map, h1]; rfl
    have e2 : (ω.map (·.1))[b]? = some q := by rw [List.getElem?_map, h2, e]; rfl
    exact hab (nd_ix S.nd e1 e2)
  have s0 : Same H0 (addT H H' H0) := fun x o e => by unfold addT; rw [e]; rfl
  have at0 : ∀ {x o}, H x = some o → H0 x = none → addT H H' H0 x = none := fun {x o} e e0 => by unfold addT; rw [e0, e]; rfl
  have tupn : ∀ x vs, H' x = some (.tup vs) → x ≠ q ∧ x ≠ d := fun x vs e => ⟨fun z => by subst z; rw [m1] at e; cases e; exact ownG_ins m2 _ rfl, fun z => by subst z; rw [m3] at e; cases e; exact dcB_no m4 _ rfl⟩
  have tp : Tp H' (addT H H' H0) := fun x vs e => by
    obtain ⟨n1, n2⟩ := tupn x vs e
    cases hx : H x with
    | none =>
      unfold addT
      rw [S.sub.free hx, hx, e]; rfl
    | some o =>
      have := s x o (by rw [cut2_of n1 n2]; exact hx)
      rw [e] at this
      cases this
      exact s0 _ _ (S.tp _ _ hx)
  refine ⟨⟨⟨fun x o e => ?_, S.nx.b.trans s0, fun x o e => ?_, fun x o e e0 => ?_, fun x vs e e0 => tp x vs e⟩, S.len, fun i P hi => ?_, fun x φ hm => ?_, ?_, tp⟩, s0⟩
  · exact s x o (by rw [cut2_of (ne_of_none e q1) (ne_of_none e d1)]; exact S.nx.a _ _ e)
  · unfold addT at e
    cases hx : H0 x with
    | some o' =>
      rw [hx] at e
      cases e
      exact s x o (by rw [cut2_of (ne_of_none hx q2) (ne_of_none hx d2)]; exact S.sub _ _ hx)
    | none =>
      rw [hx] at e
      cases h3 : H x with
      | some o' => rw [h3] at e; cases e
      | none =>
        rw [h3] at e
        cases h4 : H' x with
        | none => rw [h4] at e; cases e
        | some o' =>
          rw [h4] at e
          cases o' <;> first | (cases e; done) | (cases e; rfl)
  · exact at0 (S.nx.a _ _ e) (S.nx.d _ _ e e0)
  · obtain ⟨v, e1, e2⟩ := S.sl i P hi
    exact ⟨v, e1, P.mono s0 e2⟩
  · obtain ⟨k, hk⟩ := List.getElem?_of_mem hm
    by_cases hb : b = k
    · subst hb
      rw [List.getElem?_set_self (by rw [List.length_set]; exact (List.getElem?_eq_some_iff.mp h2).1)] at hk
      cases hk
      exact ⟨d1, at0 d3 d2, o2, m3, dcB_move m4⟩
    rw [List.getElem?_set_ne hb] at hk
    by_cases ha : a = k
    · subst ha
      rw [List.getElem?_set_self (List.getElem?_eq_some_iff.mp h1).1] at hk
      cases hk
      exact ⟨q1, at0 q3 q2, o1, m1, ownG_move m2 (by rw [hg]; exact (rp g.stones : MP).mono s0 (ownG_sv q4))⟩
    rw [List.getElem?_set_ne ha] at hk
    obtain ⟨x1, x2, o, x3, x4⟩ := S.ow x φ (List.mem_of_getElem? hk)
    have e0 : (ω.map (·.1))[k]? = some x := by rw [List.getElem?_map, hk]; rfl
    have nq : x ≠ q := fun z => by
      subst z
      exact ha (nd_ix S.nd (by rw [List.getElem?_map, h1]; rfl) e0)
    have ndd : x ≠ d := fun z => by
      subst z
      exact hb (nd_ix S.nd (by rw [List.getElem?_map, h2]; rfl) e0)
    exact ⟨x1, at0 x3 x2, o, s x o (by rw [cut2_of nq ndd]; exact x3), φ.mono s0 x4⟩
  · rw [set_fst (φ := dcO g.known) (by rw [List.getElem?_set_ne hab]; exact h2), set_fst h1]; exact S.nd
/-- an expression that changes what is ours -/
structure EvM (X : Cx) (ρ : En) (ω : Ow) (e : Expr) (ω' : Ow) (P : MP) : Prop where
  run : ∀ B B0 σ H H0, Sat B B0 ρ ω σ H H0 → ∀ Q : VK, (∀ v H' H0', Same H0 H0' → Sat B B0 ρ ω' σ H' H0' → P.f H0' v → Q v H') → wE X e σ H Q
structure EvMN (X : Cx) (ρ : En) (ω : Ow) (e : Expr) (ω' : Ow) (φ : MO) : Prop where
  run : ∀ B B0 σ H H0, Sat B B0 ρ ω σ H H0 → ∀ Q : VK, (∀ p H' H0', Same H0 H0' → Sat B B0 ρ ((p, φ) :: ω') σ H' H0' → Q (.ref p) H') → wE X e σ H Q
/-- a new game of ours -/
structure EvGm (X : Cx) (ρ : En) (ω : Ow) (e : Expr) (g : GM) : Prop where
  run : ∀ B B0 σ H H0, Sat B B0 ρ ω σ H H0 → ∀ Q : VK, (∀ q d sv H' H0', Same H0 H0' → Sat B B0 ρ ((q, ownG sv d g) :: (d, dcO g.known) :: ω) σ H' H0' → Q (.ref q) H') → wE X e σ H Q
section
variable {X : Cx} {B B0 : Hp} {ρ ρ' : En} {ω ω' ω0 : Ow} {e e2 a b c o tg iter : Expr} {es : List Expr} {P P1 P2 : MP} {φ φ1 φ2 ψ : MO} {φs : List MO} {pos p p2 apos pos2 tpos : Pos} {x y : Str} {rest body orelse sts : List Stmt} {D : Ends} {st : Stmt} {Ps Ps' : List MP} {α β ι : Type} {k : Nat} {C : Addr} {W : WX}
theorem evh_gameS {q d : Addr} {sv : L2.V} {g : GM} (h : Ev X ρ ω e (atM q)) (h1 : (q, ownG sv d g) ∈ ω) (h2 : (d, dcO g.known) ∈ ω) : EvH X ρ ω e (rp g) := .mk fun B B0 σ H H0 S Q k => h.run B B0 σ H H0 S _ fun v H' H0' n f => by
  have f : v = .ref q := f
  subst f
  have S1 := S.step n
  obtain ⟨_, _, oq, a1, dx, vs, e1, e2, e3⟩ := S1.ow q _ h1
  obtain ⟨_, _, od, b1, b2⟩ := S1.ow d _ h2
  refine k _ H' H0' n ⟨q, oq, rfl, a1, dx, vs, e1, e2, ?_⟩
  have s := S1.sub
  cases e3 with
  | cons c1 e3 =>
  cases e3 with
  | cons c2 e3 =>
  cases e3 with
  | cons c3 e3 =>
  cases e3 with
  | cons c4 e3 =>
  cases e3 with
  | cons c5 e3 =>
  cases e3
  exact .cons ⟨c1.1, c1.2⟩ (.cons ⟨c2.1, c2.2⟩ (.cons ⟨c3.1, (rp g.stones : MP).mono s c3.2.2⟩ (.cons ⟨c4.1, d, od, c4.2, b1, (dcO g.known).mono s b2⟩ (.cons ⟨c5.1, c5.2⟩ .nil))))
theorem eac_consH (h : EvH X ρ ω e P) (hr : EvAC X ρ ω es Ps) (hs : starEach (e :: es) X.env = (false, eval e X.env) :: starEach es X.env := by exact se_cons rfl) : EvAC X ρ ω (e :: es) (P :: Ps) := .mk fun B B0 σ H H0 S Q q =>
  wA_of (pa_cons pe_w pa_w hs) (h.run B B0 σ H H0 S _ fun v H1 H01 n1 f1 => hr.run B B0 σ H1 H01 (S.step n1) _ fun vs H2 H02 n2 f2 => q (v :: vs) H2 H02 (n1.trans n2) (.cons (P.mono n2.a f1) f2))
/-- o.x(e, ..), at the caller's slots -/
theorem pe_methSl {f : Addr} {fd : FuncData} {ps : List Str} {sp : Sp} {E : L2.St → XK} {ta : TE} {t : TA} {pl : Sem Bool} (he : PE X o ta) (c : Cls X.K C) (hm : Meth X.K C x f) (F : FnOk X.prog X.w X.K X.mg X.base (L2.CX X.prog X.w) k f fd ps sp) (hr : Room k X.A) (hb : Binds X.K fd ps []) (hx : ∀ σ, PassesAt (L2.CX X.prog X.w) X σ (E σ)) (ha : PA X (e :: es) t)
    (hst : starEach (e :: es) X.env = (false, eval e X.env) :: starEach es X.env) (hpl : (backTo pos (starEach es X.env)).any (·.1) = false)
    (ht : eval (.Call (.Attribute o x apos) (e :: es) [] pos) X.env = (do
      let ov ← eval o X.env
      standAt apos.atName
      let (f, first) ← holding [ov] (getMethod ov x pl)
      callWith pos f first (backTo pos (starEach (e :: es) X.env)) (backToKw pos (keywordEach [] X.env)))) :
    PE X (.Call (.Attribute o x apos) (e :: es) [] pos) (fun σ H Q => ta σ H fun v H1 => ∃ a dx fs, v = .ref a ∧ H1 a = some (.ins C dx fs) ∧ fs.lookup x = none ∧ t σ H1 fun vs H2 => sp (v :: vs) H2 Q (E σ)) := by
  refine ⟨fun pins s σ H Q I h => ?_⟩
  refine PySem.W.methodCall_KW (pl := pl) (thn (he.run pins s σ H _ I h) fun u s1 ⟨v, H1, I1, rx, a, dx, fs, ex, ea, l, q⟩ => ?_) ht
  subst ex
  obtain rfl : u = Value.ref a := rx
  refine getmeth_ok I1 ea c hm l ?_
  refine PySem.W.callWith_K (first := [.ref a]) (h₀ := X.base) I1.ok.mod.kin hm.kp (thn (ha.run pos pins s1 σ H1 _ I1 q) fun us s2 ⟨vs, H2, I2, r, q2⟩ => ⟨I2.kIn, ?_⟩) hst hpl
  exact run_fnS (us := .ref a :: us) (vs := .ref a :: vs) F hr hb (hx σ) I2 (.cons rfl r) q2
/-- a method raises, self and all as they stand -/
theorem rz_methH {m : Pm ι} {fl : List (Str × MP)} {D' : Addr} (G : CalM X.prog X.w X.K X.mg X.base C x k (spOf m)) (i : ι) (hr : Room k X.A) (h : EvH X ρ ω o (obM (insM C fl))) (hl : fl.lookup x = none) (ha : EvAC X ρ ω (e :: es) Ps) (hi : m.args i = obM (insM C fl) :: Ps) (hp : m.pre i) (j : ∀ H H0 Q E, (∀ H', Same H H' → E (.ref D') none H') → m.ret i H H0 Q E) {pl : Sem Bool}
    (hst : starEach (e :: es) X.env = (false, eval e X.env) :: starEach es X.env := by exact se_cons rfl) (hpl : (backTo pos (starEach es X.env)).any (·.1) = false := by exact se_any rfl)
    (ht : eval (.Call (.Attribute o x apos) (e :: es) [] pos) X.env = (do
      let ov ← eval o X.env
      standAt apos.atName
      let (f, first) ← holding [ov] (getMethod ov x pl)
      callWith pos f first (backTo pos (starEach (e :: es) X.env)) (backToKw pos (keywordEach [] X.env))) := by exact ev_attr rfl rfl (by decide) rfl) : Rz X W ρ ω (.Call (.Attribute o x apos) (e :: es) [] pos) D' := .mk fun tk B B0 σ H H0 S Q q => by
  obtain ⟨f, fd, ps, F, hm, hb⟩ := G.ex
  refine wE_of (pe_methSl (E := WE W) pe_w G.cl hm F hr hb (fun σ => passAt tk σ) pa_w hst hpl ht) (h.run B B0 σ H H0 S _ fun v H1 H01 n1 f0 => ?_)
  obtain ⟨r, ob, rfl, hr0, dx, vs, rfl, hlen, fs⟩ := id f0
  refine ⟨r, dx, vs, rfl, hr0, (look_ins fs).2 hl, ha.run B B0 σ H1 H01 (S.step n1) _ fun us H2 H02 n2 f2 => ?_⟩
  exact ⟨i, H2, ⟨Same.refl _, fun _ _ e => e⟩, by rw [hi]; exact .cons ((obM (insM C fl)).mono n2.a f0) f2, hp, j H2 H2 Q _ fun H' s' => q H' ((n1.a.trans n2.a).trans s')⟩
/-- what a call hands a def that changes the game -/
theorem call_game {m : Pg ι} {i : ι} {g : GM} {n1 n2 : Nat} {q d : Addr} {sv : L2.V} {H H0 : Hp} {σ : L2.St} {us : List L2.V} {Q : VK} {E : XK} (S : Sat B B0 ρ ω σ H H0) (hgi : m.game i = g) (h1 : ω[n1]? = some (q, ownG sv d g)) (h2 : ω[n2]? = some (d, dcO g.known)) (hab : n1 ≠ n2) (f : All2 H0 us (m.args i)) (hp : m.pre i) (hret : m.ret i q d sv (cut2 q d H) H Q E) : spG m (.ref q :: us) H Q E := by
  obtain ⟨q1, q2, oq, q3, q4⟩ := S.ow q _ (List.mem_of_getElem? h1)
  obtain ⟨d1, d2, od, d3, d4⟩ := S.ow d _ (List.mem_of_getElem? h2)
  have hqd : q ≠ d := fun e => by
    have e1 : (ω.map (·.1))[n1]? = some q := by rw [List.getElem?_map, h1]; rfl
    have e2 : (ω.map (·.1))[n2]? = some q := by rw [List.getElem?_map, h2, e]; rfl
    exact hab (nd_ix S.nd e1 e2)
  have sc := cut2_keep S.sub q2 d2
  refine ⟨i, q, d, sv, us, cut2 q d H, rfl, ⟨cut2_sub, fun x vs e => ?_⟩, ⟨cut2_q, cut2_d, hqd⟩, ⟨⟨oq, q3, by rw [hgi]; exact (ownG sv d g).mono sc q4⟩, od, d3, by rw [hgi]; exact (dcO g.known).mono sc d4⟩, f.mono sc, hp, hret⟩
  rw [cut2_of (fun z => by subst z; rw [q3] at e; cases e; exact ownG_ins q4 _ rfl) (fun z => by subst z; rw [d3] at e; cases e; exact dcB_no d4 _ rfl)]
  exact e
/-- what it hands back -/
theorem back_gv {g g' : GM} {n1 n2 : Nat} {q d : Addr} {sv v : L2.V} {H H0 : Hp} {σ : L2.St} {Q : VK} {E : XK} (S : Sat B B0 ρ ω σ H H0) (h1 : ω[n1]? = some (q, ownG sv d g)) (h2 : ω[n2]? = some (d, dcO g.known)) (hab : n1 ≠ n2) (hg : g'.stones = g.stones)
    (hQ : ∀ H' H0', Same H0 H0' → Sat B B0 ρ ((ω.set n1 (q, ownG sv d g')).set n2 (d, dcO g'.known)) σ H' H0' → Q v H') : retGV g' v q d sv (cut2 q d H) H Q E := fun H' s M => by
  obtain ⟨S1, s1⟩ := S.game h1 h2 hab hg s M
  exact hQ _ _ s1 S1
theorem tups_move {H H2 : Hp} {cs : List Cell} {vs : List L2.V} (t : Tp H H2) (f : All2 H vs (cs.map rp)) : All2 H2 vs (cs.map rp) := by
  refine paired_map.mpr (Paired.mapP (paired_map.mp f) fun v c f => ?_)
  obtain ⟨b, us, e5, hb, f5⟩ := f
  refine ⟨b, us, e5, t _ _ hb, ?_⟩
  cases f5 with
  | cons a1 f5 =>
  cases f5 with
  | cons a2 f5 =>
  cases f5
  exact .cons a1 (.cons a2 .nil)
theorem back_gl {g g' : GM} {n1 n2 : Nat} {q d : Addr} {sv : L2.V} {cs : List Cell} {H H0 : Hp} {σ : L2.St} {Q : VK} {E : XK} (S : Sat B B0 ρ ω σ H H0) (h1 : ω[n1]? = some (q, ownG sv d g)) (h2 : ω[n2]? = some (d, dcO g.known)) (hab : n1 ≠ n2) (hg : g'.stones = g.stones)
    (hQ : ∀ p H' H0', Same H0 H0' → Sat B B0 ρ ((p, lsO cs) :: (ω.set n1 (q, ownG sv d g')).set n2 (d, dcO g'.known)) σ H' H0' → Q (.ref p) H') : retGL g' cs q d sv (cut2 q d H) H Q E := fun p vs H' s M hp hpq hpd hv f => by
  obtain ⟨S1, s1⟩ := S.game h1 h2 hab hg s M
  have hpH : H p = none := by rw [cut2_of hpq hpd] at hp; exact hp
  refine hQ p H' _ s1 (S1.own (o := .lst vs) (fun x ψ hm => ?_) (S.nx.a.free hpH) ?_ hv ⟨vs, rfl, tups_move S1.tp f⟩)
  · obtain ⟨k', hk⟩ := List.getElem?_of_mem hm
    by_cases hb : n2 = k'
    · subst hb
      rw [List.getElem?_set_self (by rw [List.length_set]; exact (List.getElem?_eq_some_iff.mp h2).1)] at hk
      cases hk
      exact hpd.symm
    rw [List.getElem?_set_ne hb] at hk
    by_cases ha : n1 = k'
    · subst ha
      rw [List.getElem?_set_self (List.getElem?_eq_some_iff.mp h1).1] at hk
      cases hk
      exact hpq.symm
    rw [List.getElem?_set_ne ha] at hk
    obtain ⟨_, _, o, x3, _⟩ := S.ow x ψ (List.mem_of_getElem? hk)
    exact ne_of_none x3 hpH
  · cases e : addT H H' H0 p with
    | none => rfl
    | some o =>
      unfold addT at e
      rw [S.sub.free hpH, hpH, hv] at e
      cases e
theorem evm_meth {m : Pg ι} {g g' : GM} {q d : Addr} {sv v : L2.V} (G : CalM X.prog X.w X.K X.mg X.base g.C x k (spG m)) (i : ι) (n1 n2 : Nat) (hr : Room k X.A) (ho : Ev X ρ ω o (atM q)) (h1 : ω[n1]? = some (q, ownG sv d g)) (h2 : ω[n2]? = some (d, dcO g.known)) (hab : n1 ≠ n2) (hgi : m.game i = g) (hg : g'.stones = g.stones)
    (hl : (x == ("height" : Str)) = false ∧ (x == ("width" : Str)) = false ∧ (x == ("stones" : Str)) = false ∧ (x == ("known" : Str)) = false ∧ (x == ("lost" : Str)) = false) (ha : EvA X ρ ω (e :: es) (m.args i)) (hp : m.pre i) (j : ∀ q d sv Hb H Q E, retGV g' v q d sv Hb H Q E → m.ret i q d sv Hb H Q E) {pl : Sem Bool}
    (hst : starEach (e :: es) X.env = (false, eval e X.env) :: starEach es X.env := by exact se_cons rfl) (hpl : (backTo pos (starEach es X.env)).any (·.1) = false := by exact se_any rfl)
    (ht : eval (.Call (.Attribute o x apos) (e :: es) [] pos) X.env = (do
      let ov ← eval o X.env
      standAt apos.atName
      let (f, first) ← holding [ov] (getMethod ov x pl)
      callWith pos f first (backTo pos (starEach (e :: es) X.env)) (backToKw pos (keywordEach [] X.env))) := by exact ev_attr rfl rfl (by decide) rfl) : EvM X ρ ω (.Call (.Attribute o x apos) (e :: es) [] pos) ((ω.set n1 (q, ownG sv d g')).set n2 (d, dcO g'.known)) (valM v) := .mk fun B B0 σ H H0 S Q hQ => by
  obtain ⟨f, fd, ps, F, hm, hb⟩ := G.ex
  refine wE_of (pe_meth pe_w G.cl hm F hr hb .nil (passL (X := X)) pa_w hst hpl ht) (ho.run B B0 σ H H0 S _ fun v0 H1 H01 m1 f0 => ?_)
  have f0 : v0 = .ref q := f0
  subst f0
  have S1 := S.step m1
  obtain ⟨_, _, oq, q3, dx, vs, rfl, hlen, fs⟩ := S1.ow q _ (List.mem_of_getElem? h1)
  refine ⟨q, dx, vs, rfl, q3, (look_ins fs).2 (glook hl), ha.run B B0 σ H1 H01 S1 _ fun us H2 H02 m2 f2 => ?_⟩
  rw [List.append_nil]
  have S2 := S1.step m2
  exact call_game S2 hgi h1 h2 hab f2 hp (j _ _ _ _ _ _ _ (back_gv (E := E0) S2 h1 h2 hab hg fun H' H0' s S' => hQ v H' H0' ((m1.b.trans m2.b).trans s) S' rfl))
theorem evmn_meth {m : Pg ι} {g g' : GM} {q d : Addr} {sv : L2.V} {cs : List Cell} (G : CalM X.prog X.w X.K X.mg X.base g.C x k (spG m)) (i : ι) (n1 n2 : Nat) (hr : Room k X.A) (ho : Ev X ρ ω o (atM q)) (h1 : ω[n1]? = some (q, ownG sv d g)) (h2 : ω[n2]? = some (d, dcO g.known)) (hab : n1 ≠ n2) (hgi : m.game i = g) (hg : g'.stones = g.stones)
    (hl : (x == ("height" : Str)) = false ∧ (x == ("width" : Str)) = false ∧ (x == ("stones" : Str)) = false ∧ (x == ("known" : Str)) = false ∧ (x == ("lost" : Str)) = false) (ha : EvA X ρ ω (e :: es) (m.args i)) (hp : m.pre i) (j : ∀ q d sv Hb H Q E, retGL g' cs q d sv Hb H Q E → m.ret i q d sv Hb H Q E) {pl : Sem Bool}
    (hst : starEach (e :: es) X.env = (false, eval e X.env) :: starEach es X.env := by exact se_cons rfl) (hpl : (backTo pos (starEach es X.env)).any (·.1) = false := by exact se_any rfl)
    (ht : eval (.Call (.Attribute o x apos) (e :: es) [] pos) X.env = (do
      let ov ← eval o X.env
      standAt apos.atName
      let (f, first) ← holding [ov] (getMethod ov x pl)
      callWith pos f first (backTo pos (starEach (e :: es) X.env)) (backToKw pos (keywordEach [] X.env))) := by exact ev_attr rfl rfl (by decide) rfl) : EvMN X ρ ω (.Call (.Attribute o x apos) (e :: es) [] pos) ((ω.set n1 (q, ownG sv d g')).set n2 (d, dcO g'.known)) (lsO cs) := .mk fun B B0 σ H H0 S Q hQ => by
  obtain ⟨f, fd, ps, F, hm, hb⟩ := G.ex
  refine wE_of (pe_meth pe_w G.cl hm F hr hb .nil (passL (X := X)) pa_w hst hpl ht) (ho.run B B0 σ H H0 S _ fun v0 H1 H01 m1 f0 => ?_)
  have f0 : v0 = .ref q := f0
  subst f0
  have S1 := S.step m1
  obtain ⟨_, _, oq, q3, dx, vs, rfl, hlen, fs⟩ := S1.ow q _ (List.mem_of_getElem? h1)
  refine ⟨q, dx, vs, rfl, q3, (look_ins fs).2 (glook hl), ha.run B B0 σ H1 H01 S1 _ fun us H2 H02 m2 f2 => ?_⟩
  rw [List.append_nil]
  have S2 := S1.step m2
  exact call_game S2 hgi h1 h2 hab f2 hp (j _ _ _ _ _ _ _ (back_gl (E := E0) S2 h1 h2 hab hg fun p H' H0' s S' => hQ p H' H0' ((m1.b.trans m2.b).trans s) S'))
/-- f(game, ..) -/
theorem evm_call {m : Pg ι} {g g' : GM} {q d : Addr} {sv v : L2.V} (G : Cal X.prog X.w X.K X.mg X.base x k (spG m)) (i : ι) (n1 n2 : Nat) (hr : Room k X.A) (hg0 : Gl X x) (hdb : (x == ("__debug__" : Str)) = false) (h1 : ω[n1]? = some (q, ownG sv d g)) (h2 : ω[n2]? = some (d, dcO g.known)) (hab : n1 ≠ n2) (hgi : m.game i = g) (hg : g'.stones = g.stones)
    (ha : EvA X ρ ω (e :: es) (atM q :: m.args i)) (hp : m.pre i) (j : ∀ q d sv Hb H Q E, retGV g' v q d sv Hb H Q E → m.ret i q d sv Hb H Q E)
    (he : starEach (e :: es) X.env = (false, eval e X.env) :: starEach es X.env := by exact se_cons rfl) (hpl : (backTo pos (starEach es X.env)).any (·.1) = false := by exact se_any rfl) : EvM X ρ ω (.Call (.Name x p) (e :: es) [] pos) ((ω.set n1 (q, ownG sv d g')).set n2 (d, dcO g'.known)) (valM v) := .mk fun B B0 σ H H0 S Q hQ =>
  w_call G hr hg0 hdb E0 passL he hpl (ha.run B B0 σ H H0 S _ fun vs H1 H01 m1 f1 => by
    cases f1 with
    | cons f0 f1 =>
      have f0 : _ = L2.V.ref q := f0
      subst f0
      have S1 := S.step m1
      exact call_game S1 hgi h1 h2 hab f1 hp (j _ _ _ _ _ _ _ (back_gv (E := E0) S1 h1 h2 hab hg fun H' H0' s S' => hQ v H' H0' (m1.b.trans s) S' rfl)))
theorem evmn_call {m : Pg ι} {g g' : GM} {q d : Addr} {sv : L2.V} {cs : List Cell} (G : Cal X.prog X.w X.K X.mg X.base x k (spG m)) (i : ι) (n1 n2 : Nat) (hr : Room k X.A) (hg0 : Gl X x) (hdb : (x == ("__debug__" : Str)) = false) (h1 : ω[n1]? = some (q, ownG sv d g)) (h2 : ω[n2]? = some (d, dcO g.known)) (hab : n1 ≠ n2) (hgi : m.game i = g) (hg : g'.stones = g.stones)
    (ha : EvA X ρ ω (e :: es) (atM q :: m.args i)) (hp : m.pre i) (j : ∀ q d sv Hb H Q E, retGL g' cs q d sv Hb H Q E → m.ret i q d sv Hb H Q E)
    (he : starEach (e :: es) X.env = (false, eval e X.env) :: starEach es X.env := by exact se_cons rfl) (hpl : (backTo pos (starEach es X.env)).any (·.1) = false := by exact se_any rfl) : EvMN X ρ ω (.Call (.Name x p) (e :: es) [] pos) ((ω.set n1 (q, ownG sv d g')).set n2 (d, dcO g'.known)) (lsO cs) := .mk fun B B0 σ H H0 S Q hQ =>
  w_call G hr hg0 hdb E0 passL he hpl (ha.run B B0 σ H H0 S _ fun vs H1 H01 m1 f1 => by
    cases f1 with
    | cons f0 f1 =>
      have f0 : _ = L2.V.ref q := f0
      subst f0
      have S1 := S.step m1
      exact call_game S1 hgi h1 h2 hab f1 hp (j _ _ _ _ _ _ _ (back_gl (E := E0) S1 h1 h2 hab hg fun p H' H0' s S' => hQ p H' H0' (m1.b.trans s) S')))
/-! statements -/
theorem G_asgM (nd : X.N.Nodup) (i : Nat) (h : EvM X ρ ω e ω' P) (k : Go X B B0 (ρ.set i (some P)) ω' rest D) (hi : X.N[i]? = some x := by rfl) (hx : Loc X.env.scope x := by first | exact Or.inl rfl | exact Or.inr rfl) (hf : X.fn x = true ∨ X.env.scope.names.lookup x = some .local := by first | exact Or.inl rfl | exact Or.inr rfl)
    (hs : swapsWithSole [.Name x p] e pos.line X.env = pure false := by exact sw_sole rfl) (hw : swappedStores [.Name x p] e X.env = pure none := by exact ss_name)
    (h1 : (assignEach [.Name x p] X.env).map (·.2) = [assign (.Name x p) X.env] := by exact ae_name) : Go X B B0 ρ ω (.Assign [.Name x p] e pos :: rest) D :=
  go_st (ps_asg pe_w (pg_name nd hi hx hf) hs hw h1) fun B1 u σ H H0 S => h.run B B1 σ H H0 S _ fun v H' H0' _ S' f => k.run B1 u _ H' H0' (S'.set i f)
theorem G_asgMN (nd : X.N.Nodup) (i : Nat) (h : EvMN X ρ ω e ω' φ) (k : ∀ q, Go X B B0 (ρ.set i (some (atM q))) ((q, φ) :: ω') rest D) (hi : X.N[i]? = some x := by rfl) (hx : Loc X.env.scope x := by first | exact Or.inl rfl | exact Or.inr rfl) (hf : X.fn x = true ∨ X.env.scope.names.lookup x = some .local := by first | exact Or.inl rfl | exact Or.inr rfl)
    (hs : swapsWithSole [.Name x p] e pos.line X.env = pure false := by exact sw_sole rfl) (hw : swappedStores [.Name x p] e X.env = pure none := by exact ss_name)
    (h1 : (assignEach [.Name x p] X.env).map (·.2) = [assign (.Name x p) X.env] := by exact ae_name) : Go X B B0 ρ ω (.Assign [.Name x p] e pos :: rest) D :=
  go_st (ps_asg pe_w (pg_name nd hi hx hf) hs hw h1) fun B1 u σ H H0 S => h.run B B1 σ H H0 S _ fun q H' H0' _ S' => (k q).run B1 u _ H' H0' (S'.set i rfl)
theorem G_asgGm {g : GM} (nd : X.N.Nodup) (i : Nat) (h : EvGm X ρ ω e g) (k : ∀ q d sv, Go X B B0 (ρ.set i (some (atM q))) ((q, ownG sv d g) :: (d, dcO g.known) :: ω) rest D) (hi : X.N[i]? = some x := by rfl) (hx : Loc X.env.scope x := by first | exact Or.inl rfl | exact Or.inr rfl) (hf : X.fn x = true ∨ X.env.scope.names.lookup x = some .local := by first | exact Or.inl rfl | exact Or.inr rfl)
    (hs : swapsWithSole [.Name x p] e pos.line X.env = pure false := by exact sw_sole rfl) (hw : swappedStores [.Name x p] e X.env = pure none := by exact ss_name)
    (h1 : (assignEach [.Name x p] X.env).map (·.2) = [assign (.Name x p) X.env] := by exact ae_name) : Go X B B0 ρ ω (.Assign [.Name x p] e pos :: rest) D :=
  go_st (ps_asg pe_w (pg_name nd hi hx hf) hs hw h1) fun B1 u σ H H0 S => h.run B B1 σ H H0 S _ fun q d sv H' H0' _ S' => (k q d sv).run B1 u _ H' H0' (S'.set i rfl)
theorem go_dropM (h : EvM X ρ ω e ω' P) (k : Go X B B0 ρ ω' rest D) (hs : swapsWith e none pos.line X.env = pure false := by exact sw_any rfl) : Go X B B0 ρ ω (.Expr e pos :: rest) D :=
  go_st (ps_expr pe_w hs) fun B1 u σ H H0 S => h.run B B1 σ H H0 S _ fun v H' H0' _ S' f => k.run B1 u σ H' H0' S'
theorem go_dropMN (h : EvMN X ρ ω e ω' φ) (k : ∀ q, Go X B B0 ρ ((q, φ) :: ω') rest D) (hs : swapsWith e none pos.line X.env = pure false := by exact sw_any rfl) : Go X B B0 ρ ω (.Expr e pos :: rest) D :=
  go_st (ps_expr pe_w hs) fun B1 u σ H H0 S => h.run B B1 σ H H0 S _ fun q H' H0' _ S' => (k q).run B1 u σ H' H0' S'
theorem go_retS (h : Ev X ρ ω e P) (k : ∀ B1, Up B B0 B1 → ∀ σ v H' H0', Sat B B1 ρ ω σ H' H0' → P.f H0' v → D.rt v H') : Go X B B0 ρ ω (.Return (some e) pos :: rest) D :=
  go_st (ps_ret pe_w) fun B1 u σ H H0 S => h.run B B1 σ H H0 S _ fun v H' H0' n f => k B1 u σ v H' H0' (S.step n) f
theorem go_retNS (h : EvN X ρ ω e φ) (k : ∀ B1, Up B B0 B1 → ∀ σ q H' H0', Sat B B1 ρ ((q, φ) :: ω) σ H' H0' → D.rt (.ref q) H') : Go X B B0 ρ ω (.Return (some e) pos :: rest) D :=
  go_st (ps_ret pe_w) fun B1 u σ H H0 S => h.run B B1 σ H H0 S _ fun q ob H' H0' n hq h0 h' f => k B1 u σ q H' H0' ((S.step n).own (fun a ψ hm => by
    obtain ⟨_, _, w, q3, _⟩ := S.ow a ψ hm
    exact ne_of_none q3 hq) (S.nx.a.free hq) h0 h' f)
theorem go_retM (h : EvM X ρ ω e ω' P) (k : ∀ B1, Up B B0 B1 → ∀ σ v H' H0', Sat B B1 ρ ω' σ H' H0' → P.f H0' v → D.rt v H') : Go X B B0 ρ ω (.Return (some e) pos :: rest) D :=
  go_st (ps_ret pe_w) fun B1 u σ H H0 S => h.run B B1 σ H H0 S _ fun v H' H0' _ S' f => k B1 u σ v H' H0' S' f
theorem go_retMN (h : EvMN X ρ ω e ω' φ) (k : ∀ B1, Up B B0 B1 → ∀ σ q H' H0', Sat B B1 ρ ((q, φ) :: ω') σ H' H0' → D.rt (.ref q) H') : Go X B B0 ρ ω (.Return (some e) pos :: rest) D :=
  go_st (ps_ret pe_w) fun B1 u σ H H0 S => h.run B B1 σ H H0 S _ fun q H' H0' _ S' => k B1 u σ q H' H0' S'
/-- xs + e, e changes what is ours -/
theorem evmn_cat {α : Type} [R α] {xs ys : List α} {q : Addr} (h1 : Ev X ρ ω a (atM q)) (hq' : (q, lsO xs) ∈ ω') (h2 : EvMN X ρ ω b ω' (lsO ys)) (hl : xs.length + ys.length ≤ 1000000) : EvMN X ρ ω (.BinOp a .Add b pos) ω' (lsO (xs ++ ys)) := .mk fun B B0 σ H H0 S Q hQ =>
  wE_of (pe_op op_cat pe_w pe_w) (h1.run B B0 σ H H0 S _ fun v H1 H01 n1 f1 => h2.run B B0 σ H1 H01 (S.step n1) _ fun p2 H2 H02 s2 S2 => by
    have f1 : v = .ref q := f1
    subst f1
    obtain ⟨_, _, o1, a1, vs, rfl, f1⟩ := S2.ow q _ (List.mem_cons_of_mem _ hq')
    obtain ⟨_, _, o2, a2, vs', rfl, f2⟩ := S2.ow p2 _ List.mem_cons_self
    have g1 := Paired.length f1
    have g2 := Paired.length f2
    refine ⟨q, p2, vs, vs', rfl, rfl, a1, a2, Nat.le_trans (by rw [g1, g2, List.length_map, List.length_map]; exact hl) (by decide), fun l hz => ?_⟩
    have n3 := Nx.fresh (o := .lst (vs ++ vs')) S2.sub hz
    have S3 := (S2.less (Lsl.refl ρ) (List.sublist_cons_self _ _)).step n3
    refine hQ l _ H02 (n1.b.trans s2) (S3.own (fun x ψ hm => ?_) (S2.nx.a.free hz) (S2.sub.free hz) upd_same ⟨_, rfl, by rw [List.map_append]; exact Paired.app f1 f2⟩)
    obtain ⟨_, _, w, q3, _⟩ := S2.ow x ψ (List.mem_cons_of_mem _ hm)
    exact ne_of_none q3 hz)
/-! what a def that changes its game has done -/
theorem mine_of {q d : Addr} {sv : L2.V} {g : GM} {H H0 Hb : Hp} {σ : L2.St} (S : Sat B B0 ρ ω σ H H0) (h1 : (q, ownG sv d g) ∈ ω) (h2 : (d, dcO g.known) ∈ ω) (hs : (rp g.stones : MP).f Hb sv) : Mine q d sv g Hb H := by
  obtain ⟨_, _, oq, q3, q4⟩ := S.ow q _ h1
  obtain ⟨_, _, od, d3, d4⟩ := S.ow d _ h2
  exact ⟨⟨oq, q3, ownG_move q4 hs⟩, od, d3, dcB_move d4⟩
theorem list_of {q d p : Addr} {g : GM} {sv : L2.V} {cs : List Cell} {H H0 : Hp} {σ : L2.St} {Q : VK} {E : XK} {Hx : Hp} (hret : retGL g cs q d sv B Hx Q E) (S : Sat B B0 ρ ((p, lsO cs) :: ω) σ H H0) (h1 : (q, ownG sv d g) ∈ ω) (h2 : (d, dcO g.known) ∈ ω) (hs : (rp g.stones : MP).f B sv) : Q (.ref p) H := by
  obtain ⟨p1, p2, o, p3, vs, rfl, p4⟩ := S.ow p _ List.mem_cons_self
  have nd := S.nd
  rw [List.map_cons, List.nodup_cons] at nd
  refine hret p vs H S.nx.a (mine_of S (List.mem_cons_of_mem _ h1) (List.mem_cons_of_mem _ h2) hs) p1 (fun z => ?_) (fun z => ?_) p3 (p4.mono S.sub)
  · exact nd.1 (List.mem_map.mpr ⟨_, h1, z.symm⟩)
  · exact nd.1 (List.mem_map.mpr ⟨_, h2, z.symm⟩)
end
end DF

namespace DF
open R (rp)
open Dt (toD)
open PySem L2
/-! ### 32. fields of a game of ours -/
section
variable {X : Cx} {B B0 : Hp} {ρ ρ' : En} {ω ω' ω0 : Ow} {e e2 a b c o tg iter : Expr} {es : List Expr} {P P1 P2 : MP} {φ φ1 φ2 ψ : MO} {φs : List MO} {pos p p2 apos pos2 tpos : Pos} {x y : Str} {rest body orelse sts : List Stmt} {D : Ends} {st : Stmt} {Ps Ps' : List MP} {α β ι : Type} {k : Nat} {C : Addr} {W : WX} {q d : Addr} {sv : L2.V} {g : GM}
theorem own_h (h : Ev X ρ ω e (atM q)) (hw : (q, ownG sv d g) ∈ ω) (c : Cls X.K g.C) (na : NoAttr X.K g.C "height") (hb : attributeBase e "height" X.env (eval e X.env) = eval e X.env := by exact ab_plain rfl) : Ev X ρ ω (.Attribute e "height" pos) (rp g.h) := ev_fld (evc_at h hw) c na gl_h hb
theorem own_w (h : Ev X ρ ω e (atM q)) (hw : (q, ownG sv d g) ∈ ω) (c : Cls X.K g.C) (na : NoAttr X.K g.C "width") (hb : attributeBase e "width" X.env (eval e X.env) = eval e X.env := by exact ab_plain rfl) : Ev X ρ ω (.Attribute e "width" pos) (rp g.w) := ev_fld (evc_at h hw) c na gl_w hb
theorem own_s (h : Ev X ρ ω e (atM q)) (hw : (q, ownG sv d g) ∈ ω) (c : Cls X.K g.C) (na : NoAttr X.K g.C "stones") (hb : attributeBase e "stones" X.env (eval e X.env) = eval e X.env := by exact ab_plain rfl) : Ev X ρ ω (.Attribute e "stones" pos) (rp g.stones) := (ev_fld (P := bothM (valM sv) (rp g.stones)) (evc_at h hw) c na gl_s hb).imp fun _ _ z => z.2
theorem own_k (h : Ev X ρ ω e (atM q)) (hw : (q, ownG sv d g) ∈ ω) (c : Cls X.K g.C) (na : NoAttr X.K g.C "known") (hb : attributeBase e "known" X.env (eval e X.env) = eval e X.env := by exact ab_plain rfl) : Ev X ρ ω (.Attribute e "known" pos) (atM d) := ev_fld (evc_at h hw) c na gl_k hb
theorem ownc_k (h : Ev X ρ ω e (atM q)) (hw : (q, ownG sv d g) ∈ ω) (hd : (d, φ) ∈ ω) (c : Cls X.K g.C) (na : NoAttr X.K g.C "known") (hb : attributeBase e "known" X.env (eval e X.env) = eval e X.env := by exact ab_plain rfl) : EvC X ρ ω (.Attribute e "known" pos) φ := evc_at (own_k h hw c na hb) hd
theorem putM_lost {A1 A2 : MP} {h w : Int} {l : Bool} : putM "lost" (rp true) (gameF A1 A2 h w l) = gameF A1 A2 h w true := by
  have h1 : ¬ ("height" : Str) = "lost" := by decide +kernel
  have h2 : ¬ ("width" : Str) = "lost" := by decide +kernel
  have h3 : ¬ ("stones" : Str) = "lost" := by decide +kernel
  have h4 : ¬ ("known" : Str) = "lost" := by decide +kernel
  simp only [gameF, putM, if_neg h1, if_neg h2, if_neg h3, if_neg h4, if_true]
theorem go_lose {pos' : Pos} (j n : Nat) (hs : ρ[n]? = some (some (atM q))) (hw : ω[j]? = some (q, ownG sv d g)) (c : Cls X.K g.C) (na : NoAttr X.K g.C "lost") (h : Ev X ρ ω e (rp true)) (hN : X.N[n]? = some x) (hv : Vis X.env.scope x) (hd : (x == ("__debug__" : Str)) = false) (hcd : (x == ("__classdict__" : Str)) = false)
    (k : Go X B B0 ρ (ω.set j (q, ownG sv d ⟨g.C, g.h, g.w, g.stones, g.known, true⟩)) rest D) (hsw : swapsWith e (some (.Attribute (.Name x p) "lost" pos')) pos.line X.env = pure false := by exact sw_any rfl) : Go X B B0 ρ ω (.Assign [.Attribute (.Name x p) "lost" pos'] e pos :: rest) D := by
  refine go_setf (fl := gameF (bothM (valM sv) (rp g.stones)) (atM d) g.h g.w g.lost) j hs hw c na h (by show 5 < 50; decide) hN hv hd hcd ?_ hsw
  rw [putM_lost]
  exact k
end
end DF

namespace DF
open R (rp)
open Dt (toD)
open PySem L2
open PySem PySem.Spec PyProof.Rows L2
/-! ### 33. len(set(xs)) of cells; xs[::-1]; two games at once -/
def tLenSetC (K : PySem.W.Frag) (ta : TE) : TE := fun σ H Q => ta σ H fun x H1 => ∃ (l : Addr) (ks : List (Addr × List Int)), x = L2.V.ref l ∧ SqL K H1 l (ks.map fun p => L2.V.ref p.1) ∧ (∀ p ∈ ks, SqT K H1 p.1 (p.2.map L2.V.int)) ∧ ks.length < 64 ∧ (ks.map (·.2)).Nodup ∧ Q (.int ks.length) H1
theorem len_same {α : Type} [DecidableEq α] {l m : List α} (h1 : l.Nodup) (h2 : m.Nodup) (h : ∀ x, x ∈ l ↔ x ∈ m) : l.length = m.length :=
  ((List.perm_ext_iff_of_nodup h1 h2).mpr h).length_eq
theorem pe_lenSetC {X : Cx} {a : Expr} {ta : TE} {p p2 q pos : Pos} (hc : X.calm = true) (hu : X.A.units + 64 < cLine) (hg : Gl X "len") (hm : X.mg "len" = none) (hg2 : Gl X "set") (hm2 : X.mg "set" = none) (ha : PE X a ta)
    (na : starEach [a] X.env = (false, eval a X.env) :: starEach [] X.env := by rfl) (nb : starEach [.Call (.Name "set" p2) [a] [] q] X.env = (false, eval (.Call (.Name "set" p2) [a] [] q) X.env) :: starEach [] X.env := by rfl) : PE X (.Call (.Name "len" p) [.Call (.Name "set" p2) [a] [] q] [] pos) (tLenSetC X.K ta) := by
  refine ⟨fun pins s σ H Q I h => ?_⟩
  refine Call_ (ld_blt I hg hm PySem.boot_len ?_)
  refine PyProof.Rows.callWith_builtin1 (PyProof.Rows.args_cons ?_ nb) nb rfl
  refine Call_ (ld_blt I hg2 hm2 PyProof.Rows.boot_set ?_)
  refine PyProof.Rows.callWith_type1 (PyProof.Rows.args_cons (thn (ha.run pins s σ H _ I h) fun v s1 ⟨x, H1, I1, r1, q1⟩ => PyProof.Rows.args_nil ?_) na) na rfl
  obtain ⟨l, ks, rfl, hq, hk, h1, hnd, q1⟩ := q1
  cases r1
  obtain ⟨its, rv, pl, hz⟩ := I1.list hq
  refine call_set_tups (P := X.prog) (w := X.w) ks (I1.ok.hd hc) pl.isList (by simpa using refs_of_vals rv) (fun p hp => I1.isT (hk p hp)) h1 (by have := hu; show X.A.units + 3 < cLine; omega) fun h' tk L es ep t R g k => ?_
  refine PyProof.Rows.args_nil ?_
  have I2 : Inv X pins σ H1 { s1 with heap := h', toks := tk } := I1.kept fun b o e => k b o e
  obtain ⟨o, ho, hex, hd⟩ := R.ob
  have hsz : es.size = ks.length := by
    have e1 : es.size = L.length := by
      have h := congrArg List.length R.rows
      unfold rowsOf at h
      rw [Array.length_toList, List.length_map] at h
      exact h
    rw [e1]
    have e2 := len_same R.nd hnd fun x => by
      constructor
      · intro hx
        obtain ⟨p, hp, e⟩ := List.mem_map.mp hx
        exact List.mem_map.mpr ⟨p, List.mem_of_mem_take (g.sub p hp), e⟩
      · intro hx
        obtain ⟨p, hp, e⟩ := List.mem_map.mp hx
        rw [← e]
        exact g.all p (by rw [List.take_length]; exact hp)
    rw [List.length_map, List.length_map] at e2
    exact e2
  have hf : t.fits es.size = true := SetTR.fits (s := { s1 with heap := h', toks := tk }) R
  exact call_len_set ho hex hd hf (by rw [hsz]; omega) ⟨.int ks.length, H1, I2.tok _, ⟨_, by rw [hsz]⟩, q1⟩
section
variable {X : Cx} {B B0 : Hp} {ρ ρ' : En} {ω ω' ω0 : Ow} {e e2 a b c o tg iter : Expr} {es : List Expr} {P P1 P2 : MP} {φ φ1 φ2 ψ : MO} {φs : List MO} {pos p p2 apos pos2 tpos : Pos} {x y : Str} {rest body orelse sts : List Stmt} {D : Ends} {st : Stmt} {Ps Ps' : List MP} {α β ι : Type} {k : Nat} {C : Addr} {W : WX}
theorem cells_ks {K : PySem.W.Frag} {H : Hp} : ∀ {vs : List L2.V} {cs : List Cell}, All2 H vs (cs.map rp) → ∃ ks : List (Addr × List Int), vs = ks.map (fun p => L2.V.ref p.1) ∧ (∀ p ∈ ks, SqT K H p.1 (p.2.map L2.V.int)) ∧ ks.map (·.2) = cs.map fun c => [c.1, c.2]
  | _, [], .nil => ⟨[], rfl, (fun p hp => by cases hp), rfl⟩
  | _, c :: cs, .cons f t => by
    obtain ⟨ks, e1, e2, e3⟩ := cells_ks (K := K) t
    obtain ⟨b, us, rfl, hb, f5⟩ := f
    refine ⟨(b, [c.1, c.2]) :: ks, by rw [e1]; rfl, fun p hp => ?_, by simp [e3]⟩
    rcases List.mem_cons.mp hp with rfl | hp
    · cases f5 with
      | cons a1 f5 =>
      cases f5 with
      | cons a2 f5 =>
      cases f5
      have a1 : _ = L2.V.int c.1 := a1
      have a2 : _ = L2.V.int c.2 := a2
      subst a1; subst a2
      exact SqT.of hb
    · exact e2 p hp
/-- len(set(cs)), no cell twice -/
theorem ev_lenSetC {cs : List Cell} {pos3 : Pos} (Bb : Bl X.mg) (hc : X.calm = true) (hu : X.A.units + 64 < cLine) (hg : Gl X "len") (hg2 : Gl X "set") (h : EvC X ρ ω e (lsO cs)) (hl : cs.length < 64) (nd : cs.Nodup) (na : starEach [e] X.env = (false, eval e X.env) :: starEach [] X.env := by exact se_cons rfl)
    (nb : starEach [.Call (.Name "set" p2) [e] [] pos3] X.env = (false, eval (.Call (.Name "set" p2) [e] [] pos3) X.env) :: starEach [] X.env := by exact se_cons rfl) : Ev X ρ ω (.Call (.Name "len" p) [.Call (.Name "set" p2) [e] [] pos3] [] pos) (rp (cs.length : Int)) := .mk fun B B0 σ H H0 S Q q =>
  wE_of (pe_lenSetC hc hu hg (Bb _ (by decide +kernel)) hg2 (Bb _ (by decide +kernel)) pe_w na nb) (h.run B B0 σ H H0 S _ fun l o H1 H01 n1 hp ⟨vs, e1, f⟩ => by
    subst e1
    obtain ⟨ks, k1, k2, k3⟩ := cells_ks (K := X.K) (f.mono n1.c)
    subst k1
    have kl : ks.length = cs.length := by have := congrArg List.length k3; rwa [List.length_map, List.length_map] at this
    refine ⟨l, ks, rfl, SqL.of hp, k2, by omega, ?_, ?_⟩
    · rw [k3]
      refine List.Pairwise.map _ (fun a b hab e => hab ?_) nd
      simp only [List.cons.injEq, and_true] at e
      exact Prod.ext e.1 e.2
    · rw [kl]; exact q _ H1 H01 n1 rfl)
theorem paired_reverse {α β : Type} {F : α → β → Prop} {l₁ : List α} {l₂ : List β} (h : Paired F l₁ l₂) : Paired F l₁.reverse l₂.reverse := Paired.rev h
theorem evn_revL [R α] {xs : List α} {kk : Nat} {p1 p3 : Pos} (h : EvC X ρ ω e (lsO xs)) : EvN X ρ ω (.Subscript e (.Slice none none (some (.UnaryOp .USub (.Constant (.int 1) kk p1) p2)) p3) pos) (lsO xs.reverse) := .mk fun B B0 σ H H0 S Q q =>
  wE_of (pe_revL pe_w) (h.run B B0 σ H H0 S _ fun l o H1 H01 n1 hp ⟨vs, e1, f⟩ => by
    subst e1
    refine ⟨l, vs, rfl, SqL.of hp, fun z hz => q z _ _ H01 (n1.trans (Nx.fresh n1.c hz)) (n1.a.free hz) (n1.c.free hz) upd_same ⟨_, rfl, ?_⟩⟩
    rw [List.map_reverse]
    exact Paired.rev f)
/-- a, b = two new games -/
theorem G_parGm {g1 g2 : GM} (nd : X.N.Nodup) (hc : X.calm = true) (i j : Nat) {kt k2 : Nat} {px py pt pt2 : Pos} (h1 : EvGm X ρ ω a g1) (h2 : ∀ ω', EvGm X ρ ω' b g2) (k : ∀ q1 d1 s1 q2 d2 s2, Go X B B0 ((ρ.set i (some (atM q1))).set j (some (atM q2))) ((q2, ownG s2 d2 g2) :: (d2, dcO g2.known) :: (q1, ownG s1 d1 g1) :: (d1, dcO g1.known) :: ω) rest D) (hij : i ≠ j := by decide) (hi : X.N[i]? = some x := by rfl) (hj : X.N[j]? = some y := by rfl)
    (hx : X.env.scope.names.lookup x = some .local := by rfl) (hy : X.env.scope.names.lookup y = some .local := by rfl)
    (hw : swappedStores [.Tuple [.Name x px, .Name y py] kt pt] (.Tuple [a, b] k2 pt2) X.env = pure (some [x, y]) := by rfl) (hs1 : starEach [a, b] X.env = (false, eval a X.env) :: starEach [b] X.env := by exact se_cons rfl) (hs2 : starEach [b] X.env = (false, eval b X.env) :: starEach [] X.env := by exact se_cons rfl) :
    Go X B B0 ρ ω (.Assign [.Tuple [.Name x px, .Name y py] kt pt] (.Tuple [a, b] k2 pt2) pos :: rest) D :=
  go_st (ps_par hc nd hi hj hij hx hy (pa_cons pe_w (pa_cons pe_w pa_nil hs2) hs1) hw (sw_sole rfl)) fun B1 u σ H H0 S => h1.run B B1 σ H H0 S _ fun q1 d1 s1 H1 H01 _ S1 => (h2 _).run B B1 σ H1 H01 S1 _ fun q2 d2 s2 H2 H02 _ S2 =>
    ⟨_, _, rfl, (k q1 d1 s1 q2 d2 s2).run B1 u _ H2 H02 ((S2.set i rfl).set j rfl)⟩
end
end DF

namespace DF
open R (rp)
open Dt (toD)
open PySem L2
/-! ### 34. dicts by cells: get; a value that raises; a game whose call falls off its end -/
section
variable {X : Cx} {B B0 : Hp} {ρ ρ' : En} {ω ω' ω0 : Ow} {e e2 a b c o tg iter : Expr} {es : List Expr} {P P1 P2 : MP} {φ φ1 φ2 ψ : MO} {φs : List MO} {pos p p2 apos pos2 tpos : Pos} {x y : Str} {rest body orelse sts : List Stmt} {D : Ends} {st : Stmt} {Ps Ps' : List MP} {α β ι : Type} {k : Nat} {C : Addr} {W : WX}
/-- d.get(c, v) -/
theorem ev_dgetD [R β] {kvs : List (Cell × β)} {cc : Cell} {v0 : β} (hu : X.A.units + 64 < cLine) (h1 : EvC X ρ ω o (dcO kvs)) (h2 : Ev X ρ ω e (rp cc)) (h3 : Ev X ρ ω b (rp v0)) (hb : attributeBase o "get" X.env (eval o X.env) = eval o X.env := by exact ab_plain rfl) (hs : starEach [e, b] X.env = [(false, eval e X.env), (false, eval b X.env)] := by exact se_two rfl rfl) (hl : (apos.endLine == pos.line) = true := by rfl) :
    Ev X ρ ω (.Call (.Attribute o "get" apos) [e, b] [] pos) (rp ((dval kvs cc).getD v0)) := .mk fun B B0 σ H H0 S Q q =>
  wE_of (pe_dget2 (by omega) pe_w pe_w pe_w (m2_get hb hs hl)) (h1.run B B0 σ H H0 S _ fun d ob H1 H01 n1 hd f1 => by
    obtain ⟨vs, e1, g1⟩ := id f1
    subst e1
    refine ⟨d, rfl, .inr ⟨_, .inl hd⟩, h2.run B B0 σ H1 H01 (S.step n1) _ fun v2 H2 H02 n2 f2 => h3.run B B0 σ H2 H02 ((S.step n1).step n2) _ fun v3 H3 H03 n3 f3 => ?_⟩
    obtain ⟨bk, e2, hbk⟩ := key_tup f2
    subst e2
    refine ⟨_, DGet.t (n3.a _ _ (n2.a _ _ hd)) (n3.a _ _ (n2.c _ _ hbk)), q _ H3 H03 ((n1.trans n2).trans n3) ?_⟩
    have g1' : DP H01 vs (kvs.map fun kv => (kv.1, (rp kv.2 : MP))) := g1
    have hv := DP.val (c := cc) g1'
    cases hc : dval kvs cc with
    | some v =>
      obtain ⟨z, h3, h4⟩ := hv.2 (rp v) (by rw [dval_map, hc]; rfl)
      rw [h3]
      exact (rp v : MP).mono (n2.b.trans n3.b) h4
    | none =>
      have : valV vs (keyOf cc) = none := by
        have e := hv.1
        rw [dhas_map] at e
        have hh : dhas kvs cc = false := by
          unfold dhas
          rw [Bool.eq_false_iff]
          intro z
          obtain ⟨kv, z1, z2⟩ := List.any_eq_true.mp z
          unfold dval at hc
          rw [Option.map_eq_none_iff, List.find?_eq_none] at hc
          exact hc kv z1 z2
        rw [hh] at e
        cases hv2 : valV vs (keyOf cc) with
        | none => rfl
        | some z => rw [hv2] at e; cases e
      rw [this]
      exact f3)
/-- d[k] = e, e raises -/
theorem go_dput_rz {pos' : Pos} (hu : X.A.units + 64 < cLine) (h : Rz X W ρ ω a C) (tk : Takes X W) (k : ∀ B1, Up B B0 B1 → ∀ σ H H0, Sat B B1 ρ ω σ H H0 → ∀ H', Same H H' → W (.ref C) none σ H')
    (hs : swapsWith a (some (.Subscript o e pos')) pos.line X.env = pure false := by exact sw_any rfl) : Go X B B0 ρ ω (.Assign [.Subscript o e pos'] a pos :: rest) D :=
  go_st (ps_dput (by omega) pe_w pe_w pe_w hs) fun B1 u σ H H0 S => h.run tk B B1 σ H H0 S _ (k B1 u σ H H0 S)
end
end DF

set_option maxHeartbeats 4100000
namespace DF
open R (rp)
open Dt (toD)
open PySem L2

/-! ### an exception leaves a comprehension: the first item raises -/
/-- a comprehension that ends by an exception, in its very environment -/
theorem comp_rz {M : Model} {A : Around} {E : Value → Shared → Prop} {s : Shared} {env : Env} {ex : Expr} {sc : Scope} {ps : Pos} {mk it0 : Sem Value} {c0 : Comprehension} {cs : List Comprehension} {cl : List (Str × Addr)} {Q : Value → Shared → Prop}
    (k1 : clausesOf ex = c0 :: cs) (k2 : ∀ x, foldedSetIterable c0.iter env x = pure x) (k3 : closureFor sc env = pure cl) (k4 : sc.kind = .function) (k5 : ∀ y ∈ sc.names, y.2 = .local → sc.names.lookup y.1 = some .local)
    (go : wpAny M A it0 (fun v0 s1 => wpAny M A (pyIter v0) (fun it s2 => wpAny M A mk (fun acc s3 => wpAny M A (newFunctionEnv sc env.globals cl [] env.qual none .none (some env)) (fun ce s4 =>
      codeAny M A (.compStart ex 0 it acc { ce with scope := relabel sc env }) (fun r s5 => ∃ u, r = .error u ∧ ∃ m, s5.heap.Ns ce.locals m ∧
        ∀ h5, Heap.SameBut ce.locals s5.heap h5 → wpAny M A (passOn "comprehension.variables-let-go" u { ce with scope := relabel sc env } : Sem Value) (fun _ _ => False) E { s5 with heap := h5 }) s4) E s3) E s2) E s1) E s) :
    wpAny M A (comprehension ex sc env ps mk false it0 none) Q E s := by
  unfold comprehension
  rw [k3, k1]
  have step : ∀ {β γ : Type} {t : Sem β} {P : β → Shared → Prop} {f : β → Sem γ} {R : γ → Shared → Prop} {s : Shared}, wpAny M A t P E s → (∀ b s', P b s' → wpAny M A (f b) R E s') → wpAny M A (t >>= f) R E s :=
    fun h k => wpAny_bind (wpAny_mono h k fun _ _ z => z)
  refine step go fun v0 s1 z1 => wpAny_bind (wpAny_standAt ?_)
  refine wpAny_bind (wpAny_of_eq (k2 v0) ?_)
  refine wpAny_bind (wpAny_holding (wpAny_mono z1 (fun it s2 z2 => wpAny_standIf ?_) fun _ _ z => z))
  refine step z2 fun acc s3 z3 => wpAny_bind (wpAny_pure ?_)
  refine step z3 fun ce s4 z4 => ?_
  dsimp only
  refine wpAny_holding (wpAny_bind (wpAny_attempt (wpAny_holding (wpAny_run (codeAny_mono z4 fun r s5 z5 => ?_)))))
  obtain ⟨u, rfl, m, ns, out⟩ := z5
  have vis : ∀ y ∈ (sc.names.filter fun x => (x.2 == .local || x.2 == .cell) && x.1 != (".0" : Str)).reverse, y.2 = .local → Env.kindOf { ce with scope := relabel sc env } y.1 = some .local :=
    fun y hy hl => lookup_relabel_local (k5 y (List.mem_filter.mp (List.mem_reverse.mp hy)).1 hl)
  refine wpAny_bind (wpAny_holding (wpAny_comp_letGo (cenv := { ce with scope := relabel sc env }) k4 _ s5 m vis ns fun h5 _ _ sb => ?_))
  exact wpAny_mono (out h5 sb) (fun _ _ f => f.elim) fun _ _ z => z

/-! frames -/
theorem ff_move {B B' h h' : Heap} : ∀ {l : List Env}, h.FunFrames B l → (∀ b ∈ frs l, h'.get? b = h.get? b) → (∀ b ∈ frs l, B'.get? b = none) → h'.FunFrames B' l
  | [], _, _, _ => trivial
  | e :: l, ⟨x1, ⟨L, o, x2, x3, x4, x5⟩, x6⟩, k, n => by
    have hL : L ∈ frs (e :: l) := List.mem_filterMap.mpr ⟨e, List.mem_cons_self, x2⟩
    have sub : ∀ b ∈ frs l, b ∈ frs (e :: l) := fun b hb => by
      obtain ⟨e2, h2, q⟩ := List.mem_filterMap.mp hb
      exact List.mem_filterMap.mpr ⟨e2, List.mem_cons_of_mem _ h2, q⟩
    exact ⟨x1, ⟨L, o, x2, n L hL, (k L hL).trans x4, x5⟩, ff_move x6 (fun b hb => k b (sub b hb)) fun b hb => n b (sub b hb)⟩
theorem held_hide {B h h' : Heap} {l : List Env} {a C L : Addr} {Z : Obj → Prop} {oC : Obj} (x : HandSPX.HeldZ B l a Z L h) (hC : B.get? C = some oC) (nC : C ∉ frs l) (sb : Heap.SameBut C h h') : HandSPX.HeldZ (PySem.W.hideAll B [C]) l a Z L h' := by
  obtain ⟨x1, x2, x3, oe, vs, T, oT, ts, t1, t2, t3, t4, t5, t6, t7, t8, t9⟩ := x
  have hid : ∀ b, B.get? b = none → (PySem.W.hideAll B [C]).get? b = none := fun b hb => by
    cases q : (PySem.W.hideAll B [C]).get? b with
    | none => rfl
    | some o => rw [PySem.W.of_hideAll _ q] at hb; cases hb
  have out : ∀ b, B.get? b = none → b ≠ C := fun b hb z => by rw [z, hC] at hb; cases hb
  refine ⟨fun b o q => ?_, hid a x2, ff_move x3 (fun b hb => sb.2 b fun z => nC (z ▸ hb)) fun b hb => hid b (x3.mem hb).1, oe, vs, T, oT, ts, (sb.2 a (out a x2)).trans t1, t2, t3, t4, hid T t5, t6, (sb.2 T (out T t5)).trans t7, t8, t9⟩
  have hb : b ≠ C := fun z => by rw [z, PySem.W.hideAll_none [C] (by simp)] at q; cases q
  exact (sb.2 b hb).trans (x1 b o (PySem.W.of_hideAll _ q))
/-- what flies over one ground flies over the other -/
theorem sky_fly {B B' h : Heap} {l : List Env} {a L : Addr} {Z Z' : Obj → Prop} (x : Sky B' l a Z' L h) (y : HandSPX.FlyingZ B l a Z h) : HandSPX.FlyingZ B' l a Z' h := by
  obtain ⟨_, _, _, oe, vs, T, oT, ts, t1, _, t3, t4, _, _, t7, t8, t9⟩ := y
  rcases x with ⟨_, _, _, oe', vs', u1, _, u3, u4⟩ | x | ⟨_, _, _, oe', vs', T', oT', ts', u1, _, u3, u4, _, _, u7, u8, u9⟩
  · rw [t1] at u1
    cases u1
    rw [t3] at u3
    cases u3
    rw [t4] at u4; cases u4
  · exact x
  · rw [t1] at u1
    cases u1
    rw [t3] at u3
    cases u3
    rw [t4] at u4
    cases u4
    rw [t7] at u7
    cases u7
    rw [t8] at u8
    cases u8
    rw [t9] at u9; cases u9
theorem ns_slots {h h' : Heap} {C : Addr} {m : Str → Option Value} (up : h.UpToSlots h') (n : h.Ns C m) : h'.Ns C m := by
  obtain ⟨o, es, ep, h1, h2, h3, h4⟩ := n
  obtain ⟨sl, q⟩ := up C o h1 fun vs z => by rw [h2] at z; cases z
  exact ⟨_, es, ep, q, h2, h3, h4⟩
theorem noteFrame_env {e1 e2 : Env} (h : e1.frame = e2.frame) (u : Value) : noteFrame u e1 = noteFrame u e2 := by
  have hf : frameOf e1 = frameOf e2 := by unfold frameOf; rw [h]
  unfold noteFrame
  rw [h, hf]
/-- e raises, where it stands in a block -/
structure RzB (Y : Cx) (ρ : En) (ω : Ow) (e : Expr) (C : Addr) : Prop where
  run : ∀ E : XK, (∀ σ, PassesAt (L2.CX Y.prog Y.w) Y σ E) → ∀ B B0 σ H H0, Sat B B0 ρ ω σ H H0 → (∀ H', Same H H' → E (.ref C) none H') → ∀ Q : VK, wE Y e σ H Q
theorem rzb_call {X : Cx} {ρ : En} {ω : Ow} {ι : Type} {m : Pm ι} {x : Str} {e : Expr} {es : List Expr} {k : Nat} {C : Addr} {p pos : Pos} (G : Cal X.prog X.w X.K X.mg X.base x k (spOf m)) (i : ι) (hr : Room k X.A) (hg : Gl X x) (hdb : (x == ("__debug__" : Str)) = false) (ha : EvAC X ρ ω (e :: es) (m.args i)) (hp : m.pre i) (j : ∀ H H0 Q E, (∀ H', Same H H' → E (.ref C) none H') → m.ret i H H0 Q E)
    (he : starEach (e :: es) X.env = (false, eval e X.env) :: starEach es X.env := by exact se_cons rfl) (hpl : (backTo pos (starEach es X.env)).any (·.1) = false := by exact se_any rfl) : RzB X ρ ω (.Call (.Name x p) (e :: es) [] pos) C := .mk fun E tk B B0 σ H H0 S q Q => by
  obtain ⟨f, fd, ps, F, hm, hk, hb⟩ := G.ex
  refine wE_of (pe_callS (E := fun _ => E) F hr hg hm hk hb tk pa_w hdb he hpl) ?_
  exact ha.run B B0 σ H H0 S _ fun vs H1 H01 n1 f1 => ⟨i, H1, ⟨Same.refl _, fun _ _ e => e⟩, f1, hp, j H1 H1 Q _ fun H' s' => q H' (n1.a.trans s')⟩
section
variable {X : Cx} {ρ ρ' : En} {ω : Ow} {elt tg iter : Expr} {scope : Scope} {own : List (Str × Nat)} {pos : Pos} {g : TG} {C0 : Addr} {p0 : MP} {Ps : List MP} {W : WX}
theorem rz_lc (hc : X.calm = true) (hN : X.N.Nodup) (hst : X.stack = X.env :: X.outer) (hfr : X.env.frame = some X.env.locals) (hI : ItrC X ρ ω tg iter (p0 :: Ps)) (ok : BlkOk X.N X.env.scope scope own)
    (hg : ∀ s H C cl fp, PG (BX X scope s H C cl fp) tg g) (hgj : GJ g p0 (wipeE ρ (own.map (·.2))) ρ' (own.map (·.2)))
    (he : ∀ s H C cl fp xe, RzB ((BX X scope s H C cl fp).wish xe) ρ' ω elt C0) (hs : ∀ x, foldedSetIterable iter X.env x = pure x := by exact fs_plain rfl) :
    Rz X W ρ ω (.ListComp elt [⟨tg, iter, [], 0⟩] scope pos) C0 := .mk fun tk B B0 σ H H0 S Q q pins s I => by
  rw [eval_ListComp]
  have hfree : ∀ y ∈ scope.names, y.2 = .free → ∃ c, X.env.cells.lookup y.1 = some c := fun y hy e => (ok.free y hy e).elim (fun k => I.ok.has _ (.inl k)) fun k => I.ok.has _ (.inr k)
  refine comp_rz rfl hs (closure_ok hfree) ok.kind (fun y hy e => by rw [ok.uniq y hy, e]) ?_
  have first := hI.run B B0 σ H H0 S (fun J H1 => ∃ H01, Nx H H0 H1 H01 ∧ WalkM J (p0 :: Ps) H1 H01) (fun J H1 H01 n w => ⟨H01, n, w⟩) pins s I
  refine thn first fun xv s1 hx => thn hx fun itv sIt h2 => ?_
  obtain ⟨it, fp, tn, J, HIt, e, IIt, T, tIt, fIt, H02, nx2, w2⟩ := h2
  subst e
  have S2 := S.step nx2
  refine wpAny_newObj_type (newEnv_comp ?_) (Nat.zero_le _)
  generalize eD : sIt.heap.objs.size = Dl
  have freeD : HIt Dl = none := IIt.hok.fresh (Nat.le_of_eq eD)
  generalize eL : ({ sIt with heap := sIt.heap.push { cls := .type "list", data := .seq ([] : List Value).toArray } } : Shared) = sL
  have pL : sL.heap = sIt.heap.push { cls := .type "list", data := .seq ([] : List Value).toArray } := by rw [← eL]
  have IL : Inv X pins σ (upd HIt Dl (.lst [])) sL := by
    rw [← eL]
    refine IIt.laid (t' := sIt.toks) (fun b o e => Heap.get?_push_of_some _ e) (Nat.le_of_eq eD) ⟨Nat.zero_le _, [], 0, .nil, ?_⟩
    rw [← eD]
    exact Heap.get?_push_size sIt.heap rfl
  have fL : ∀ b ∈ fp, FpOk X pins (upd HIt Dl (.lst [])) b ∧ b < sL.heap.objs.size := fun b hb => by
    obtain ⟨o, e, _⟩ := T.obj _ _ tIt b hb
    have hlt := Heap.lt_size e
    refine ⟨⟨?_, (fIt b hb).2⟩, by rw [pL, Heap.size_push]; exact Nat.lt_succ_of_lt hlt⟩
    rw [upd_ne (by rw [← eD]; exact Nat.ne_of_lt hlt)]
    exact (fIt b hb).1
  have tL : tn 0 sL.heap := T.keep _ _ _ tIt fun b _ o e => by rw [pL]; exact Heap.get?_push_of_some _ e
  have IB := block_start IL ok hN fL
  have S3 : Sat B B0 ρ ω σ (upd HIt Dl (.lst [])) H02 := by
    have hD0 : H02 Dl = none := S2.sub.free freeD
    exact S2.step ⟨fun b u e => by rw [upd_ne (ne_of_none e freeD)]; exact e, Same.refl _, S2.sub.trans fun b u e => by rw [upd_ne (ne_of_none e freeD)]; exact e, fun _ _ _ h => h, fun x vs e e0 => by
      by_cases hb : x = Dl
      · subst hb; rw [upd_same] at e; cases e
      · rw [upd_ne hb] at e; rw [e0] at e; cases e⟩
  have sm3 : Same H (upd HIt Dl (.lst [])) := nx2.a.trans fun b u e => by rw [upd_ne (ne_of_none e freeD)]; exact e
  have outL : ∀ b ∈ fp, (upd HIt Dl (.lst [])) b = none := fun b hb => (fL b hb).1.1
  have w3 : WalkM J (p0 :: Ps) (upd HIt Dl (.lst [])) H02 := w2.mono fun b u e => by rw [upd_ne (ne_of_none e freeD)]; exact e
  generalize eHL : upd HIt Dl (.lst []) = HL at IL IB S3 sm3 outL fL w3
  generalize hcl : cellsFrom (sL.heap.objs.size + 1) scope.names (cloFrom X.env.cells scope.names []) = cl at IB
  generalize eB : ({ sL with heap := pushCells (sL.heap.push { cls := .type "dict", data := .dict #[] }) scope.names } : Shared) = sB at IB
  have tB : tn 0 sB.heap := T.keep _ _ _ tL fun b _ o e => by rw [← eB]; exact pushCells_keeps _ _ _ _ (Heap.get?_push_of_some _ e)
  generalize hC : sL.heap.objs.size = C at IB
  obtain ⟨R, hR⟩ : ∃ R : Result → Shared → Prop, R = fun r s5 => ∃ u, r = .error u ∧ ∃ m, s5.heap.Ns C m ∧ ∀ h5, Heap.SameBut C s5.heap h5 →
      wpAny (model X.prog X.w) X.A (passOn "comprehension.variables-let-go" u (compEnvC scope cl C X.env) : Sem Value) (fun _ _ => False) X.xe { s5 with heap := h5 } := ⟨_, rfl⟩
  suffices h : codeAny (model X.prog X.w) X.A (.compStart (.ListComp elt [⟨tg, iter, [], 0⟩] scope pos) 0 (.ref it) (.ref Dl) (compEnvC scope cl C X.env)) R sB by
    subst hR hC hcl eB
    exact h
  have pg : PG (X.blk sL HL scope (compEnvC scope cl C X.env) fp) tg g := hg sL HL C cl fp
  have pe : ∀ xe, RzB ((X.blk sL HL scope (compEnvC scope cl C X.env) fp).wish xe) ρ' ω elt C0 := he sL HL C cl fp
  have cefr : (compEnvC scope cl C X.env).frame = X.env.frame := rfl
  have cL : (compEnvC scope cl C X.env).locals = C := rfl
  generalize compEnvC scope cl C X.env = ce at IB pg pe hR cefr cL ⊢
  have stat : ∀ b ∈ fp, FpOk (X.blk sL HL scope ce fp) [] HL b := fun b hb =>
    ⟨outL b hb, (IB.ok.exf b hb).1, IB.ok.exfs b hb, .inl hb, fun x c e => (IB.ok.exf b hb).2 x c e, fun p hp => absurd (show p ∈ ([] : List (Addr × Obj)) ++ [] from hp) (by simp)⟩
  obtain ⟨G, Y, wk, hG, hY⟩ := w3
  have one0 : 0 < (p0 :: Ps).length := by simp
  have loop : codeAny (model X.prog X.w) X.A (.compLoop (.ListComp elt [⟨tg, iter, [], 0⟩] scope pos) 0 (.ref it) (.ref Dl) ce) R sB := by
    refine compLoop_any (fun _ s' => s' = sB) (fun n s5 hs5 => ?_) 0 rfl
    subst hs5
    refine wpAny_mono (T.item (X.blk sL HL scope ce fp) rfl rfl rfl hc 0 [] s5 _ HL _ IB stat tB (wk.goes 0 HL one0 (hG HL (Same.refl _)))) (fun r s6 ⟨u, hr, h6⟩ => ?_) fun _ _ z => z
    subst hr
    refine wpAny_mono h6 (fun _ s7 ⟨x, H7, I7, r7, y7, st7, n7⟩ => ?_) fun _ _ z => z
    obtain ⟨P, hP, hNx⟩ := hY 0 HL x H7 one0 (Same.refl _) (wk.yields 0 HL x H7 one0 (hG HL (Same.refl _)) y7)
    have hP : p0 = P := Option.some.inj hP
    subst hP
    obtain ⟨H07, nx7, fx⟩ := hNx H02 (Same.refl _) S3.sub
    have S7 := (S3.step nx7).wipe (own.map (·.2))
    have stat7 : ∀ b ∈ fp, FpOk (X.blk sL HL scope ce fp) [] H7 b := fun b hb => ⟨n7 b hb, (stat b hb).2⟩
    have I7' := I7.pinned stat7 (T.obj _ _ st7)
    refine thnF (pg.run _ s7 _ H7 x u (fun σ8 H8 => H8 = H7 ∧ Sat B B0 ρ' ω σ8 H7 H07) I7' r7 (hgj B B0 ω _ H7 H07 x S7 fx _ fun σ8 S8 _ => ⟨rfl, S8⟩)) fun _ s8 ⟨σ8, H8, I8, e8, S8⟩ => ?_
    subst e8
    refine wpAny_tests_nil ?_
    rw [if_pos rfl]
    obtain ⟨E, hE⟩ : ∃ E : XK, E = fun cls d H' => cls = .ref C0 ∧ d = none ∧ Same H8 H' := ⟨_, rfl⟩
    obtain ⟨xe, hxe⟩ : ∃ xe : Value → Shared → Prop, xe = fun u s' => ∃ pins' σ' H' sI, Inv (X.blk sL HL scope ce fp) pins' σ' H' sI ∧ L2.CX X.prog X.w X.stack H' sI E u s' := ⟨_, rfl⟩
    refine wpAny_mono ((pe xe).run E (fun σ' pins' H' sI u s' J c => ?_) B B0 σ8 H8 H07 S8 (fun H' z => by rw [hE]; exact ⟨rfl, rfl, z⟩) (fun _ _ => False) _ s8 (I8.wish xe)) (fun y s9 z => ?_) fun u s' z => ?_
    · show xe u s'
      rw [hxe]
      exact ⟨pins', σ', H', sI, J.unwish, c⟩
    · obtain ⟨_, _, _, _, z⟩ := z
      exact z.elim
    · have z : xe u s' := z
      rw [hxe] at z
      obtain ⟨pins', σ', H9, s9, I9, c⟩ := z
      have fl : ∃ (a : Addr) (B : Heap) (cls : Value) (d : Option Addr), u = .ref a ∧ HandSPX.FlyingZ B X.stack a (Zc cls d) s'.heap := by
        obtain ⟨a, B1, H', cls, d, e1, e2, _⟩ := c
        exact ⟨a, B1, cls, d, e1, e2⟩
      obtain ⟨a, B1, cls0, d0, eu, fl⟩ := fl
      have xx := XE.of_call (X := X.blk sL HL scope ce fp) (W := fun cls d _ H' => E cls d H') I9 (fun _ _ _ z => z) c
      obtain ⟨a1, Bg, sI, pins2, σ2, H', cls, d, eu2, J, nb, up, sky, na, os, ag, hEE⟩ := xx
      rw [eu] at eu2
      cases eu2
      subst eu
      have fly : HandSPX.FlyingZ Bg X.stack a (Zc cls d) s'.heap := sky_fly sky fl
      rw [hE] at hEE
      obtain ⟨rfl, rfl, sm⟩ := hEE
      -- without the block
      have I10 : Inv X pins σ H' sI := IL.call' (ch := fp) J.os J.base J.hok J.bare fun b hb => ⟨(fL b hb).1.2.2.2.1, (fL b hb).1.2.1, (fL b hb).1.2.2.2.2.1, (fL b hb).1.2.2.2.2.2⟩
      have nC : H' C = none := by
        have z : H' ce.locals = none := J.free
        rw [cL] at z
        exact z
      obtain ⟨f0, f1, ff, f4, f5, f6⟩ := IL.fpOk (Nat.le_of_eq hC) nC
      have nCs : C ∉ frs X.stack := fun hm => by
        rcases List.mem_cons.mp (I10.stkSub C hm) with z | z
        · exact f1 z
        · exact ff z
      obtain ⟨m, hn, _⟩ := J.loc
      have hn : sI.heap.Ns C m := by rw [← cL]; exact hn
      have ⟨oC, _, _, hoC, _⟩ := hn
      have hBC := nb C oC hoC nCs
      have hide1 : ∀ b o, (PySem.W.hideAll sI.heap [C]).get? b = some o → b ≠ C ∧ sI.heap.get? b = some o := fun b o q => ⟨fun z => (by rw [z, PySem.W.hideAll_none [C] (by simp)] at q; cases q), PySem.W.of_hideAll _ q⟩
      have I11 := I10.turned (t' := sI.toks) (h' := PySem.W.hideAll sI.heap [C]) (fun b o hb e => PySem.W.hideAll_get [C] e (by simpa using hb)) f0 f1 f4 f5 f6
      have hA : X.A.frames = some (X.env :: X.outer) := by rw [I.ok.frames, hst]
      show wpAny _ _ (noteFrame (.ref a) ce) _ _ _
      rw [noteFrame_env cefr]
      refine HandSPX.looks_onZ Zc.steady hA hfr (by rw [← hst]; exact fly) fun h10 held up10 => ?_
      rw [← hst] at held
      rw [hR]
      refine ⟨.ref a, rfl, m, ns_slots (up.trans up10) hn, fun h11 sb => ?_⟩
      have held2 := held_hide held hBC nCs sb
      obtain ⟨k1, k2, k3, oe, vs, TT', oT, ts', t1, t2, t3, t4, t5⟩ := id held2
      unfold PySem.passOn
      refine wpAny_bind (wpAny_field t1 t3 t4 ?_)
      rw [if_neg (show ¬ ((Value.ref TT' == Value.none) = true) from by simp)]
      have fin : wpAny (model X.prog X.w) X.A (setFlight (.ref a) ce.frame) (fun _ sB => wpAny (model X.prog X.w) X.A (throw (.ref a) : Sem Value) (fun _ _ => False) X.xe sB) X.xe { s' with heap := h11 } := by
        rw [cefr, hfr]
        refine HandSPX.setFlight_onZ held2 fun h12 hh12 up12 => wpAny_throw (tk _ _ ?_)
        refine ⟨a, _, _, pins, σ, H', _, _, rfl, I11, fun b o e hb => ?_, fun b o e hnf => ?_, .inr (.inr hh12), na, os, ag, q H' (sm3.trans (nx7.a.trans sm))⟩
        · obtain ⟨q1, q2⟩ := hide1 b o e
          exact PySem.W.hideAll_get [C] (nb b o q2 hb) (by simpa using q1)
        · obtain ⟨q1, q2⟩ := hide1 b o e
          obtain ⟨sl1, r1⟩ := (up.trans up10) b o q2 hnf
          have r2 := (sb.2 b q1).trans r1
          obtain ⟨sl3, r3⟩ := up12 b _ r2 hnf
          exact ⟨sl3, r3⟩
      exact wpAny_bind fin
  exact codeAny_compStart_list loop (T.self X.A 0 _ _ _ tB loop)
/-- `x is True`, as a value -/
theorem ev_isBB {X : Cx} {ρ : En} {ω : Ow} {a b : Expr} {pos : Pos} {k l : Bool} (h1 : Ev X ρ ω a (rp k)) (h2 : Ev X ρ ω b (rp l)) : Ev X ρ ω (.Compare a [.Is] [b] pos) (rp (decide (k = l))) :=
  ev_cmp op_isBB (fun v1 v2 H H0 s f1 f2 Q q => ⟨k, l, f1, f2, q _ H H0 (Nx.refl s) rfl⟩) h1 h2 (nomark _)
theorem ItrC.cast {X : Cx} {ρ : En} {ω : Ow} {tg iter : Expr} {ys zs : List MP} (h : ItrC X ρ ω tg iter ys) (e : ys = zs) : ItrC X ρ ω tg iter zs := e ▸ h
theorem irange_head (n : Nat) : (irange 0 ((n : Int) + 1).toNat).map rp = rp (0 : Int) :: (irange 1 n).map rp := by
  have e : ((n : Int) + 1).toNat = n + 1 := by omega
  rw [e]
  unfold irange
  rw [List.range_succ_eq_map, List.map_cons, List.map_map, List.map_cons]
  congr 2
  apply List.map_congr_left
  intro i _
  show (0 : Int) + ((i + 1 : Nat) : Int) = 1 + (i : Int)
  push_cast; omega
theorem irange_get? {n j : Nat} (h : j < n) : (irange 0 n)[j]? = some (j : Int) := by
  unfold irange
  rw [List.getElem?_map, List.getElem?_range h]
  show some ((0 : Int) + (j : Int)) = _
  rw [Int.zero_add]
end
end DF

namespace DF
open R (rp)
open Dt (toD)
/-! ### the plain functions: what the defs compute -/
def tab : List Int := [48271, 69621, 16807, 39373, 30269, 40014, 40692, 50021, 61687, 71993, 83869, 95561, 30307]
def stirOf (cell k : Int) : Int := ((cell % 2147483647 + 12345) * tab.getD (k % 13).toNat 0 + 977 * k + 7919 * (k / 13)) % 1000000007
def mix (cell k many : Int) : Int := (stirOf cell k * stirOf cell k + 48271 * k) % 1000000007 / 7 % many
def cellAt (ns : List Int) (k : Int) : Int := ns.getD k.toNat 0
theorem stir_bd (c k : Int) : 0 ≤ stirOf c k ∧ stirOf c k < 1000000007 := ⟨Int.emod_nonneg _ (by decide), Int.emod_lt_of_pos _ (by decide)⟩
theorem mix_bd {c k m : Int} (h : 0 < m) : 0 ≤ mix c k m ∧ mix c k m < m := ⟨Int.emod_nonneg _ (by omega), Int.emod_lt_of_pos _ h⟩
theorem tab_le : ∀ j : Nat, 0 ≤ tab.getD j 0 ∧ tab.getD j 0 < 100000 := by
  intro j
  by_cases h : j < 13
  · have : ∀ k : Fin 13, 0 ≤ tab.getD k.val 0 ∧ tab.getD k.val 0 < 100000 := by decide +kernel
    exact this ⟨j, h⟩
  · rw [List.getD_eq_getElem?_getD, List.getElem?_eq_none (by show 13 ≤ j; omega)]; decide
abbrev Dim (h w : Int) : Prop := (0 ≤ h ∧ h ≤ 6) ∧ 0 ≤ w ∧ w ≤ 6
def rowOf (w : Int) (r : Int) : List Cell := (irange 0 w.toNat).map fun c => (r, c)
def allCells (h w : Int) : List Cell := (irange 0 h.toNat).flatMap (rowOf w)
theorem mem_rowOf {w r : Int} {x : Cell} (hw : 0 ≤ w) : x ∈ rowOf w r ↔ x.1 = r ∧ 0 ≤ x.2 ∧ x.2 < w := by
  unfold rowOf
  simp only [List.mem_map, mem_irange]
  constructor
  · rintro ⟨c, h, rfl⟩; exact ⟨rfl, by omega, by omega⟩
  · rintro ⟨rfl, h1, h2⟩; exact ⟨x.2, by omega, rfl⟩
theorem mem_allCells {h w : Int} (d : Dim h w) {x : Cell} : x ∈ allCells h w ↔ (0 ≤ x.1 ∧ x.1 < h) ∧ 0 ≤ x.2 ∧ x.2 < w := by
  unfold allCells
  simp only [List.mem_flatMap, mem_irange, mem_rowOf d.2.1]
  constructor
  · rintro ⟨r, h1, rfl, h2⟩; exact ⟨by omega, h2⟩
  · rintro ⟨h1, h2⟩; exact ⟨x.1, by omega, rfl, h2⟩
theorem flat_len {α β : Type} (f : α → List β) {n : Nat} : ∀ (l : List α), (∀ x ∈ l, (f x).length ≤ n) → (l.flatMap f).length ≤ l.length * n
  | [], _ => by simp
  | x :: l, h => by
    have := flat_len f l fun y hy => h y (by simp [hy])
    have := h x (by simp)
    simp only [List.flatMap_cons, List.length_append, List.length_cons, Nat.succ_mul]
    omega
theorem rowOf_len {w r : Int} : (rowOf w r).length = w.toNat := by simp [rowOf, irange_len]
theorem flatMap_take_len {w : Int} (l : List Int) : (l.flatMap (rowOf w)).length = l.length * w.toNat := by
  induction l with
  | nil => simp
  | cons x l ih => simp only [List.flatMap_cons, List.length_append, List.length_cons, Nat.succ_mul, ih, rowOf_len]; omega
theorem allCells_len {h w : Int} (d : Dim h w) : (allCells h w).length ≤ 36 := by
  unfold allCells
  rw [flatMap_take_len, irange_len]
  have h1 : h.toNat ≤ 6 := by omega
  have h2 : w.toNat ≤ 6 := by omega
  exact Nat.mul_le_mul h1 h2
def iabs (i : Int) : Int := if i < 0 then -i else i
def nearB (c x : Cell) : Bool := decide (iabs (x.1 - c.1) ≤ 1) && (decide (iabs (x.2 - c.2) ≤ 1) && !decide (x = c))
def around (h w : Int) (c : Cell) : List Cell := (allCells h w).filter (nearB c)
theorem around_len {h w : Int} (d : Dim h w) (c : Cell) : (around h w c).length ≤ 36 := Nat.le_trans (List.length_filter_le _ _) (allCells_len d)
def offs : List Cell := [(-1, -1), (-1, 0), (-1, 1), (0, -1), (0, 1), (1, -1), (1, 0), (1, 1)]
def inF (h w : Int) (x : Cell) : Bool := (decide (0 ≤ x.1) && decide (x.1 < h)) && (decide (0 ≤ x.2) && decide (x.2 < w))
def lnear (h w : Int) (c : Cell) : List Cell := (offs.map fun d => (c.1 + d.1, c.2 + d.2)).filter (inF h w)
theorem lnear_len (h w : Int) (c : Cell) : (lnear h w c).length ≤ 8 := by
  refine Nat.le_trans (List.length_filter_le _ _) ?_
  rw [List.length_map]; decide
/-! views by their rows -/
def vsigns : List Nat := [35, 48, 49, 50, 51, 52, 53, 54, 55, 56]
def widthOf (rows : List Tx) : Nat := (rows.headD ⟨[]⟩).cs.length
structure Vw (rows : List Tx) : Prop where
  h1 : 1 ≤ rows.length
  h6 : rows.length ≤ 6
  w1 : 1 ≤ widthOf rows
  w6 : widthOf rows ≤ 6
  row : ∀ row ∈ rows, row.cs.length = widthOf rows ∧ ∀ c ∈ row.cs, c ∈ vsigns
/-- the sign of a cell -/
def sgn (rows : List Tx) (x : Cell) : Nat := (rows.getD x.1.toNat ⟨[]⟩).cs.getD x.2.toNat 0
def lcells (rows : List Tx) (signs : Tx) : List Cell := (irange 0 rows.length).flatMap fun r => ((irange 0 (widthOf rows)).filter fun c => decide (sgn rows (r, c) ∈ signs.cs)).map fun c => (r, c)
def lfigure (h w : Int) (stones : List Cell) (c : Cell) : Nat := ((lnear h w c).filter fun x => decide (x ∈ stones)).length
theorem lfigure_le (h w : Int) (stones : List Cell) (c : Cell) : lfigure h w stones c ≤ 8 := Nat.le_trans (List.length_filter_le _ _) (lnear_len h w c)
def signAt (h w : Int) (stones known : List Cell) (x : Cell) : Nat := if x ∈ known then 48 + lfigure h w stones x else 35
def lshown (h w : Int) (stones known : List Cell) : List Tx := (irange 0 h.toNat).map fun r => ⟨(irange 0 w.toNat).map fun c => signAt h w stones known (r, c)⟩
end DF
namespace DF
open R (rp)
open Dt (toD)
open L2
/-! slices by take and drop -/
theorem sIx_nat {n d j : Nat} (h : j ≤ n) : HT.sIx n d (some (j : Int)) = j := by
  unfold HT.sIx
  simp only []
  split <;> omega
theorem cutL_to {α : Type} {xs : List α} {i : Int} (h0 : 0 ≤ i) (h : i ≤ xs.length) : cutL xs none (some i) = xs.take i.toNat := by
  obtain ⟨j, rfl⟩ : ∃ j : Nat, i = (j : Int) := ⟨i.toNat, by omega⟩
  unfold cutL
  rw [sIx_nat (by omega)]
  simp [HT.sIx]
theorem cutL_from {α : Type} {xs : List α} {i : Int} (h0 : 0 ≤ i) (h : i ≤ xs.length) : cutL xs (some i) none = xs.drop i.toNat := by
  obtain ⟨j, rfl⟩ : ∃ j : Nat, i = (j : Int) := ⟨i.toNat, by omega⟩
  unfold cutL
  rw [sIx_nat (by omega)]
  simp only [HT.sIx, Int.toNat_natCast]
  rw [List.take_of_length_le]
  rw [List.length_drop]; omega
theorem set_of_cut {α : Type} {xs : List α} {i : Int} {x : α} (h0 : 0 ≤ i) (h : i < xs.length) : cutL xs none (some i) ++ [x] ++ cutL xs (some (i + 1)) none = xs.set i.toNat x := by
  rw [cutL_to h0 (by omega), cutL_from (by omega) (by omega), List.set_eq_take_append_cons_drop, if_pos (by omega)]
  rw [show (i + 1).toNat = i.toNat + 1 by omega]
  simp
theorem nodup_le {α : Type} [DecidableEq α] : ∀ {l m : List α}, l.Nodup → (∀ x ∈ l, x ∈ m) → l.length ≤ m.length
  | [], _, _, _ => by simp
  | x :: l, m, h, s => by
    obtain ⟨h1, h2⟩ := List.nodup_cons.mp h
    have hx := s x (by simp)
    have : l.length ≤ (m.erase x).length := nodup_le h2 fun y hy => by
      have hne : y ≠ x := fun e => h1 (e ▸ hy)
      exact (List.mem_erase_of_ne hne).mpr (s y (by simp [hy]))
    rw [List.length_erase_of_mem hx] at this
    have := List.length_pos_of_mem hx
    simp only [List.length_cons]
    omega
/-! the law's own field and views -/
structure Fld where
  (h w : Int)
  stones : List Cell
instance : R Fld := ⟨fun f => tupM [rp f.h, rp f.w, rp f.stones]⟩
def thinOf (ns : List Int) : Int := ([3, 5, 9] : List Int).getD (mix (cellAt ns 0) 3 3).toNat 0
def stoneB (ns : List Int) (thin : Int) (x : Cell) : Bool := decide (mix (cellAt ns (1 + x.1)) x.2 thin = 0)
def stonesOf (ns : List Int) (thin h w : Int) : List Cell := (irange 0 h.toNat).flatMap fun r => (rowOf w r).filter (stoneB ns thin)
def fieldBy (ns : List Int) (most : Int) : Fld := ⟨1 + mix (cellAt ns 0) 1 most, 1 + mix (cellAt ns 0) 2 most, stonesOf ns (thinOf ns) (1 + mix (cellAt ns 0) 1 most) (1 + mix (cellAt ns 0) 2 most)⟩
theorem stonesOf_sub {ns : List Int} {thin h w : Int} : ∀ x ∈ stonesOf ns thin h w, x ∈ allCells h w := by
  intro x hx
  unfold stonesOf at hx
  unfold allCells
  simp only [List.mem_flatMap, List.mem_filter] at hx ⊢
  obtain ⟨r, h1, h2, _⟩ := hx
  exact ⟨r, h1, h2⟩
theorem flat_filter_len {w : Int} {p : Cell → Bool} (l : List Int) : (l.flatMap fun r => (rowOf w r).filter p).length ≤ l.length * w.toNat := by
  induction l with
  | nil => simp
  | cons x l ih =>
    simp only [List.flatMap_cons, List.length_append, List.length_cons, Nat.succ_mul]
    have := List.length_filter_le p (rowOf w x)
    rw [rowOf_len] at this
    omega
theorem stonesOf_len {ns : List Int} {thin h w : Int} (d : Dim h w) : (stonesOf ns thin h w).length ≤ 36 := by
  refine Nat.le_trans (flat_filter_len _) ?_
  rw [irange_len]
  have h1 : h.toNat ≤ 6 := by omega
  have h2 : w.toNat ≤ 6 := by omega
  exact Nat.mul_le_mul h1 h2
theorem fieldBy_dim {ns : List Int} {most : Int} (hm : 1 ≤ most ∧ most ≤ 6) : (1 ≤ (fieldBy ns most).h ∧ (fieldBy ns most).h ≤ most) ∧ 1 ≤ (fieldBy ns most).w ∧ (fieldBy ns most).w ≤ most := by
  have h1 := mix_bd (c := cellAt ns 0) (k := 1) (m := most) (by omega)
  have h2 := mix_bd (c := cellAt ns 0) (k := 2) (m := most) (by omega)
  show (1 ≤ 1 + mix _ _ _ ∧ 1 + mix _ _ _ ≤ most) ∧ 1 ≤ 1 + mix _ _ _ ∧ 1 + mix _ _ _ ≤ most
  omega
theorem thin_pos {ns : List Int} : 0 < thinOf ns := by
  have h := mix_bd (c := cellAt ns 0) (k := 3) (m := 3) (by omega)
  unfold thinOf
  obtain ⟨j, hj⟩ : ∃ j : Nat, mix (cellAt ns 0) 3 3 = (j : Int) := ⟨(mix (cellAt ns 0) 3 3).toNat, by omega⟩
  rw [hj]
  match j, (by omega : j < 3) with
  | 0, _ => decide
  | 1, _ => decide
  | 2, _ => decide
/-! opening, as the law does it -/
def lgrow (h w : Int) (st known found : List Cell) (c : Cell) : List Cell := if lfigure h w st c = 0 then found ++ (lnear h w c).filter (fun x => !decide (x ∈ known) && !decide (x ∈ found)) else found
def lgo (h w : Int) (st known : List Cell) : Nat → List Cell → Nat → List Cell
  | 0, found, _ => found
  | n + 1, found, k => if k < found.length then lgo h w st known n (lgrow h w st known found (found.getD k (0, 0))) (k + 1) else found
def lopened (h w : Int) (st known : List Cell) (c : Cell) : List Cell := lgo h w st known 37 [c] 0
theorem offs_nd : offs.Nodup := by decide
theorem lnear_nd (h w : Int) (c : Cell) : (lnear h w c).Nodup := by
  unfold lnear
  refine List.Nodup.sublist List.filter_sublist ?_
  refine List.Pairwise.map _ (fun a b hab => ?_) offs_nd
  intro e
  apply hab
  have e1 := congrArg Prod.fst e
  have e2 := congrArg Prod.snd e
  simp only at e1 e2
  exact Prod.ext (by omega) (by omega)
theorem lnear_in {h w : Int} {c x : Cell} (hx : x ∈ lnear h w c) : inF h w x = true := (List.mem_filter.mp hx).2
theorem inF_iff {h w : Int} {x : Cell} : inF h w x = true ↔ (0 ≤ x.1 ∧ x.1 < h) ∧ 0 ≤ x.2 ∧ x.2 < w := by
  unfold inF
  simp only [Bool.and_eq_true, decide_eq_true_eq]
theorem inF_cells {h w : Int} (d : Dim h w) {x : Cell} : inF h w x = true ↔ x ∈ allCells h w := by rw [inF_iff, mem_allCells d]
/-- found stays a list of cells of the field, none twice -/
structure Fnd (h w : Int) (found : List Cell) : Prop where
  nd : found.Nodup
  sub : ∀ x ∈ found, inF h w x = true
theorem Fnd.len {h w : Int} {found : List Cell} (d : Dim h w) (f : Fnd h w found) : found.length ≤ 36 := Nat.le_trans (nodup_le f.nd fun x hx => (inF_cells d).mp (f.sub x hx)) (allCells_len d)
theorem Fnd.grow {h w : Int} {st known found : List Cell} {c : Cell} (f : Fnd h w found) : Fnd h w (lgrow h w st known found c) := by
  unfold lgrow
  split
  · refine ⟨List.nodup_append.mpr ⟨f.nd, (lnear_nd h w c).sublist List.filter_sublist, fun a ha b hb e => ?_⟩, fun x hx => ?_⟩
    · subst e
      have := (List.mem_filter.mp hb).2
      simp [ha] at this
    · rcases List.mem_append.mp hx with z | z
      · exact f.sub x z
      · exact lnear_in (List.mem_filter.mp z).1
  · exact f
theorem lgo_fnd {h w : Int} {st known : List Cell} : ∀ (n : Nat) (found : List Cell) (k : Nat), Fnd h w found → Fnd h w (lgo h w st known n found k)
  | 0, found, k, f => f
  | n + 1, found, k, f => by
    unfold lgo
    split
    · exact lgo_fnd n _ _ f.grow
    · exact f
theorem lopened_fnd {h w : Int} {st known : List Cell} {c : Cell} (hc : inF h w c = true) : Fnd h w (lopened h w st known c) := lgo_fnd _ _ _ ⟨by simp, fun x hx => by rw [List.mem_singleton.mp hx]; exact hc⟩
def freeRow (w : Int) (st : List Cell) (r : Int) : List Cell := ((irange 0 w.toNat).filter fun c => !decide ((r, c) ∈ st)).map fun c => (r, c)
def freeOf (h w : Int) (st : List Cell) : List Cell := (irange 0 h.toNat).flatMap (freeRow w st)
theorem freeOf_in {h w : Int} {st : List Cell} {x : Cell} (hx : x ∈ freeOf h w st) : inF h w x = true ∧ x ∉ st := by
  unfold freeOf freeRow at hx
  simp only [List.mem_flatMap, List.mem_map, List.mem_filter, mem_irange] at hx
  obtain ⟨r, h1, c, ⟨h2, h3⟩, rfl⟩ := hx
  exact ⟨inF_iff.mpr ⟨⟨h1.1, by omega⟩, h2.1, by omega⟩, by simpa using h3⟩
def kstep (ns : List Int) (h w : Int) (st free known : List Cell) (k : Int) : List Cell :=
  if 0 < (free.filter fun x => !decide (x ∈ known)).length then known ++ lopened h w st known ((free.filter fun x => !decide (x ∈ known)).getD (mix (cellAt ns (11 + k)) k (free.filter fun x => !decide (x ∈ known)).length).toNat (0, 0)) else known
def knownBy (ns : List Int) (h w : Int) (st : List Cell) (n : Int) : List Cell := (irange 0 n.toNat).foldl (kstep ns h w st (freeOf h w st)) []
def viewBy (ns : List Int) (most steps : Int) : List Tx × List Cell :=
  (lshown (fieldBy ns most).h (fieldBy ns most).w (fieldBy ns most).stones (knownBy ns (fieldBy ns most).h (fieldBy ns most).w (fieldBy ns most).stones (cellAt ns 10 % steps)), (fieldBy ns most).stones)
/-- one sign put otherwise -/
def putSign (rows : List Tx) (x : Cell) (s : Nat) : List Tx := rows.set x.1.toNat ⟨(rows.getD x.1.toNat ⟨[]⟩).cs.set x.2.toNat s⟩
def wrongBy (ns : List Int) (rows : List Tx) : List Tx :=
  if cellAt ns 18 % 3 = 1 then putSign rows (mix (cellAt ns 18) 1 rows.length, mix (cellAt ns 18) 2 (widthOf rows)) (([35, 48, 49, 50, 51] : List Nat).getD (mix (cellAt ns 18) 3 5).toNat 0) else rows
end DF

namespace DF
open R (rp)
open Dt (toD)
/-! ### views: the plain functions -/
def goodRow (w : Nat) (row : Tx) : Bool := decide (row.cs.length = w) && row.cs.all fun c => decide (c ∈ vsigns)
def rowsRight (rows : List Tx) : Bool := (decide (1 ≤ rows.length ∧ rows.length ≤ 6) && decide (1 ≤ widthOf rows ∧ widthOf rows ≤ 6)) && rows.all (goodRow (widthOf rows))
theorem rowsRight_iff {rows : List Tx} : rowsRight rows = true ↔ Vw rows := by
  unfold rowsRight goodRow
  simp only [Bool.and_eq_true, decide_eq_true_eq, List.all_eq_true]
  constructor
  · rintro ⟨⟨⟨h1, h2⟩, h3, h4⟩, h5⟩
    exact ⟨h1, h2, h3, h4, h5⟩
  · rintro ⟨h1, h2, h3, h4, h5⟩
    exact ⟨⟨⟨h1, h2⟩, h3, h4⟩, h5⟩
def hid (rows : List Tx) (x : Cell) : Bool := decide (sgn rows x = 35)
abbrev hOf (rows : List Tx) : Int := (rows.length : Int)
abbrev wOf (rows : List Tx) : Int := (widthOf rows : Int)
def closedOf (rows : List Tx) : List Cell := (allCells (hOf rows) (wOf rows)).filter (hid rows)
def isEdge (rows : List Tx) (x : Cell) : Bool := !((around (hOf rows) (wOf rows) x).all (hid rows))
def edgeOf (rows : List Tx) : List Cell := (closedOf rows).filter (isEdge rows)
def farOf (rows : List Tx) : List Cell := (closedOf rows).filter fun x => !isEdge rows x
theorem Vw.dim {rows : List Tx} (v : Vw rows) : Dim (hOf rows) (wOf rows) := by
  have := v.h6
  have := v.w6
  simp only [hOf, wOf]
  omega
theorem closed_len {rows : List Tx} (v : Vw rows) : (closedOf rows).length ≤ 36 := Nat.le_trans (List.length_filter_le _ _) (allCells_len v.dim)
theorem all_map {α : Type} (f : α → Bool) (l : List α) : (l.map f).all (fun k => k) = l.all f := by
  rw [List.all_map]; rfl
end DF

namespace DF
open R (rp)
open Dt (toD)
/-! ### what k02 tells, in plain lists -/
def lhid (rows : List Tx) : List Cell := lcells rows ⟨[35]⟩
def ledgeB (rows : List Tx) (c : Cell) : Bool := decide (0 < ((lnear (hOf rows) (wOf rows) c).filter fun x => !decide (x ∈ lhid rows)).length)
def ledge (rows : List Tx) : List Cell := (lhid rows).filter (ledgeB rows)
def lfar (rows : List Tx) : List Cell := (lhid rows).filter fun x => !decide (x ∈ ledge rows)
abbrev Srt (l : List Cell) : Prop := l.Pairwise fun a b => clt a b = true
theorem clt_iff {a b : Cell} : clt a b = true ↔ a.1 < b.1 ∨ (a.1 = b.1 ∧ a.2 < b.2) := by unfold clt; rw [decide_eq_true_iff]
theorem clt_trans {a b c : Cell} (h1 : clt a b = true) (h2 : clt b c = true) : clt a c = true := by
  rw [clt_iff] at *; omega
theorem clt_irr {a : Cell} (h : clt a a = true) : False := by rw [clt_iff] at h; omega
theorem srt_ext : ∀ {l m : List Cell}, Srt l → Srt m → (∀ x, x ∈ l ↔ x ∈ m) → l = m
  | [], [], _, _, _ => rfl
  | [], y :: m, _, _, h => by have := (h y).mpr (by simp); simp at this
  | x :: l, [], _, _, h => by have := (h x).mp (by simp); simp at this
  | x :: l, y :: m, hl, hm, h => by
    obtain ⟨a1, a2⟩ := List.pairwise_cons.mp hl
    obtain ⟨b1, b2⟩ := List.pairwise_cons.mp hm
    have e : x = y := by
      have hx := (h x).mp (by simp)
      have hy := (h y).mpr (by simp)
      rcases List.mem_cons.mp hx with e | hx
      · exact e
      · rcases List.mem_cons.mp hy with e | hy
        · exact e.symm
        · exact (clt_irr (clt_trans (a1 y hy) (b1 x hx))).elim
    subst e
    congr 1
    refine srt_ext a2 b2 fun z => ?_
    constructor
    · intro hz
      rcases List.mem_cons.mp ((h z).mp (by simp [hz])) with e | hz'
      · subst e; exact (clt_irr (a1 z hz)).elim
      · exact hz'
    · intro hz
      rcases List.mem_cons.mp ((h z).mpr (by simp [hz])) with e | hz'
      · subst e; exact (clt_irr (b1 z hz)).elim
      · exact hz'
theorem irange_srt {lo : Int} {n : Nat} : (irange lo n).Pairwise (· < ·) := by
  unfold irange
  refine List.Pairwise.map _ (fun a b h => ?_) (List.pairwise_lt_range (n := n))
  omega
theorem rowOf_srt {w r : Int} : Srt (rowOf w r) := by
  unfold rowOf
  refine List.Pairwise.map _ (fun a b h => ?_) irange_srt
  rw [clt_iff]; right; exact ⟨rfl, h⟩
theorem allCells_srt {h w : Int} (d : Dim h w) : Srt (allCells h w) := by
  unfold allCells
  refine List.pairwise_flatMap.mpr ⟨fun r _ => rowOf_srt, ?_⟩
  refine irange_srt.imp fun {a b} hab x hx y hy => ?_
  rw [clt_iff]; left
  rw [((mem_rowOf d.2.1).mp hx).1, ((mem_rowOf d.2.1).mp hy).1]; exact hab
theorem srt_filter {l : List Cell} {p : Cell → Bool} (h : Srt l) : Srt (l.filter p) := List.Pairwise.filter _ h
theorem around_srt {h w : Int} (d : Dim h w) {c : Cell} : Srt (around h w c) := srt_filter (allCells_srt d)
theorem lnear_srt {h w : Int} {c : Cell} : Srt (lnear h w c) := by
  unfold lnear
  refine srt_filter ?_
  have : offs.Pairwise fun a b => clt a b = true := by decide
  refine List.Pairwise.map _ (fun a b h => ?_) this
  rw [clt_iff] at *
  simp only
  omega
theorem psort_srt {l : List Cell} (h : Srt l) : psort l = l := by
  unfold psort
  refine List.mergeSort_of_pairwise (h.imp fun {a b} hab => ?_)
  show (!clt b a) = true
  rw [Bool.not_eq_true', ← Bool.not_eq_true]
  intro hba
  exact clt_irr (clt_trans hab hba)
theorem mem_around {h w : Int} (d : Dim h w) {c x : Cell} : x ∈ around h w c ↔ inF h w x = true ∧ nearB c x = true := by
  unfold around
  rw [List.mem_filter, inF_cells d]
theorem nearB_iff {c x : Cell} : nearB c x = true ↔ (-1 ≤ x.1 - c.1 ∧ x.1 - c.1 ≤ 1) ∧ (-1 ≤ x.2 - c.2 ∧ x.2 - c.2 ≤ 1) ∧ x ≠ c := by
  unfold nearB iabs
  simp only [Bool.and_eq_true, decide_eq_true_eq, Bool.not_eq_true', decide_eq_false_iff_not]
  constructor
  · rintro ⟨h1, h2, h3⟩
    refine ⟨?_, ?_, h3⟩ <;> (split at h1 <;> split at h2 <;> omega)
  · rintro ⟨h1, h2, h3⟩
    refine ⟨?_, ?_, h3⟩ <;> (split <;> omega)
theorem mem_offs {d : Cell} : d ∈ offs ↔ (-1 ≤ d.1 ∧ d.1 ≤ 1) ∧ (-1 ≤ d.2 ∧ d.2 ≤ 1) ∧ d ≠ (0, 0) := by
  obtain ⟨a, b⟩ := d
  unfold offs
  simp only [List.mem_cons, List.not_mem_nil, or_false, Prod.mk.injEq, ne_eq]
  omega
theorem mem_lnear {h w : Int} {c x : Cell} : x ∈ lnear h w c ↔ inF h w x = true ∧ nearB c x = true := by
  unfold lnear
  rw [List.mem_filter, List.mem_map]
  constructor
  · rintro ⟨⟨d, hd, rfl⟩, hf⟩
    refine ⟨hf, ?_⟩
    rw [nearB_iff]
    have hd := mem_offs.mp hd
    obtain ⟨a, b⟩ := d
    obtain ⟨c1, c2⟩ := c
    simp only [ne_eq, Prod.mk.injEq] at hd ⊢
    omega
  · rintro ⟨hf, hn⟩
    refine ⟨⟨(x.1 - c.1, x.2 - c.2), ?_, ?_⟩, hf⟩
    · rw [mem_offs]
      rw [nearB_iff] at hn
      obtain ⟨x1, x2⟩ := x
      obtain ⟨c1, c2⟩ := c
      simp only [ne_eq, Prod.mk.injEq] at hn ⊢
      omega
    · obtain ⟨x1, x2⟩ := x
      obtain ⟨c1, c2⟩ := c
      simp only [Prod.mk.injEq]
      omega
/-- the law's list of the near cells is the program's -/
theorem lnear_eq {h w : Int} (d : Dim h w) (c : Cell) : lnear h w c = around h w c := srt_ext lnear_srt (around_srt d) fun x => by rw [mem_lnear, mem_around d]
theorem sorted_lnear {h w : Int} (d : Dim h w) (c : Cell) : psort (lnear h w c) = around h w c := by rw [psort_srt lnear_srt, lnear_eq d]
theorem lcells_eq {rows : List Tx} {signs : Tx} (v : Vw rows) : lcells rows signs = (allCells (hOf rows) (wOf rows)).filter fun x => decide (sgn rows x ∈ signs.cs) := by
  unfold lcells allCells rowOf
  simp only [hOf, wOf, Int.toNat_natCast]
  rw [List.filter_flatMap]
  congr 1
  funext r
  rw [List.filter_map]; rfl
theorem lhid_eq {rows : List Tx} (v : Vw rows) : lhid rows = closedOf rows := by
  unfold lhid closedOf
  rw [lcells_eq v]
  congr 1
  funext x
  unfold hid
  simp
theorem mem_closed {rows : List Tx} (v : Vw rows) {x : Cell} : x ∈ closedOf rows ↔ inF (hOf rows) (wOf rows) x = true ∧ hid rows x = true := by
  unfold closedOf
  rw [List.mem_filter, inF_cells v.dim]
theorem ledgeB_eq {rows : List Tx} (v : Vw rows) (c : Cell) : ledgeB rows c = isEdge rows c := by
  unfold ledgeB isEdge
  rw [Bool.eq_iff_iff, decide_eq_true_iff, Bool.not_eq_true', ← Bool.not_eq_true, List.all_eq_true, lnear_eq v.dim, List.length_pos_iff_exists_mem]
  constructor
  · rintro ⟨x, hx⟩ hall
    obtain ⟨h1, h2⟩ := List.mem_filter.mp hx
    have hi := ((mem_around v.dim).mp h1).1
    simp only [Bool.not_eq_true', decide_eq_false_iff_not] at h2
    apply h2
    rw [lhid_eq v, mem_closed v]
    exact ⟨hi, hall x h1⟩
  · intro h
    have : ∃ x, x ∈ around (hOf rows) (wOf rows) c ∧ ¬ hid rows x = true := by
      false_or_by_contra
      rename_i hn
      apply h
      intro x hx
      false_or_by_contra
      rename_i hx2
      exact hn ⟨x, hx, hx2⟩
    obtain ⟨x, h1, h2⟩ := this
    refine ⟨x, List.mem_filter.mpr ⟨h1, ?_⟩⟩
    simp only [Bool.not_eq_true', decide_eq_false_iff_not]
    rw [lhid_eq v, mem_closed v]
    exact fun hh => h2 hh.2
theorem ledge_eq {rows : List Tx} (v : Vw rows) : ledge rows = edgeOf rows := by
  unfold ledge edgeOf
  rw [lhid_eq v]
  congr 1
  funext x
  exact ledgeB_eq v x
theorem lfar_eq {rows : List Tx} (v : Vw rows) : lfar rows = farOf rows := by
  unfold lfar farOf
  rw [lhid_eq v, ledge_eq v]
  refine List.filter_congr fun x hx => ?_
  congr 1
  unfold edgeOf
  rw [Bool.eq_iff_iff, decide_eq_true_iff, List.mem_filter]
  exact ⟨fun h => h.2, fun h => ⟨hx, h⟩⟩
end DF
namespace DF
open R (rp)
open Dt (toD)
theorem mem_vsigns {n : Nat} (h : n ≤ 8) : 48 + n ∈ vsigns := by
  have : ∀ k : Fin 9, 48 + k.val ∈ vsigns := by decide
  exact this ⟨n, by omega⟩
theorem signAt_in (h w : Int) (st kn : List Cell) (x : Cell) : signAt h w st kn x ∈ vsigns := by
  unfold signAt
  split
  · exact mem_vsigns (lfigure_le h w st x)
  · decide
theorem lshown_rows {h w : Int} {st kn : List Cell} : ∀ row ∈ lshown h w st kn, row.cs.length = w.toNat ∧ ∀ c ∈ row.cs, c ∈ vsigns := by
  intro row hr
  unfold lshown at hr
  obtain ⟨r, _, rfl⟩ := List.mem_map.mp hr
  refine ⟨by rw [List.length_map, irange_len], fun c hc => ?_⟩
  obtain ⟨x, _, rfl⟩ := List.mem_map.mp hc
  exact signAt_in ..
theorem lshown_len {h w : Int} {st kn : List Cell} : (lshown h w st kn).length = h.toNat := by unfold lshown; rw [List.length_map, irange_len]
theorem width_of {rows : List Tx} {w : Nat} (h1 : 1 ≤ rows.length) (h : ∀ row ∈ rows, row.cs.length = w) : widthOf rows = w := by
  cases rows with
  | nil => simp at h1
  | cons r rs => exact h r (by simp)
theorem vw_of {rows : List Tx} {w : Nat} (h1 : 1 ≤ rows.length) (h6 : rows.length ≤ 6) (w1 : 1 ≤ w) (w6 : w ≤ 6) (h : ∀ row ∈ rows, row.cs.length = w ∧ ∀ c ∈ row.cs, c ∈ vsigns) : Vw rows := by
  have e := width_of h1 fun row hr => (h row hr).1
  exact ⟨h1, h6, by omega, by omega, fun row hr => by rw [e]; exact h row hr⟩
theorem lshown_vw {h w : Int} {st kn : List Cell} (hh : 1 ≤ h ∧ h ≤ 6) (hw : 1 ≤ w ∧ w ≤ 6) : Vw (lshown h w st kn) :=
  vw_of (w := w.toNat) (by rw [lshown_len]; omega) (by rw [lshown_len]; omega) (by omega) (by omega) lshown_rows
theorem putSign_vw {rows : List Tx} {x : Cell} {s : Nat} (v : Vw rows) (hs : s ∈ vsigns) : Vw (putSign rows x s) := by
  refine vw_of (w := widthOf rows) (by unfold putSign; rw [List.length_set]; exact v.h1) (by unfold putSign; rw [List.length_set]; exact v.h6) v.w1 v.w6 fun row hr => ?_
  unfold putSign at hr
  rcases List.mem_or_eq_of_mem_set hr with hr | rfl
  · exact v.row row hr
  · by_cases hx : x.1.toNat < rows.length
    · have hm : rows.getD x.1.toNat ⟨[]⟩ ∈ rows := by
        rw [List.getD_eq_getElem?_getD, List.getElem?_eq_getElem hx]
        exact List.getElem_mem _
      obtain ⟨q1, q2⟩ := v.row _ hm
      refine ⟨by show (List.set _ _ _).length = _; rw [List.length_set]; exact q1, fun c hc => ?_⟩
      rcases List.mem_or_eq_of_mem_set hc with hc | rfl
      · exact q2 c hc
      · exact hs
    · rw [List.set_eq_of_length_le (by omega)] at hr
      exact v.row _ hr
theorem viewBy_vw {ns : List Int} {most steps : Int} (hm : 1 ≤ most ∧ most ≤ 6) : Vw (viewBy ns most steps).1 := by
  have d := fieldBy_dim (ns := ns) hm
  exact lshown_vw (by omega) (by omega)
theorem wrongBy_vw {ns : List Int} {rows : List Tx} (v : Vw rows) : Vw (wrongBy ns rows) := by
  unfold wrongBy
  split
  · refine putSign_vw v ?_
    have hb := mix_bd (c := cellAt ns 18) (k := 3) (m := 5) (by omega)
    have : ∀ k : Fin 5, ([35, 48, 49, 50, 51] : List Nat).getD k.val 0 ∈ vsigns := by decide
    exact this ⟨(mix (cellAt ns 18) 3 5).toNat, by omega⟩
  · exact v
end DF
namespace DF
open R (rp)
open Dt (toD)
theorem vw_ok {rows : List Tx} (v : Vw rows) : ∀ t ∈ rows, TxOk t := fun t ht c hc => by
  have h : ∀ k ∈ vsigns, k < 1114112 := by decide
  exact h c ((v.row t ht).2 c hc)
end DF

namespace DF
open R (rp)
open Dt (toD)
/-! ### layings that keep a view -/
def risingB (xs : List Cell) : Bool := (irange 1 (xs.length - 1)).all fun k => clt (xs.getD (k - 1).toNat (0, 0)) (xs.getD k.toNat (0, 0))
theorem chain_srt : ∀ {xs : List Cell}, (∀ k : Nat, k + 1 < xs.length → clt (xs.getD k (0, 0)) (xs.getD (k + 1) (0, 0)) = true) → Srt xs
  | [], _ => .nil
  | [x], _ => List.pairwise_singleton _ _
  | x :: y :: r, h => by
    have h1 : clt x y = true := h 0 (by simp)
    have ih : Srt (y :: r) := chain_srt fun k hk => by
      have := h (k + 1) (by simp only [List.length_cons] at hk ⊢; omega)
      simpa using this
    refine List.pairwise_cons.mpr ⟨fun z hz => ?_, ih⟩
    rcases List.mem_cons.mp hz with rfl | hz
    · exact h1
    · exact clt_trans h1 ((List.pairwise_cons.mp ih).1 z hz)
theorem srt_get {xs : List Cell} (h : Srt xs) {i j : Nat} (hij : i < j) (hj : j < xs.length) : clt (xs.getD i (0, 0)) (xs.getD j (0, 0)) = true := by
  rw [List.getD_eq_getElem?_getD, List.getD_eq_getElem?_getD, List.getElem?_eq_getElem (by omega), List.getElem?_eq_getElem hj]
  exact List.pairwise_iff_getElem.mp h i j (by omega) hj hij
theorem rising_iff {xs : List Cell} : risingB xs = true ↔ Srt xs := by
  unfold risingB
  rw [List.all_eq_true]
  constructor
  · intro h
    refine chain_srt fun k hk => ?_
    have := h ((k : Int) + 1) (mem_irange.mpr (by omega))
    rw [show ((k : Int) + 1 - 1).toNat = k by omega, show ((k : Int) + 1).toNat = k + 1 by omega] at this
    exact this
  · intro h k hk
    have hk := mem_irange.mp hk
    exact srt_get h (by omega) (by omega)
def isLay (rows : List Tx) (L : List Cell) : Bool := risingB L && L.all fun x => decide (x ∈ closedOf rows)
theorem isLay_iff {rows : List Tx} {L : List Cell} : isLay rows L = true ↔ Srt L ∧ ∀ x ∈ L, x ∈ closedOf rows := by
  unfold isLay
  rw [Bool.and_eq_true, rising_iff, List.all_eq_true]
  simp only [decide_eq_true_eq]
def figN (rows : List Tx) (x : Cell) : Nat := sgn rows x - 48
def nearIn (rows : List Tx) (L : List Cell) (x : Cell) : Nat := ((around (hOf rows) (wOf rows) x).filter fun y => decide (y ∈ L)).length
def fitB (rows : List Tx) (L : List Cell) (x : Cell) : Bool := decide (x ∈ closedOf rows) || decide (nearIn rows L x = figN rows x)
def keepsB (rows : List Tx) (L : List Cell) : Bool := (allCells (hOf rows) (wOf rows)).all (fitB rows L)
def figs : Tx := ⟨[48, 49, 50, 51, 52, 53, 54, 55, 56]⟩
def lopen (rows : List Tx) : List Cell := lcells rows figs
def lfitB (rows : List Tx) (L : List Cell) (x : Cell) : Bool := decide (((lnear (hOf rows) (wOf rows) x).filter fun y => decide (y ∈ L)).length = figN rows x)
def lkeeps (rows : List Tx) (L : List Cell) : Bool := (lopen rows).all (lfitB rows L)
theorem sgn_in {rows : List Tx} (v : Vw rows) {x : Cell} (h : inF (hOf rows) (wOf rows) x = true) : sgn rows x ∈ vsigns := by
  have h := inF_iff.mp h
  simp only [hOf, wOf] at h
  have hrow : rows[x.1.toNat]? = some (rows.getD x.1.toNat ⟨[]⟩) := by
    rw [List.getD_eq_getElem?_getD, List.getElem?_eq_getElem (show x.1.toNat < rows.length by omega)]; rfl
  have hr := v.row _ (List.mem_of_getElem? hrow)
  refine hr.2 _ ?_
  unfold sgn
  generalize rows.getD x.1.toNat ⟨[]⟩ = R at hr
  rw [List.getD_eq_getElem?_getD, List.getElem?_eq_getElem (show x.2.toNat < R.cs.length by omega)]
  exact List.getElem_mem _
theorem sgn_fig {n : Nat} (h : n ∈ vsigns) (h2 : n ≠ 35) : 48 ≤ n ∧ n ≤ 56 := by
  unfold vsigns at h
  simp only [List.mem_cons, List.not_mem_nil, or_false] at h
  omega
theorem open_fig {rows : List Tx} (v : Vw rows) {x : Cell} (h : inF (hOf rows) (wOf rows) x = true) (h2 : hid rows x = false) : sgn rows x = 48 + figN rows x ∧ figN rows x < 9 := by
  have := sgn_fig (sgn_in v h) (by unfold hid at h2; simpa using h2)
  unfold figN
  omega
theorem mem_figs {n : Nat} (h : n ∈ vsigns) : n ∈ figs.cs ↔ n ≠ 35 := by
  unfold vsigns at h
  unfold figs
  simp only [List.mem_cons, List.not_mem_nil, or_false] at h ⊢
  omega
theorem mem_lopen {rows : List Tx} (v : Vw rows) {x : Cell} : x ∈ lopen rows ↔ inF (hOf rows) (wOf rows) x = true ∧ hid rows x = false := by
  unfold lopen
  rw [lcells_eq v, List.mem_filter, ← inF_cells v.dim]
  constructor
  · rintro ⟨h1, h2⟩
    refine ⟨h1, ?_⟩
    have h2 := (mem_figs (sgn_in v h1)).mp (of_decide_eq_true h2)
    unfold hid; simpa using h2
  · rintro ⟨h1, h2⟩
    refine ⟨h1, decide_eq_true ((mem_figs (sgn_in v h1)).mpr ?_)⟩
    unfold hid at h2; simpa using h2
theorem lopen_len {rows : List Tx} (v : Vw rows) : (lopen rows).length ≤ 36 := by
  unfold lopen
  rw [lcells_eq v]
  exact Nat.le_trans (List.length_filter_le _ _) (allCells_len v.dim)
theorem keeps_eq {rows : List Tx} (v : Vw rows) (L : List Cell) : keepsB rows L = lkeeps rows L := by
  unfold keepsB lkeeps
  rw [Bool.eq_iff_iff, List.all_eq_true, List.all_eq_true]
  have e : ∀ x, lfitB rows L x = decide (nearIn rows L x = figN rows x) := fun x => by unfold lfitB nearIn; rw [lnear_eq v.dim]
  constructor
  · intro h x hx
    obtain ⟨h1, h2⟩ := (mem_lopen v).mp hx
    have := h x ((inF_cells v.dim).mp h1)
    unfold fitB at this
    rw [Bool.or_eq_true] at this
    rcases this with z | z
    · have := ((mem_closed v).mp (of_decide_eq_true z)).2
      rw [h2] at this; cases this
    · rw [e]; exact z
  · intro h x hx
    unfold fitB
    rw [Bool.or_eq_true]
    cases hh : hid rows x with
    | true => left; exact decide_eq_true ((mem_closed v).mpr ⟨(inF_cells v.dim).mpr hx, hh⟩)
    | false =>
      right
      rw [← e]
      exact h x ((mem_lopen v).mpr ⟨(inF_cells v.dim).mpr hx, hh⟩)
/-! sorted lists of cells -/
theorem psort_perm (l : List Cell) : (psort l).Perm l := List.mergeSort_perm l _
theorem psort_le (l : List Cell) : (psort l).Pairwise fun a b => (!clt b a) = true := by
  unfold psort
  refine List.pairwise_mergeSort (fun a b c h1 h2 => ?_) (fun a b => ?_) l
  · show (!clt c a) = true
    have h1 : (!clt b a) = true := h1
    have h2 : (!clt c b) = true := h2
    rw [Bool.not_eq_true', ← Bool.not_eq_true, clt_iff] at *
    omega
  · show ((!clt b a) || (!clt a b)) = true
    rw [Bool.or_eq_true, Bool.not_eq_true', Bool.not_eq_true', ← Bool.not_eq_true, ← Bool.not_eq_true, clt_iff, clt_iff]
    omega
theorem clt_tri {a b : Cell} (h1 : ¬ clt a b = true) (h2 : ¬ clt b a = true) : a = b := by
  rw [clt_iff] at *
  exact Prod.ext (by omega) (by omega)
theorem psort_nd {l : List Cell} (h : l.Nodup) : Srt (psort l) := by
  have h1 : (psort l).Nodup := (psort_perm l).nodup_iff.mpr h
  refine (psort_le l |>.and h1).imp fun {a b} ⟨h2, h3⟩ => ?_
  rw [Bool.not_eq_true', ← Bool.not_eq_true] at h2
  false_or_by_contra
  rename_i h4
  exact h3 (clt_tri h4 h2)
theorem srt_nd {l : List Cell} (h : Srt l) : l.Nodup := h.imp fun {a b} h1 e => by subst e; exact clt_irr h1
theorem mem_psort {l : List Cell} {x : Cell} : x ∈ psort l ↔ x ∈ l := (psort_perm l).mem_iff
theorem psort_len (l : List Cell) : (psort l).length = l.length := (psort_perm l).length_eq
theorem stonesOf_srt {ns : List Int} {thin h w : Int} (d : Dim h w) : Srt (stonesOf ns thin h w) := by
  have : stonesOf ns thin h w = (allCells h w).filter (stoneB ns thin) := by unfold stonesOf allCells; rw [List.filter_flatMap]
  rw [this]
  exact srt_filter (allCells_srt d)
end DF
namespace DF
open R (rp)
open Dt (toD)
open PySem
theorem occ_figs {k : Nat} (h : k < 9) : ∃ rest, Builtin.Str.occurrences (tx figs.cs) (tx [48 + k]) 0 (tx figs.cs).length 1 = k :: rest := by
  have : ∀ j : Fin 9, Builtin.Str.occurrences (tx figs.cs) (tx [48 + j.val]) 0 (tx figs.cs).length 1 = [j.val] := by decide +kernel
  exact ⟨[], this ⟨k, h⟩⟩
end DF

namespace DF
open R (rp)
open Dt (toD)
/-! ### k03: the law's layings -/
def pickOf (l : List Cell) (i : Int) : Cell := l.getD (i % (l.length : Int)).toNat (0, 0)
theorem pick_mem {l : List Cell} {i : Int} (h : 0 < l.length) : pickOf l i ∈ l := by
  unfold pickOf
  have h1 := Int.emod_nonneg i (b := (l.length : Int)) (by omega)
  have h2 := Int.emod_lt_of_pos i (b := (l.length : Int)) (by omega)
  rw [List.getD_eq_getElem?_getD, List.getElem?_eq_getElem (show (i % (l.length : Int)).toNat < l.length by omega)]
  exact List.getElem_mem _
theorem atI_pick {l : List Cell} {i : Int} (h : 0 < l.length) : L2.atI l (i % (l.length : Int)) = some (pickOf l i) :=
  atI_getD (0, 0) (Int.emod_nonneg _ (by omega)) (Int.emod_lt_of_pos _ (by omega))
def changed (rows : List Tx) (L : List Cell) (cell : Int) : List Cell :=
  if cell % 2 = 1 ∧ 0 < (lhid rows).length then
    if pickOf (lhid rows) (cell / 2) ∈ L then L.filter (fun x => !decide (x = pickOf (lhid rows) (cell / 2))) else psort (L ++ [pickOf (lhid rows) (cell / 2)])
  else L
def offOf (rows : List Tx) : List Cell := lopen rows ++ [(6, 0), (0, -1)]
def hurt3 (rows : List Tx) (L : List Cell) (cell : Int) : List Cell :=
  if cell % 3 = 0 ∧ 0 < L.length then psort (L ++ [pickOf L (cell / 3)])
  else if cell % 3 = 1 ∧ 1 < L.length then L.drop 1 ++ L.take 1
  else psort (L ++ [pickOf (offOf rows) (cell / 3)])
theorem changed_len {rows : List Tx} {L : List Cell} {cell : Int} : (changed rows L cell).length ≤ L.length + 1 := by
  unfold changed
  split
  · split
    · exact Nat.le_trans (List.length_filter_le _ _) (by omega)
    · rw [psort_len, List.length_append]; simp
  · omega
theorem hurt3_len {rows : List Tx} {L : List Cell} {cell : Int} : (hurt3 rows L cell).length ≤ L.length + 1 := by
  unfold hurt3
  split
  · rw [psort_len, List.length_append]; simp
  · split
    · simp only [List.length_append, List.length_drop, List.length_take]; omega
    · rw [psort_len, List.length_append]; simp
theorem changed_lay {rows : List Tx} {L : List Cell} {cell : Int} (v : Vw rows) (h : Srt L ∧ ∀ x ∈ L, x ∈ closedOf rows) : Srt (changed rows L cell) ∧ ∀ x ∈ changed rows L cell, x ∈ closedOf rows := by
  unfold changed
  split
  · rename_i hc
    have hm := pick_mem (i := cell / 2) hc.2
    rw [lhid_eq v] at hm
    rw [lhid_eq v]
    split
    · exact ⟨srt_filter h.1, fun x hx => h.2 x (List.mem_filter.mp hx).1⟩
    · rename_i hn
      refine ⟨psort_nd (List.nodup_append.mpr ⟨srt_nd h.1, by simp, fun a ha b hb e => ?_⟩), fun x hx => ?_⟩
      · rw [List.mem_singleton] at hb
        subst hb; subst e; exact hn ha
      · rcases List.mem_append.mp (mem_psort.mp hx) with hx | hx
        · exact h.2 x hx
        · rw [List.mem_singleton.mp hx]; exact hm
  · exact h
theorem hurt3_bad {rows : List Tx} {L : List Cell} {cell : Int} (v : Vw rows) (h : Srt L ∧ ∀ x ∈ L, x ∈ closedOf rows) : ¬ isLay rows (hurt3 rows L cell) = true := by
  rw [isLay_iff]
  unfold hurt3
  split
  · rename_i hc
    rintro ⟨h1, _⟩
    have h2 := (psort_perm _).nodup_iff.mp (srt_nd h1)
    exact (List.nodup_append.mp h2).2.2 _ (pick_mem hc.2) _ (List.mem_singleton.mpr rfl) rfl
  · split
    · rename_i hc
      rintro ⟨h1, _⟩
      match L, hc.2, h.1, h1 with
      | a :: b :: r, _, hs, hs2 =>
        have e1 : clt a b = true := (List.pairwise_cons.mp hs).1 b (by simp)
        have e2 : clt b a = true := (List.pairwise_cons.mp (show Srt (b :: (r ++ [a])) from hs2)).1 a (by simp)
        exact clt_irr (clt_trans e1 e2)
    · rintro ⟨_, h2⟩
      have hm : pickOf (offOf rows) (cell / 3) ∈ offOf rows := pick_mem (by unfold offOf; rw [List.length_append]; simp)
      have hcl := h2 _ (mem_psort.mpr (List.mem_append.mpr (.inr (List.mem_singleton.mpr rfl))))
      have hcl := (mem_closed v).mp hcl
      unfold offOf at hm hcl
      rcases List.mem_append.mp hm with hm | hm
      · have := ((mem_lopen v).mp hm).2
        rw [hcl.2] at this; cases this
      · have hi := inF_iff.mp hcl.1
        have h6 := v.h6
        simp only [hOf] at hi
        simp only [List.mem_cons, List.not_mem_nil, or_false] at hm
        rcases hm with e | e <;> (rw [e] at hi; simp only at hi; omega)
def lay0 (rows : List Tx) (stones : List Cell) : List Cell := stones.filter fun x => decide (x ∈ lhid rows)
theorem lay0_lay {rows : List Tx} {stones : List Cell} (v : Vw rows) (h : Srt stones) : Srt (lay0 rows stones) ∧ ∀ x ∈ lay0 rows stones, x ∈ closedOf rows :=
  ⟨srt_filter h, fun x hx => by have := of_decide_eq_true (List.mem_filter.mp hx).2; rw [lhid_eq v] at this; exact this⟩
theorem viewBy_srt {ns : List Int} {most steps : Int} (hm : 1 ≤ most ∧ most ≤ 6) : Srt (viewBy ns most steps).2 := by
  have d := fieldBy_dim (ns := ns) hm
  have dd : Dim (fieldBy ns most).h (fieldBy ns most).w := by omega
  exact stonesOf_srt dd
theorem viewBy_len {ns : List Int} {most steps : Int} (hm : 1 ≤ most ∧ most ≤ 6) : (viewBy ns most steps).2.length ≤ 36 := by
  have d := fieldBy_dim (ns := ns) hm
  have dd : Dim (fieldBy ns most).h (fieldBy ns most).w := by omega
  exact stonesOf_len dd
end DF

namespace DF
open R (rp)
open Dt (toD)
/-! ### k01: the law's rows -/
def sg14 (k : Int) : Nat := ([35, 35, 35, 35, 35, 48, 49, 50, 51, 52, 53, 54, 55, 56] : List Nat).getD k.toNat 0
def row14 (ns : List Int) (w r : Int) : List Int := (irange 0 w.toNat).map fun c => mix (cellAt ns (1 + r)) c 14
def rowT (ns : List Int) (w r : Int) : Tx := ⟨(row14 ns w r).map sg14⟩
def rows1 (ns : List Int) : List Tx := (irange 0 (1 + mix (cellAt ns 0) 1 6).toNat).map (rowT ns (1 + mix (cellAt ns 0) 2 6))
structure Bd (n m : Nat) (rows : List Tx) : Prop where
  len : rows.length ≤ n
  row : ∀ row ∈ rows, row.cs.length ≤ m ∧ TxOk row
def fst (rows : List Tx) : Tx := rows.getD 0 ⟨[]⟩
def bads : List Nat := [57, 32, 120, 42, 45, 97]
def hurt1 (rows : List Tx) (cell : Int) : List Tx :=
  if cell % 6 = 0 then ([[], [⟨[]⟩], List.replicate 7 (fst rows)] : List (List Tx)).getD (cell / 60 % 3).toNat []
  else if cell % 6 = 1 then rows.map fun row => ⟨row.cs ++ List.replicate (7 - (row.cs.length : Int)).toNat 35⟩
  else if cell % 6 = 2 then (if rows.length < 6 then rows else rows.drop 1) ++ [⟨(fst rows).cs ++ [48]⟩]
  else if cell % 6 = 3 then rows.drop 1 ++ [⟨(fst rows).cs.drop 1⟩] ++ (if rows.length < 6 ∧ 1 < (fst rows).cs.length then [fst rows] else [])
  else rows.set (cell / 6 % rows.length).toNat ⟨(rows.getD (cell / 6 % rows.length).toNat ⟨[]⟩).cs.set (cell / 60 % ((rows.getD (cell / 6 % rows.length).toNat ⟨[]⟩).cs.length : Int)).toNat (bads.getD (cell / 700 % 6).toNat 0)⟩
theorem fst_mem {rows : List Tx} (h : 1 ≤ rows.length) : fst rows ∈ rows := by
  unfold fst
  rw [List.getD_eq_getElem?_getD, List.getElem?_eq_getElem (show 0 < rows.length by omega)]
  exact List.getElem_mem _
theorem Bd.sub {n m : Nat} {rows rows' : List Tx} (b : Bd n m rows) (h : rows'.Sublist rows) : Bd n m rows' := ⟨Nat.le_trans h.length_le b.len, fun row hr => b.row row (h.subset hr)⟩
theorem Bd.app {n n' m : Nat} {rows rows' : List Tx} (b : Bd n m rows) (b' : Bd n' m rows') : Bd (n + n') m (rows ++ rows') :=
  ⟨by rw [List.length_append]; exact Nat.add_le_add b.len b'.len, fun row hr => by
    rcases List.mem_append.mp hr with h | h
    · exact b.row row h
    · exact b'.row row h⟩
theorem Bd.up {n n' m m' : Nat} {rows : List Tx} (b : Bd n m rows) (h : n ≤ n') (h2 : m ≤ m') : Bd n' m' rows := ⟨Nat.le_trans b.len h, fun row hr => ⟨Nat.le_trans (b.row row hr).1 h2, (b.row row hr).2⟩⟩
theorem Bd.one {m : Nat} {t : Tx} (h : t.cs.length ≤ m) (ok : TxOk t) : Bd 1 m [t] := ⟨Nat.le_refl _, fun row hr => by rw [List.mem_singleton.mp hr]; exact ⟨h, ok⟩⟩
theorem hurt1_bd {rows : List Tx} {cell : Int} (b : Bd 6 6 rows) (h1 : 1 ≤ rows.length) : Bd 20 20 (hurt1 rows cell) := by
  have hf := b.row _ (fst_mem h1)
  unfold hurt1
  split
  · have h0 := Int.emod_nonneg (cell / 60) (b := 3) (by decide)
    have h3 := Int.emod_lt_of_pos (cell / 60) (b := 3) (by decide)
    generalize (cell / 60 % 3).toNat = i
    match i with
    | 0 => exact ⟨Nat.zero_le _, fun row hr => by simp at hr⟩
    | 1 => exact ⟨by show 1 ≤ 20; decide, fun row hr => by
        have hr : row = ⟨[]⟩ := by simpa using hr
        subst hr
        exact ⟨by decide, fun c hc => by simp at hc⟩⟩
    | 2 => exact ⟨by simp, fun row hr => by
        have hr : row ∈ List.replicate 7 (fst rows) := hr
        rw [List.eq_of_mem_replicate hr]
        exact ⟨by omega, hf.2⟩⟩
    | i + 3 => exact ⟨by simp, fun row hr => by simp at hr⟩
  · split
    · refine ⟨by rw [List.length_map]; exact Nat.le_trans b.len (by decide), fun row hr => ?_⟩
      obtain ⟨r, hr', rfl⟩ := List.mem_map.mp hr
      obtain ⟨q1, q2⟩ := b.row r hr'
      refine ⟨by simp only [List.length_append, List.length_replicate]; omega, fun c hc => ?_⟩
      rcases List.mem_append.mp hc with hc | hc
      · exact q2 c hc
      · rw [List.eq_of_mem_replicate hc]; decide
    · have hz : TxOk ⟨(fst rows).cs ++ [48]⟩ := fun c hc => by
        rcases List.mem_append.mp hc with hc | hc
        · exact hf.2 c hc
        · rw [List.mem_singleton.mp hc]; decide
      have b20 : Bd 6 20 rows := b.up (by decide) (by decide)
      split
      · refine (Bd.app (n := 6) (n' := 1) ?_ (Bd.one (m := 20) (by simp only [List.length_append, List.length_cons, List.length_nil]; omega) hz)).up (by decide) (by decide)
        split
        · exact b20
        · exact b20.sub (List.drop_sublist _ _)
      · split
        · refine (((b20.sub (List.drop_sublist 1 rows)).app (Bd.one (t := ⟨(fst rows).cs.drop 1⟩) (by simp only [List.length_drop]; omega) fun c hc => hf.2 c (List.mem_of_mem_drop hc))).app (n' := 1) ?_).up (by decide) (by decide)
          split
          · exact Bd.one (by omega) hf.2
          · exact ⟨by decide, fun row hr => by simp at hr⟩
        · refine ⟨by rw [List.length_set]; exact Nat.le_trans b.len (by decide), fun row hr => ?_⟩
          rcases List.mem_or_eq_of_mem_set hr with hr | rfl
          · exact ⟨Nat.le_trans (b.row row hr).1 (by decide), (b.row row hr).2⟩
          · have hb : ∀ i, bads.getD i 0 < 1114112 := fun i => by
              by_cases hi : i < 6
              · have : ∀ k : Fin 6, bads.getD k.val 0 < 1114112 := by decide
                exact this ⟨i, hi⟩
              · rw [List.getD_eq_getElem?_getD, List.getElem?_eq_none (by show 6 ≤ i; omega)]; decide
            have hR : ∀ i, (rows.getD i ⟨[]⟩).cs.length ≤ 6 ∧ TxOk (rows.getD i ⟨[]⟩) := fun i => by
              by_cases hi : i < rows.length
              · have : rows.getD i ⟨[]⟩ ∈ rows := by
                  rw [List.getD_eq_getElem?_getD, List.getElem?_eq_getElem hi]; exact List.getElem_mem _
                exact b.row _ this
              · rw [List.getD_eq_getElem?_getD, List.getElem?_eq_none (by omega)]
                exact ⟨by decide, fun c hc => by simp at hc⟩
            refine ⟨by simp only [List.length_set]; exact Nat.le_trans (hR _).1 (by decide), fun c hc => ?_⟩
            rcases List.mem_or_eq_of_mem_set hc with hc | rfl
            · exact (hR _).2 c hc
            · exact hb _
theorem sg14_ok (k : Int) : sg14 k < 1114112 := by
  unfold sg14
  by_cases hi : k.toNat < 14
  · have : ∀ j : Fin 14, ([35, 35, 35, 35, 35, 48, 49, 50, 51, 52, 53, 54, 55, 56] : List Nat).getD j.val 0 < 1114112 := by decide
    exact this ⟨k.toNat, hi⟩
  · rw [List.getD_eq_getElem?_getD, List.getElem?_eq_none (by show 14 ≤ k.toNat; omega)]; decide
theorem rows1_bd {ns : List Int} : Bd 6 6 (rows1 ns) ∧ 1 ≤ (rows1 ns).length ∧ ∀ row ∈ rows1 ns, 1 ≤ row.cs.length := by
  have h1 := mix_bd (c := cellAt ns 0) (k := 1) (m := 6) (by omega)
  have h2 := mix_bd (c := cellAt ns 0) (k := 2) (m := 6) (by omega)
  have hl : (rows1 ns).length = (1 + mix (cellAt ns 0) 1 6).toNat := by unfold rows1; rw [List.length_map, irange_len]
  have hrow : ∀ row ∈ rows1 ns, row.cs.length = (1 + mix (cellAt ns 0) 2 6).toNat ∧ TxOk row := fun row hr => by
    unfold rows1 at hr
    obtain ⟨r, _, rfl⟩ := List.mem_map.mp hr
    refine ⟨by unfold rowT row14; simp only [List.length_map, irange_len], fun c hc => ?_⟩
    unfold rowT at hc
    obtain ⟨k, _, rfl⟩ := List.mem_map.mp hc
    exact sg14_ok k
  refine ⟨⟨by omega, fun row hr => ⟨by have := (hrow row hr).1; omega, (hrow row hr).2⟩⟩, by omega, fun row hr => by have := (hrow row hr).1; omega⟩
end DF
namespace DF
open R (rp)
open Dt (toD)
/-- rows of signs, as the law looks at them -/
def lright (rows : List Tx) : Bool := rowsRight rows
theorem single_map (cs : List Nat) : cs.map (fun k => (⟨[k]⟩ : Tx)) = cs.map fun k => ⟨[k]⟩ := rfl
theorem flat_single (l : List Int) : (l.map fun k => (⟨[sg14 k]⟩ : Tx)).flatMap (·.cs) = l.map sg14 := by
  induction l with
  | nil => rfl
  | cons x l ih => simp only [List.map_cons, List.flatMap_cons, ih]; rfl
theorem sum_single (l : List Int) : ((l.map fun k => (⟨[sg14 k]⟩ : Tx)).map fun t => t.cs.length).sum = l.length := by
  induction l with
  | nil => rfl
  | cons x l ih => simp only [List.map_cons, List.sum_cons, ih, List.length_cons, List.length_nil]; omega
end DF

namespace DF
open R (rp)
open Dt (toD)
/-! ### games: the plain functions -/
structure GOk (g : GM) : Prop where
  h : 1 ≤ g.h ∧ g.h ≤ 6
  w : 1 ≤ g.w ∧ g.w ≤ 6
  s : g.stones.length ≤ 1000
  k : g.known.length ≤ 1000
theorem GOk.dim {g : GM} (o : GOk g) : Dim g.h g.w := by have := o.h; have := o.w; omega
def keysOf (g : GM) : List Cell := g.known.map (·.1)
def tLost : Tx := ⟨[108, 111, 115, 116]⟩
def tWon : Tx := ⟨[119, 111, 110]⟩
def tOn : Tx := ⟨[111, 110]⟩
def gstate (g : GM) : Tx := if g.lost then tLost else if (g.known.length : Int) + g.stones.length = g.h * g.w then tWon else tOn
def gview (g : GM) : List Tx := lshown g.h g.w g.stones (keysOf g)
theorem gview_vw {g : GM} (o : GOk g) : Vw (gview g) := lshown_vw o.h o.w
theorem dhas_keys {β : Type} {kvs : List (Cell × β)} {c : Cell} : dhas kvs c = decide (c ∈ kvs.map (·.1)) := by
  unfold dhas
  rw [Bool.eq_iff_iff, List.any_eq_true, decide_eq_true_iff, List.mem_map]
  constructor
  · rintro ⟨kv, h1, h2⟩; exact ⟨kv, h1, of_decide_eq_true h2⟩
  · rintro ⟨kv, h1, h2⟩; exact ⟨kv, h1, decide_eq_true h2⟩
theorem lfigure_around {h w : Int} (d : Dim h w) {st : List Cell} {c : Cell} : ((around h w c).filter fun x => decide (x ∈ st)).length = lfigure h w st c := by unfold lfigure; rw [lnear_eq d]
def sizeOk (h w : Int) : Bool := (decide (1 ≤ h) && decide (h ≤ 6)) && (decide (1 ≤ w) && decide (w ≤ 6))
def stonesOk (h w : Int) (st : List Cell) : Bool := risingB st && st.all fun x => decide (x ∈ allCells h w)
theorem sizeOk_iff {h w : Int} : sizeOk h w = true ↔ (1 ≤ h ∧ h ≤ 6) ∧ 1 ≤ w ∧ w ≤ 6 := by
  unfold sizeOk
  simp only [Bool.and_eq_true, decide_eq_true_eq]
end DF

namespace DF
open R (rp)
open Dt (toD)
/-! ### k16: what the law spoils -/
def offS : List Int := [0, 7, -1, 1000000000]
def badC (h w : Int) : List Cell := [(h, 0), (0, w), (-1, 0), (0, -1)]
def hurt16 (h w : Int) (st : List Cell) (cell : Int) : Fld :=
  if cell % 5 = 0 then ⟨offS.getD (cell / 5 % 4).toNat 0, w, st⟩
  else if cell % 5 = 1 then ⟨h, offS.getD (cell / 5 % 4).toNat 0, st⟩
  else if cell % 5 = 2 ∧ 0 < st.length then ⟨h, w, psort (st ++ [pickOf st (cell / 5)])⟩
  else if cell % 5 = 3 ∧ 1 < st.length then ⟨h, w, st.drop 1 ++ st.take 1⟩
  else ⟨h, w, psort (st ++ [(badC h w).getD (cell / 5 % 4).toNat (0, 0)])⟩
theorem off_bad (i : Nat) (hi : i < 4) : ¬ (1 ≤ offS.getD i 0 ∧ offS.getD i 0 ≤ 6) := by
  have : ∀ k : Fin 4, ¬ (1 ≤ offS.getD k.val 0 ∧ offS.getD k.val 0 ≤ 6) := by decide
  exact this ⟨i, hi⟩
theorem bad_off {h w : Int} (i : Nat) (hi : i < 4) : ¬ inF h w ((badC h w).getD i (0, 0)) = true := by
  rw [inF_iff]
  unfold badC
  match i, hi with
  | 0, _ => show ¬ ((0 ≤ h ∧ h < h) ∧ _); omega
  | 1, _ => show ¬ (_ ∧ (0 ≤ w ∧ w < w)); omega
  | 2, _ => show ¬ (((0 : Int) ≤ -1 ∧ _) ∧ _); omega
  | 3, _ => show ¬ (_ ∧ ((0 : Int) ≤ -1 ∧ _)); omega
theorem hurt16_len {h w : Int} {st : List Cell} {cell : Int} : (hurt16 h w st cell).stones.length ≤ st.length + 1 := by
  unfold hurt16
  split
  · show st.length ≤ _; omega
  · split
    · show st.length ≤ _; omega
    · split
      · show (psort _).length ≤ _; rw [psort_len, List.length_append]; simp
      · split
        · show (st.drop 1 ++ st.take 1).length ≤ _
          simp only [List.length_append, List.length_drop, List.length_take]; omega
        · show (psort _).length ≤ _; rw [psort_len, List.length_append]; simp
theorem stonesOk_iff {h w : Int} {st : List Cell} : stonesOk h w st = true ↔ Srt st ∧ ∀ x ∈ st, x ∈ allCells h w := by
  unfold stonesOk
  rw [Bool.and_eq_true, rising_iff, List.all_eq_true]
  simp only [decide_eq_true_eq]
theorem hurt16_bad {h w : Int} {st : List Cell} {cell : Int} (d : (1 ≤ h ∧ h ≤ 6) ∧ 1 ≤ w ∧ w ≤ 6) (hs : Srt st) (hz : sizeOk (hurt16 h w st cell).h (hurt16 h w st cell).w = true) : ¬ stonesOk (hurt16 h w st cell).h (hurt16 h w st cell).w (hurt16 h w st cell).stones = true := by
  have h0 := Int.emod_nonneg (cell / 5) (b := 4) (by decide)
  have h4 := Int.emod_lt_of_pos (cell / 5) (b := 4) (by decide)
  have dim : Dim h w := by omega
  rw [sizeOk_iff] at hz
  rw [stonesOk_iff]
  unfold hurt16 at hz ⊢
  split at hz
  · exact absurd hz.1 (off_bad _ (by omega))
  · rename_i n0
    rw [if_neg n0]
    split at hz
    · exact absurd hz.2 (off_bad _ (by omega))
    · rename_i n1
      rw [if_neg n1]
      split
      · rename_i hc
        rintro ⟨h1, _⟩
        have h2 := (psort_perm _).nodup_iff.mp (srt_nd h1)
        exact (List.nodup_append.mp h2).2.2 _ (pick_mem hc.2) _ (List.mem_singleton.mpr rfl) rfl
      · split
        · rename_i hc
          rintro ⟨h1, _⟩
          match st, hc.2, hs, h1 with
          | a :: b :: r, _, hs, hs2 =>
            have e1 : clt a b = true := (List.pairwise_cons.mp hs).1 b (by simp)
            have e2 : clt b a = true := (List.pairwise_cons.mp (show Srt (b :: (r ++ [a])) from hs2)).1 a (by simp)
            exact clt_irr (clt_trans e1 e2)
        · rintro ⟨_, h2⟩
          have hm := h2 _ (mem_psort.mpr (List.mem_append.mpr (.inr (List.mem_singleton.mpr rfl))))
          exact bad_off (h := h) (w := w) (cell / 5 % 4).toNat (by omega) ((inF_cells dim).mpr hm)
theorem fieldBy_ok {ns : List Int} : sizeOk (fieldBy ns 6).h (fieldBy ns 6).w = true ∧ stonesOk (fieldBy ns 6).h (fieldBy ns 6).w (fieldBy ns 6).stones = true := by
  have d := fieldBy_dim (ns := ns) (most := 6) (by decide)
  have dim : Dim (fieldBy ns 6).h (fieldBy ns 6).w := by omega
  exact ⟨sizeOk_iff.mpr (by omega), stonesOk_iff.mpr ⟨stonesOf_srt dim, stonesOf_sub⟩⟩
end DF

namespace DF
open R (rp)
open Dt (toD)
/-! ### parts: the open cells near -/
def opnB (rows : List Tx) (cells : List Cell) (x : Cell) : Bool := !hid rows x && cells.any fun c => nearB c x
def openN (rows : List Tx) (cells : List Cell) : List Cell := (allCells (hOf rows) (wOf rows)).filter (opnB rows cells)
theorem mem_openN {rows : List Tx} (v : Vw rows) {cells : List Cell} {x : Cell} : x ∈ openN rows cells ↔ ∃ c ∈ cells, x ∈ around (hOf rows) (wOf rows) c ∧ hid rows x = false := by
  unfold openN opnB
  rw [List.mem_filter, ← inF_cells v.dim, Bool.and_eq_true, Bool.not_eq_true', List.any_eq_true]
  constructor
  · rintro ⟨h1, h2, c, h3, h4⟩; exact ⟨c, h3, (mem_around v.dim).mpr ⟨h1, h4⟩, h2⟩
  · rintro ⟨c, h3, h4, h2⟩
    obtain ⟨h1, h5⟩ := (mem_around v.dim).mp h4
    exact ⟨h1, h2, c, h3, h5⟩
theorem openN_srt {rows : List Tx} (v : Vw rows) {cells : List Cell} : Srt (openN rows cells) := srt_filter (allCells_srt v.dim)
theorem openN_len {rows : List Tx} (v : Vw rows) {cells : List Cell} : (openN rows cells).length ≤ 36 := Nat.le_trans (List.length_filter_le _ _) (allCells_len v.dim)
theorem dput_keys {β : Type} {kvs : List (Cell × β)} {c : Cell} {v : β} : (dput kvs c v).map (·.1) = if c ∈ kvs.map (·.1) then kvs.map (·.1) else kvs.map (·.1) ++ [c] := by
  have h := dhas_keys (kvs := kvs) (c := c)
  unfold dhas at h
  unfold dput
  rw [h]
  by_cases hc : c ∈ kvs.map (·.1)
  · rw [decide_eq_true hc, if_pos rfl, if_pos hc, List.map_map]
    refine List.map_congr_left fun kv _ => ?_
    simp only [Function.comp]
    split <;> rfl
  · rw [decide_eq_false hc, if_neg (by decide), if_neg hc, List.map_append]; rfl
theorem mem_dput {β : Type} {kvs : List (Cell × β)} {c x : Cell} {v : β} : x ∈ (dput kvs c v).map (·.1) ↔ x ∈ kvs.map (·.1) ∨ x = c := by
  rw [dput_keys]
  split
  · rename_i h
    constructor
    · exact .inl
    · rintro (h2 | rfl)
      · exact h2
      · exact h
  · rw [List.mem_append, List.mem_singleton]
theorem dput_nd {β : Type} {kvs : List (Cell × β)} {c : Cell} {v : β} (h : (kvs.map (·.1)).Nodup) : ((dput kvs c v).map (·.1)).Nodup := by
  rw [dput_keys]
  split
  · exact h
  · rename_i hn
    refine List.nodup_append.mpr ⟨h, by simp, fun a ha b hb e => ?_⟩
    rw [List.mem_singleton] at hb
    subst hb; subst e; exact hn ha
/-- the dict so far: its keys, and what is to come -/
structure OpnI (rows : List Tx) (cells : List Cell) (kvs : List (Cell × Bool)) (rest : Cell → Prop) : Prop where
  nd : (kvs.map (·.1)).Nodup
  all : ∀ x, (x ∈ kvs.map (·.1) ∨ rest x) ↔ x ∈ openN rows cells
theorem OpnI.len {rows : List Tx} {cells : List Cell} {kvs : List (Cell × Bool)} {rest : Cell → Prop} (v : Vw rows) (o : OpnI rows cells kvs rest) : kvs.length ≤ 36 := by
  have := nodup_le o.nd (m := openN rows cells) fun x hx => (o.all x).mp (.inl hx)
  rw [List.length_map] at this
  exact Nat.le_trans this (openN_len v)
theorem OpnI.fin {rows : List Tx} {cells : List Cell} {kvs : List (Cell × Bool)} {rest : Cell → Prop} (v : Vw rows) (o : OpnI rows cells kvs rest) (h : ∀ x, ¬ rest x) : psort (kvs.map (·.1)) = openN rows cells :=
  srt_ext (psort_nd o.nd) (openN_srt v) fun x => by
    rw [mem_psort, ← o.all x]
    constructor
    · exact .inl
    · rintro (z | z)
      · exact z
      · exact absurd z (h x)
end DF

namespace DF
open R (rp)
open Dt (toD)
/-! ### parts, as the program finds them -/
def extB (rows : List Tx) (part : List Cell) (o : Cell) : List Cell := part ++ (around (hOf rows) (wOf rows) o).filter fun x => hid rows x && !decide (x ∈ part)
def growP (rows : List Tx) (part : List Cell) (c : Cell) : List Cell := (openN rows [c]).foldl (extB rows) part
def bgo (rows : List Tx) : Nat → List Cell → Nat → List Cell
  | 0, p, _ => p
  | n + 1, p, k => if k < p.length then bgo rows n (growP rows p (p.getD k (0, 0))) (k + 1) else p
def bfs (rows : List Tx) (c : Cell) : List Cell := bgo rows 37 [c] 0
def pgo (rows : List Tx) : Nat → List Cell → List (List Cell) → List (List Cell)
  | 0, _, f => f
  | n + 1, left, f => match left with
    | [] => f
    | c :: r => pgo rows n ((c :: r).filter fun x => !decide (x ∈ bfs rows c)) (f ++ [psort (bfs rows c)])
def partsOf (rows : List Tx) : List (List Cell) := pgo rows 37 (edgeOf rows) []
structure Prt (rows : List Tx) (p : List Cell) : Prop where
  nd : p.Nodup
  sub : ∀ x ∈ p, x ∈ closedOf rows
theorem Prt.len {rows : List Tx} {p : List Cell} (v : Vw rows) (h : Prt rows p) : p.length ≤ 36 := Nat.le_trans (nodup_le h.nd h.sub) (closed_len v)
theorem around_nd {h w : Int} (d : Dim h w) {c : Cell} : (around h w c).Nodup := srt_nd (around_srt d)
theorem Prt.ext {rows : List Tx} {p : List Cell} {o : Cell} (v : Vw rows) (h : Prt rows p) : Prt rows (extB rows p o) := by
  refine ⟨List.nodup_append.mpr ⟨h.nd, (around_nd v.dim).sublist List.filter_sublist, fun a ha b hb e => ?_⟩, fun x hx => ?_⟩
  · subst e
    have := (List.mem_filter.mp hb).2
    simp [ha] at this
  · rcases List.mem_append.mp hx with z | z
    · exact h.sub x z
    · obtain ⟨z1, z2⟩ := List.mem_filter.mp z
      exact (mem_closed v).mpr ⟨((mem_around v.dim).mp z1).1, (Bool.and_eq_true_iff.mp z2).1⟩
theorem Prt.fold {rows : List Tx} (v : Vw rows) : ∀ {os : List Cell} {p : List Cell}, Prt rows p → Prt rows (os.foldl (extB rows) p)
  | [], _, h => h
  | o :: os, _, h => Prt.fold v (os := os) (h.ext v)
theorem Prt.grow {rows : List Tx} {p : List Cell} {c : Cell} (v : Vw rows) (h : Prt rows p) : Prt rows (growP rows p c) := h.fold v
theorem Prt.bgo {rows : List Tx} (v : Vw rows) : ∀ (n : Nat) (p : List Cell) (k : Nat), Prt rows p → Prt rows (bgo rows n p k)
  | 0, _, _, h => h
  | n + 1, p, k, h => by
    unfold DF.bgo
    split
    · exact Prt.bgo v n _ _ (h.grow v)
    · exact h
theorem prt_bfs {rows : List Tx} {c : Cell} (v : Vw rows) (hc : c ∈ closedOf rows) : Prt rows (bfs rows c) := Prt.bgo v _ _ _ ⟨by simp, fun x hx => by rw [List.mem_singleton.mp hx]; exact hc⟩
theorem fold_pre {rows : List Tx} : ∀ {os : List Cell} {p : List Cell}, p <+: os.foldl (extB rows) p
  | [], p => List.prefix_rfl
  | o :: os, p => List.IsPrefix.trans (List.prefix_append _ _) (fold_pre (os := os))
theorem bgo_pre {rows : List Tx} : ∀ (n : Nat) (p : List Cell) (k : Nat), p <+: bgo rows n p k
  | 0, _, _ => List.prefix_rfl
  | n + 1, p, k => by
    unfold bgo
    split
    · exact List.IsPrefix.trans fold_pre (bgo_pre n _ _)
    · exact List.prefix_rfl
theorem mem_bfs {rows : List Tx} {c : Cell} : c ∈ bfs rows c := (bgo_pre 37 [c] 0).subset (by simp)
theorem rest_lt {rows : List Tx} {c : Cell} {r : List Cell} : ((c :: r).filter fun x => !decide (x ∈ bfs rows c)).length < (c :: r).length := by
  rw [List.filter_cons, if_neg (by simp [mem_bfs])]
  exact Nat.lt_succ_of_le (List.length_filter_le _ _)
theorem edge_closed {rows : List Tx} : ∀ x ∈ edgeOf rows, x ∈ closedOf rows := fun x hx => (List.mem_filter.mp hx).1
theorem edge_len {rows : List Tx} (v : Vw rows) : (edgeOf rows).length ≤ 36 := Nat.le_trans (List.length_filter_le _ _) (closed_len v)
end DF

namespace DF
open R (rp)
open Dt (toD)
/-! ### parts, as the law finds them: labels that are merged -/
def insI (x : Int) : List Int → List Int
  | [] => [x]
  | y :: l => if x < y then x :: y :: l else if x = y then y :: l else y :: insI x l
def dsort (ns : List Int) : List Int := ns.foldr insI []
theorem mem_insI {x z : Int} : ∀ {l : List Int}, z ∈ insI x l ↔ z = x ∨ z ∈ l
  | [] => by simp [insI]
  | y :: l => by
    unfold insI
    split
    · simp
    · split
      · rename_i h; subst h; simp
      · rw [List.mem_cons, mem_insI (l := l), List.mem_cons]
        constructor
        · rintro (a | b | c)
          · exact .inr (.inl a)
          · exact .inl b
          · exact .inr (.inr c)
        · rintro (a | b | c)
          · exact .inr (.inl a)
          · exact .inl b
          · exact .inr (.inr c)
theorem insI_srt {x : Int} : ∀ {l : List Int}, l.Pairwise (· < ·) → (insI x l).Pairwise (· < ·)
  | [], _ => List.pairwise_singleton _ _
  | y :: l, h => by
    obtain ⟨h1, h2⟩ := List.pairwise_cons.mp h
    unfold insI
    split
    · rename_i hx
      refine List.pairwise_cons.mpr ⟨fun z hz => ?_, h⟩
      rcases List.mem_cons.mp hz with rfl | hz
      · exact hx
      · have := h1 z hz; omega
    · split
      · exact h
      · rename_i hx hy
        refine List.pairwise_cons.mpr ⟨fun z hz => ?_, insI_srt h2⟩
        rcases mem_insI.mp hz with rfl | hz
        · omega
        · exact h1 z hz
theorem dsort_srt : ∀ (ns : List Int), (dsort ns).Pairwise (· < ·)
  | [] => .nil
  | x :: ns => insI_srt (dsort_srt ns)
theorem mem_dsort {z : Int} : ∀ {ns : List Int}, z ∈ dsort ns ↔ z ∈ ns
  | [] => by simp [dsort]
  | x :: ns => by
    show z ∈ insI x (dsort ns) ↔ _
    rw [mem_insI, mem_dsort (ns := ns), List.mem_cons]
/-- the least of some -/
def minL : List Int → Int
  | [] => 0
  | [x] => x
  | x :: y :: l => min x (minL (y :: l))
theorem minL_mem : ∀ {l : List Int}, l ≠ [] → minL l ∈ l
  | [], h => absurd rfl h
  | [x], _ => by simp [minL]
  | x :: y :: l, _ => by
    have ih := minL_mem (l := y :: l) (by simp)
    show min x (minL (y :: l)) ∈ _
    by_cases h : x ≤ minL (y :: l)
    · rw [Int.min_eq_left h]; simp
    · rw [Int.min_eq_right (by omega)]; exact List.mem_cons_of_mem _ ih
theorem minL_le : ∀ {l : List Int} {z : Int}, z ∈ l → minL l ≤ z
  | [x], z, h => by simp at h; subst h; exact Int.le_refl _
  | x :: y :: l, z, h => by
    show min x (minL (y :: l)) ≤ z
    rcases List.mem_cons.mp h with rfl | h
    · exact Int.min_le_left _ _
    · exact Int.le_trans (Int.min_le_right _ _) (minL_le h)
/-- the dict of labels, by a function -/
def tabl (verge : List Cell) (f : Cell → Int) : List (Cell × Int) := verge.map fun c => (c, f c)
def mrg (f : Cell → Int) (S : List Int) (c : Cell) : Int := if f c ∈ S then minL S else f c
def someOf (rows : List Tx) (f : Cell → Int) (one : Cell) : List Int := ((lnear (hOf rows) (wOf rows) one).filter fun x => decide (x ∈ ledge rows)).map f
def stepF (rows : List Tx) (f : Cell → Int) (one : Cell) : Cell → Int := mrg f (someOf rows f one)
def lab0 (rows : List Tx) (c : Cell) : Int := ((ledge rows).idxOf c : Nat)
def labF (rows : List Tx) : Cell → Int := (lopen rows).foldl (stepF rows) (lab0 rows)
def lgroups (rows : List Tx) : List (List Cell) := (dsort ((ledge rows).map (labF rows))).map fun k => (ledge rows).filter fun c => decide (labF rows c = k)
theorem tabl_keys {verge : List Cell} {f : Cell → Int} : (tabl verge f).map (·.1) = verge := by
  unfold tabl
  rw [List.map_map]
  exact List.map_id' verge
theorem tabl_get {verge : List Cell} {f : Cell → Int} {c : Cell} (h : c ∈ verge) : dval (tabl verge f) c = some (f c) := by
  unfold dval tabl
  induction verge with
  | nil => simp at h
  | cons x l ih =>
    simp only [List.map_cons, List.find?_cons]
    by_cases hx : x = c
    · subst hx; simp
    · rw [decide_eq_false hx]
      exact ih (by rcases List.mem_cons.mp h with rfl | h; exact absurd rfl hx; exact h)
theorem tabl_put {verge : List Cell} {f : Cell → Int} {c : Cell} {v : Int} (h : c ∈ verge) : dput (tabl verge f) c v = tabl verge (fun x => if x = c then v else f x) := by
  have hd := dhas_keys (kvs := tabl verge f) (c := c)
  unfold dhas at hd
  unfold dput
  rw [hd, tabl_keys, decide_eq_true h, if_pos rfl]
  unfold tabl
  rw [List.map_map]
  refine List.map_congr_left fun x _ => ?_
  simp only [Function.comp]
  split <;> rfl
theorem tabl_new {verge : List Cell} {f : Cell → Int} {c : Cell} (h : c ∉ verge) : dput (tabl verge f) c (f c) = tabl (verge ++ [c]) f := by
  have hd := dhas_keys (kvs := tabl verge f) (c := c)
  unfold dhas at hd
  unfold dput
  rw [hd, tabl_keys, decide_eq_false h, if_neg (by decide)]
  unfold tabl
  rw [List.map_append]; rfl
end DF
namespace DF
open R (rp)
open Dt (toD)
theorem edge_srt {rows : List Tx} (v : Vw rows) : Srt (ledge rows) := by rw [ledge_eq v]; exact srt_filter (srt_filter (allCells_srt v.dim))
theorem enum_step {v : List Cell} (nd : v.Nodup) {i : Nat} {x : Int × Cell} {ys : List (Int × Cell)} (h : x :: ys = (enumL v).drop i) : x.1 = ((v.idxOf x.2 : Nat) : Int) ∧ x.2 ∉ v.take i ∧ v.take i ++ [x.2] = v.take (i + 1) ∧ ys = (enumL v).drop (i + 1) := by
  have hi : i < v.length := by
    have := congrArg List.length h
    rw [List.length_drop, enumL_len] at this
    simp only [List.length_cons] at this
    omega
  have hi2 : i < (enumL v).length := by rw [enumL_len]; exact hi
  rw [List.drop_eq_getElem_cons hi2] at h
  obtain ⟨h1, h2⟩ := List.cons.inj h
  have hx : x = ((i : Int), v[i]) := by
    have := enumL_get (List.getElem?_eq_getElem hi)
    rw [List.getElem?_eq_getElem hi2] at this
    rw [h1]; exact Option.some.inj this
  subst hx
  refine ⟨?_, ?_, ?_, h2⟩
  · show (i : Int) = _
    rw [nd.idxOf_getElem]
  · intro hm
    obtain ⟨j, hj, e⟩ := List.getElem_of_mem hm
    rw [List.length_take] at hj
    rw [List.getElem_take] at e
    have := (List.nodup_iff_pairwise_ne.mp nd)
    have := List.pairwise_iff_getElem.mp this j i (by omega) hi (by omega)
    exact this e
  · rw [List.take_add_one, List.getElem?_eq_getElem hi]; rfl
end DF
namespace DF
open R (rp)
open Dt (toD)
theorem insI_len {x : Int} : ∀ {l : List Int}, (insI x l).length ≤ l.length + 1
  | [] => by simp [insI]
  | y :: l => by
    unfold insI
    split
    · simp
    · split
      · simp
      · simp only [List.length_cons]; have := insI_len (x := x) (l := l); omega
theorem dsort_len : ∀ {ns : List Int}, (dsort ns).length ≤ ns.length
  | [] => Nat.le_refl _
  | x :: ns => by
    show (insI x (dsort ns)).length ≤ _
    have := insI_len (x := x) (l := dsort ns)
    have := dsort_len (ns := ns)
    simp only [List.length_cons]; omega
theorem lgroups_len {rows : List Tx} (h : (ledge rows).length ≤ 36) : (lgroups rows).length ≤ 1000 := by
  unfold lgroups
  rw [List.length_map]
  have := dsort_len (ns := (ledge rows).map (labF rows))
  rw [List.length_map] at this
  omega
end DF

namespace DF
open R (rp)
open Dt (toD)
/-! ### k04: the parts found are the classes of the labels -/
theorem near_sym {a b : Cell} : nearB a b = nearB b a := by
  rw [Bool.eq_iff_iff, nearB_iff, nearB_iff]
  constructor <;> (rintro ⟨h1, h2, h3⟩; exact ⟨by omega, by omega, fun e => h3 e.symm⟩)
theorem mem_edge {rows : List Tx} (v : Vw rows) {x : Cell} : x ∈ ledge rows ↔ (inF (hOf rows) (wOf rows) x = true ∧ hid rows x = true) ∧ ∃ o ∈ lopen rows, nearB o x = true := by
  rw [ledge_eq v]
  unfold edgeOf isEdge
  rw [List.mem_filter, mem_closed v, Bool.not_eq_true', ← Bool.not_eq_true, List.all_eq_true]
  constructor
  · rintro ⟨h1, h2⟩
    refine ⟨h1, ?_⟩
    false_or_by_contra
    rename_i hn
    apply h2
    intro y hy
    obtain ⟨y1, y2⟩ := (mem_around v.dim).mp hy
    cases hh : hid rows y with
    | true => rfl
    | false => exact absurd ⟨y, (mem_lopen v).mpr ⟨y1, hh⟩, by rw [near_sym]; exact y2⟩ hn
  · rintro ⟨h1, o, ho, hn⟩
    refine ⟨h1, fun hall => ?_⟩
    obtain ⟨o1, o2⟩ := (mem_lopen v).mp ho
    have := hall o ((mem_around v.dim).mpr ⟨o1, by rw [near_sym]; exact hn⟩)
    rw [o2] at this; cases this
/-- joined by the open cells os -/
inductive Cn (rows : List Tx) (os : List Cell) : Cell → Cell → Prop
  | refl (c : Cell) : Cn rows os c c
  | step {c d e o : Cell} : Cn rows os c d → o ∈ os → nearB o d = true → nearB o e = true → d ∈ ledge rows → e ∈ ledge rows → Cn rows os c e
theorem Cn.trans {rows : List Tx} {os : List Cell} {a b c : Cell} (h : Cn rows os a b) (h2 : Cn rows os b c) : Cn rows os a c := by
  induction h2 with
  | refl => exact h
  | step _ a1 a2 a3 a4 a5 ih => exact .step ih a1 a2 a3 a4 a5
theorem Cn.one {rows : List Tx} {os : List Cell} {d e o : Cell} (a1 : o ∈ os) (a2 : nearB o d = true) (a3 : nearB o e = true) (a4 : d ∈ ledge rows) (a5 : e ∈ ledge rows) : Cn rows os d e := .step (.refl d) a1 a2 a3 a4 a5
theorem Cn.symm {rows : List Tx} {os : List Cell} {a b : Cell} (h : Cn rows os a b) : Cn rows os b a := by
  induction h with
  | refl => exact .refl _
  | step _ a1 a2 a3 a4 a5 ih => exact Cn.trans (Cn.one a1 a3 a2 a5 a4) ih
theorem Cn.mono {rows : List Tx} {os os' : List Cell} {a b : Cell} (s : ∀ o ∈ os, o ∈ os') (h : Cn rows os a b) : Cn rows os' a b := by
  induction h with
  | refl => exact .refl _
  | step _ a1 a2 a3 a4 a5 ih => exact .step ih (s _ a1) a2 a3 a4 a5
def ixE (rows : List Tx) (c : Cell) : Int := ((ledge rows).idxOf c : Nat)
structure Lab (rows : List Tx) (os : List Cell) (f : Cell → Int) : Prop where
  iff : ∀ c ∈ ledge rows, ∀ d ∈ ledge rows, f c = f d ↔ Cn rows os c d
  le : ∀ c ∈ ledge rows, f c ≤ ixE rows c
  ex : ∀ c ∈ ledge rows, ∃ d ∈ ledge rows, Cn rows os c d ∧ f c = ixE rows d
theorem cn_nil {rows : List Tx} {a b : Cell} (h : Cn rows [] a b) : a = b := by
  induction h with
  | refl => rfl
  | step _ a1 => simp at a1
theorem lab_start (rows : List Tx) : Lab rows [] (lab0 rows) := by
  refine ⟨fun c hc d hd => ⟨fun h => ?_, fun h => by rw [cn_nil h]⟩, fun c _ => Int.le_refl _, fun c hc => ⟨c, hc, .refl c, rfl⟩⟩
  have h : (ledge rows).idxOf c = (ledge rows).idxOf d := by unfold lab0 at h; omega
  have e1 := List.getElem_idxOf (x := c) (xs := ledge rows) (List.idxOf_lt_length_of_mem hc)
  have e2 := List.getElem_idxOf (x := d) (xs := ledge rows) (List.idxOf_lt_length_of_mem hd)
  have : c = d := by rw [← e1, ← e2]; simp only [h]
  rw [this]; exact .refl _
theorem mem_some {rows : List Tx} (v : Vw rows) {f : Cell → Int} {o : Cell} {k : Int} : k ∈ someOf rows f o ↔ ∃ x ∈ ledge rows, nearB o x = true ∧ f x = k := by
  unfold someOf
  rw [List.mem_map]
  constructor
  · rintro ⟨x, hx, rfl⟩
    obtain ⟨h1, h2⟩ := List.mem_filter.mp hx
    exact ⟨x, of_decide_eq_true h2, (mem_lnear.mp h1).2, rfl⟩
  · rintro ⟨x, h1, h2, rfl⟩
    exact ⟨x, List.mem_filter.mpr ⟨mem_lnear.mpr ⟨((mem_edge v).mp h1).1.1, h2⟩, decide_eq_true h1⟩, rfl⟩
theorem lab_step {rows : List Tx} (v : Vw rows) {os : List Cell} {f : Cell → Int} {o : Cell} (L : Lab rows os f) : Lab rows (os ++ [o]) (stepF rows f o) := by
  have up : ∀ {a b}, Cn rows os a b → Cn rows (os ++ [o]) a b := fun h => h.mono fun x hx => List.mem_append_left _ hx
  have ino : o ∈ os ++ [o] := by simp
  have val : ∀ c, f c ∈ someOf rows f o → stepF rows f o c = minL (someOf rows f o) := fun c h => by unfold stepF mrg; rw [if_pos h]
  have val2 : ∀ c, f c ∉ someOf rows f o → stepF rows f o c = f c := fun c h => by unfold stepF mrg; rw [if_neg h]
  have le2 : ∀ c, stepF rows f o c ≤ f c := fun c => by
    by_cases h : f c ∈ someOf rows f o
    · rw [val c h]; exact minL_le h
    · rw [val2 c h]; exact Int.le_refl _
  refine ⟨fun c hc d hd => ⟨fun h => ?_, fun h => ?_⟩, fun c hc => Int.le_trans (le2 c) (L.le c hc), fun c hc => ?_⟩
  · by_cases h1 : f c ∈ someOf rows f o
    · obtain ⟨x, x1, x2, x3⟩ := (mem_some v).mp h1
      have cx := up ((L.iff c hc x x1).mp x3.symm)
      by_cases h2 : f d ∈ someOf rows f o
      · obtain ⟨y, y1, y2, y3⟩ := (mem_some v).mp h2
        exact (cx.trans (Cn.one ino x2 y2 x1 y1)).trans (up ((L.iff y y1 d hd).mp y3))
      · rw [val c h1, val2 d h2] at h
        have := minL_mem (l := someOf rows f o) (fun z => by rw [z] at h1; simp at h1)
        rw [h] at this
        exact absurd this h2
    · by_cases h2 : f d ∈ someOf rows f o
      · rw [val2 c h1, val d h2] at h
        have := minL_mem (l := someOf rows f o) (fun z => by rw [z] at h2; simp at h2)
        rw [← h] at this
        exact absurd this h1
      · rw [val2 c h1, val2 d h2] at h
        exact up ((L.iff c hc d hd).mp h)
  · clear hd
    induction h with
    | refl => rfl
    | @step d e o' h1 a1 a2 a3 a4 a5 ih =>
      rw [ih]
      rcases List.mem_append.mp a1 with a1 | a1
      · have : f d = f e := (L.iff d a4 e a5).mpr (Cn.one a1 a2 a3 a4 a5)
        unfold stepF mrg; rw [this]
      · rw [List.mem_singleton.mp a1] at a2 a3
        rw [val d ((mem_some v).mpr ⟨d, a4, a2, rfl⟩), val e ((mem_some v).mpr ⟨e, a5, a3, rfl⟩)]
  · by_cases h1 : f c ∈ someOf rows f o
    · rw [val c h1]
      have hm := minL_mem (l := someOf rows f o) (fun z => by rw [z] at h1; simp at h1)
      obtain ⟨x, x1, x2, x3⟩ := (mem_some v).mp hm
      obtain ⟨y, y1, y2, y3⟩ := (mem_some v).mp h1
      obtain ⟨d, d1, d2, d3⟩ := L.ex x x1
      refine ⟨d, d1, ?_, by rw [← x3, d3]⟩
      exact ((up ((L.iff c hc y y1).mp y3.symm)).trans (Cn.one ino y2 x2 y1 x1)).trans (up d2)
    · rw [val2 c h1]
      obtain ⟨d, d1, d2, d3⟩ := L.ex c hc
      exact ⟨d, d1, up d2, d3⟩
theorem lab_fold {rows : List Tx} (v : Vw rows) : ∀ (os done : List Cell) (f : Cell → Int), Lab rows done f → Lab rows (done ++ os) (os.foldl (stepF rows) f)
  | [], done, f, h => by simpa using h
  | o :: os, done, f, h => by
    have := lab_fold v os (done ++ [o]) _ (lab_step v (o := o) h)
    simpa using this
theorem lab_end {rows : List Tx} (v : Vw rows) : Lab rows (lopen rows) (labF rows) := by
  have := lab_fold v (lopen rows) [] _ (lab_start rows)
  rw [List.nil_append] at this
  exact this
end DF

namespace DF
open R (rp)
open Dt (toD)
/-! ### k04: what the search finds is a class -/
theorem mem_fold {rows : List Tx} (v : Vw rows) {x : Cell} : ∀ {os : List Cell} {p : List Cell}, x ∈ os.foldl (extB rows) p ↔ x ∈ p ∨ ∃ o ∈ os, x ∈ around (hOf rows) (wOf rows) o ∧ hid rows x = true
  | [], p => by simp
  | o :: os, p => by
    rw [List.foldl_cons, mem_fold v (os := os)]
    unfold extB
    rw [List.mem_append, List.mem_filter]
    constructor
    · rintro ((h | h) | ⟨o', h1, h2⟩)
      · exact .inl h
      · exact .inr ⟨o, by simp, h.1, (Bool.and_eq_true_iff.mp h.2).1⟩
      · exact .inr ⟨o', by simp [h1], h2⟩
    · rintro (h | ⟨o', h1, h2, h3⟩)
      · exact .inl (.inl h)
      · rcases List.mem_cons.mp h1 with rfl | h1
        · by_cases hx : x ∈ p
          · exact .inl (.inl hx)
          · exact .inl (.inr ⟨h2, by simp [h3, hx]⟩)
        · exact .inr ⟨o', h1, h2, h3⟩
/-- x is joined to c by one open cell -/
def Jn (rows : List Tx) (c x : Cell) : Prop := ∃ o ∈ lopen rows, nearB o c = true ∧ nearB o x = true
theorem mem_grow {rows : List Tx} (v : Vw rows) {p : List Cell} {c x : Cell} : x ∈ growP rows p c ↔ x ∈ p ∨ (inF (hOf rows) (wOf rows) x = true ∧ hid rows x = true ∧ Jn rows c x) := by
  unfold growP
  rw [mem_fold v]
  constructor
  · rintro (h | ⟨o, h1, h2, h3⟩)
    · exact .inl h
    · obtain ⟨c', hc', h4, h5⟩ := (mem_openN v).mp h1
      rw [List.mem_singleton] at hc'
      subst hc'
      obtain ⟨o1, o2⟩ := (mem_around v.dim).mp h4
      obtain ⟨x1, x2⟩ := (mem_around v.dim).mp h2
      exact .inr ⟨x1, h3, o, (mem_lopen v).mpr ⟨o1, h5⟩, by rw [near_sym]; exact o2, x2⟩
  · rintro (h | ⟨h1, h2, o, h3, h4, h5⟩)
    · exact .inl h
    · obtain ⟨o1, o2⟩ := (mem_lopen v).mp h3
      exact .inr ⟨o, (mem_openN v).mpr ⟨c, by simp, (mem_around v.dim).mpr ⟨o1, by rw [near_sym]; exact h4⟩, o2⟩, (mem_around v.dim).mpr ⟨h1, h5⟩, h2⟩
structure Sch (rows : List Tx) (c : Cell) (p : List Cell) (k : Nat) : Prop where
  sub : ∀ x ∈ p, x ∈ ledge rows ∧ Cn rows (lopen rows) c x
  done : ∀ i m, i < k → p[i]? = some m → ∀ y ∈ ledge rows, Jn rows m y → y ∈ p
theorem sch_grow {rows : List Tx} (v : Vw rows) {c : Cell} {p : List Cell} {k : Nat} (s : Sch rows c p k) (hk : k < p.length) : Sch rows c (growP rows p (p.getD k (0, 0))) (k + 1) := by
  have hm : p[k]? = some (p.getD k (0, 0)) := by rw [List.getD_eq_getElem?_getD, List.getElem?_eq_getElem hk]; rfl
  have hmem := List.mem_of_getElem? hm
  generalize p.getD k (0, 0) = m at hm hmem
  have pre : p <+: growP rows p m := fold_pre
  refine ⟨fun x hx => ?_, fun i z hi hz y hy hj => ?_⟩
  · rcases (mem_grow v).mp hx with h | ⟨h1, h2, o, h3, h4, h5⟩
    · exact s.sub x h
    · have he : x ∈ ledge rows := (mem_edge v).mpr ⟨⟨h1, h2⟩, o, h3, h5⟩
      obtain ⟨q1, q2⟩ := s.sub m hmem
      exact ⟨he, q2.trans (Cn.one h3 h4 h5 q1 he)⟩
  · have hil : i < p.length := by omega
    have hz' : p[i]? = some z := by
      obtain ⟨t, ht⟩ := pre
      rw [← ht, List.getElem?_append_left hil] at hz
      exact hz
    by_cases hik : i < k
    · exact pre.subset (s.done i z hik hz' y hy hj)
    · have : i = k := by omega
      subst this
      rw [hm] at hz'
      cases hz'
      have := ((mem_edge v).mp hy).1
      exact (mem_grow v).mpr (.inr ⟨this.1, this.2, hj⟩)
theorem sch_bgo {rows : List Tx} (v : Vw rows) {c : Cell} : ∀ (n : Nat) (p : List Cell) (k : Nat), Sch rows c p k → Prt rows p → k ≤ p.length → 37 ≤ n + k → Sch rows c (bgo rows n p k) (bgo rows n p k).length
  | 0, p, k, s, hp, hk, hn => by have := hp.len v; omega
  | n + 1, p, k, s, hp, hk, hn => by
    unfold bgo
    by_cases h : k < p.length
    · rw [if_pos h]
      have hg := hp.grow (c := p.getD k (0, 0)) v
      have pre : p <+: growP rows p (p.getD k (0, 0)) := fold_pre
      exact sch_bgo v n _ _ (sch_grow v s h) hg (by have := pre.length_le; omega) (by omega)
    · rw [if_neg h]
      have : k = p.length := by omega
      rw [← this]; exact s
theorem mem_bfs_iff {rows : List Tx} (v : Vw rows) {c x : Cell} (hc : c ∈ ledge rows) : x ∈ bfs rows c ↔ x ∈ ledge rows ∧ Cn rows (lopen rows) c x := by
  have hcl : c ∈ closedOf rows := (mem_closed v).mpr ((mem_edge v).mp hc).1
  have s := sch_bgo v (c := c) 37 [c] 0 ⟨fun x hx => by rw [List.mem_singleton.mp hx]; exact ⟨hc, .refl c⟩, fun i m hi => absurd hi (by omega)⟩ ⟨by simp, fun x hx => by rw [List.mem_singleton.mp hx]; exact hcl⟩ (by simp) (by omega)
  constructor
  · exact s.sub x
  · rintro ⟨h1, h2⟩
    induction h2 with
    | refl => exact mem_bfs
    | @step d e o _ a1 a2 a3 a4 a5 ih =>
      have hd := ih a4
      obtain ⟨i, hi, e1⟩ := List.getElem_of_mem hd
      exact s.done i d hi (by show (bfs rows c)[i]? = _; rw [List.getElem?_eq_getElem hi, e1]) e a5 ⟨o, a1, a2, a3⟩
end DF

namespace DF
open R (rp)
open Dt (toD)
theorem ix_lt {rows : List Tx} (v : Vw rows) {c e : Cell} (hc : c ∈ ledge rows) (he : e ∈ ledge rows) (h : clt c e = true) : ixE rows c < ixE rows e := by
  have hs := edge_srt v
  have l1 := List.idxOf_lt_length_of_mem hc
  have l2 := List.idxOf_lt_length_of_mem he
  have g1 := List.getElem_idxOf (x := c) (xs := ledge rows) l1
  have g2 := List.getElem_idxOf (x := e) (xs := ledge rows) l2
  unfold ixE
  false_or_by_contra
  rename_i hn
  by_cases hq : (ledge rows).idxOf e = (ledge rows).idxOf c
  · have : c = e := by rw [← g1, ← g2]; simp only [hq]
    subst this; exact clt_irr h
  · have := List.pairwise_iff_getElem.mp hs ((ledge rows).idxOf e) ((ledge rows).idxOf c) l2 l1 (by omega)
    rw [g1, g2] at this
    exact clt_irr (clt_trans h this)
def grp (rows : List Tx) (k : Int) : List Cell := (ledge rows).filter fun c => decide (labF rows c = k)
theorem pgo_eq {rows : List Tx} (v : Vw rows) : ∀ (n : Nat) (left : List Cell) (f : List (List Cell)), left.length < n → left.Sublist (ledge rows) → (∀ c ∈ left, ∀ d ∈ ledge rows, labF rows d = labF rows c → d ∈ left) →
    pgo rows n left f = f ++ (dsort (left.map (labF rows))).map (grp rows)
  | 0, left, f, h, _, _ => absurd h (by omega)
  | n + 1, [], f, _, _, _ => by unfold pgo; simp [dsort]
  | n + 1, c :: r, f, hn, hsub, hcl => by
    have L := lab_end v
    have hs : Srt (c :: r) := (edge_srt v).sublist hsub
    have hc : c ∈ ledge rows := hsub.subset (by simp)
    have inb : ∀ x ∈ ledge rows, (x ∈ bfs rows c ↔ labF rows x = labF rows c) := fun x hx => by
      rw [mem_bfs_iff v hc, ← L.iff c hc x hx]
      exact ⟨fun h => h.2.symm, fun h => ⟨hx, h.symm⟩⟩
    have e1 : psort (bfs rows c) = grp rows (labF rows c) := by
      refine srt_ext (psort_nd (prt_bfs v ((mem_closed v).mpr ((mem_edge v).mp hc).1)).nd) (srt_filter (edge_srt v)) fun x => ?_
      rw [mem_psort]
      unfold grp
      rw [List.mem_filter, decide_eq_true_iff]
      constructor
      · intro h
        have hx := ((mem_bfs_iff v hc).mp h).1
        exact ⟨hx, (inb x hx).mp h⟩
      · rintro ⟨h1, h2⟩; exact (inb x h1).mpr h2
    have hlt := rest_lt (rows := rows) (c := c) (r := r)
    have hfs : ((c :: r).filter fun x => !decide (x ∈ bfs rows c)).Sublist (ledge rows) := List.filter_sublist.trans hsub
    have mf : ∀ x, x ∈ (c :: r).filter (fun x => !decide (x ∈ bfs rows c)) ↔ x ∈ c :: r ∧ labF rows x ≠ labF rows c := fun x => by
      rw [List.mem_filter]
      constructor
      · rintro ⟨h1, h2⟩
        refine ⟨h1, fun z => ?_⟩
        rw [decide_eq_true ((inb x (hsub.subset h1)).mpr z)] at h2
        cases h2
      · rintro ⟨h1, h2⟩
        refine ⟨h1, ?_⟩
        rw [decide_eq_false fun z => h2 ((inb x (hsub.subset h1)).mp z)]; rfl
    have ih := pgo_eq v n _ (f ++ [psort (bfs rows c)]) (by omega) hfs (fun a ha d hd hlab => by
      obtain ⟨a1, a2⟩ := (mf a).mp ha
      exact (mf d).mpr ⟨hcl a a1 d hd hlab, by rw [hlab]; exact a2⟩)
    show pgo rows n _ _ = _
    rw [ih, e1, List.append_assoc]
    congr 1
    have e2 : dsort ((c :: r).map (labF rows)) = labF rows c :: dsort (((c :: r).filter fun x => !decide (x ∈ bfs rows c)).map (labF rows)) := by
      refine int_ext (dsort_srt _) (List.pairwise_cons.mpr ⟨fun z hz => ?_, dsort_srt _⟩) fun z => ?_
      · obtain ⟨x, hx, rfl⟩ := List.mem_map.mp (mem_dsort.mp hz)
        obtain ⟨x1, x2⟩ := (mf x).mp hx
        have hxe := hsub.subset x1
        obtain ⟨d, d1, d2, d3⟩ := L.ex x hxe
        have hd : d ∈ c :: r := hcl x x1 d d1 ((L.iff x hxe d d1).mpr d2).symm
        have : ixE rows c ≤ ixE rows d := by
          rcases List.mem_cons.mp hd with rfl | hd
          · exact Int.le_refl _
          · exact Int.le_of_lt (ix_lt v hc d1 ((List.pairwise_cons.mp hs).1 d hd))
        have := L.le c hc
        omega
      · rw [mem_dsort, List.mem_cons, mem_dsort, List.mem_map, List.mem_map]
        constructor
        · rintro ⟨x, hx, rfl⟩
          by_cases h : labF rows x = labF rows c
          · exact .inl h
          · exact .inr ⟨x, (mf x).mpr ⟨hx, h⟩, rfl⟩
        · rintro (rfl | ⟨x, hx, rfl⟩)
          · exact ⟨c, by simp, rfl⟩
          · exact ⟨x, ((mf x).mp hx).1, rfl⟩
    rw [e2]; rfl
theorem parts_eq {rows : List Tx} (v : Vw rows) : partsOf rows = lgroups rows := by
  unfold partsOf
  rw [← ledge_eq v, pgo_eq v 37 (ledge rows) [] (by have := edge_len v; rw [← ledge_eq v] at this; omega) (List.Sublist.refl _) (fun c _ d hd _ => hd)]
  rfl
end DF

namespace DF
open R (rp)
open Dt (toD)
/-! ### k04: the lists told, one after the other changed -/
def updK (cs : List (List Cell)) (k : Nat) : List (List Cell) := (cs.take k).map (fun c => c ++ [(9, 9)]) ++ cs.drop k
theorem updK_len {cs : List (List Cell)} {k : Nat} : (updK cs k).length = cs.length := by
  unfold updK
  rw [List.length_append, List.length_map, List.length_take, List.length_drop]; omega
theorem updK_get {cs : List (List Cell)} {k : Nat} {c : List Cell} (h : cs[k]? = some c) : (updK cs k)[k]? = some c := by
  have hk : k < cs.length := (List.getElem?_eq_some_iff.mp h).1
  unfold updK
  rw [List.getElem?_append_right (by rw [List.length_map, List.length_take]; omega), List.length_map, List.length_take, List.getElem?_drop, ← h]
  congr 1; omega
theorem updK_set {cs : List (List Cell)} {k : Nat} {c : List Cell} (h : cs[k]? = some c) : (updK cs k).set k (c ++ [(9, 9)]) = updK cs (k + 1) := by
  have hk : k < cs.length := (List.getElem?_eq_some_iff.mp h).1
  have hc : cs[k] = c := (List.getElem?_eq_some_iff.mp h).2
  unfold updK
  rw [List.take_add_one, h, List.map_append]
  have hl : ((cs.take k).map fun c => c ++ [(9, 9)]).length = k := by rw [List.length_map, List.length_take]; omega
  rw [List.set_append_right _ _ (by omega), hl, Nat.sub_self, List.drop_eq_getElem_cons hk, List.append_assoc]
  rfl
theorem zip_set {α β : Type} {ps : List α} {L : List β} {k : Nat} {p : α} {y : β} (hp : ps[k]? = some p) : (ps.zip L).set k (p, y) = ps.zip (L.set k y) := by
  apply List.ext_getElem?
  intro i
  by_cases hi : k = i
  · subst hi
    by_cases hl : k < L.length
    · have hpl : k < ps.length := (List.getElem?_eq_some_iff.mp hp).1
      rw [List.getElem?_set_self (by rw [List.length_zip]; omega)]
      exact (List.getElem?_zip_eq_some (z := (p, y)).mpr ⟨hp, List.getElem?_set_self hl⟩).symm
    · rw [List.set_eq_of_length_le (by rw [List.length_zip]; omega), List.set_eq_of_length_le (by omega)]
  · rw [List.getElem?_set_ne hi, List.zip, List.getElem?_zipWith, List.getElem?_zipWith, List.getElem?_set_ne hi]
end DF

namespace DF
open R (rp)
open Dt (toD)
/-! ### k05: layings of a part, as the program finds them and as the law does -/
/-- how many of l lie near o -/
def cntIn (rows : List Tx) (o : Cell) (l : List Cell) : Nat := (l.filter fun x => decide (x ∈ around (hOf rows) (wOf rows) o)).length
def fitsB (rows : List Tx) (chosen left : List Cell) (o : Cell) : Bool := decide (cntIn rows o chosen ≤ figN rows o) && decide (figN rows o ≤ cntIn rows o chosen + cntIn rows o left)
def stillB (rows : List Tx) (told chosen left : List Cell) : Bool := told.all (fitsB rows chosen left)
def layStep (rows : List Tx) (told : List Cell) (c : Cell) (left : List Cell) (rws : List (List Cell)) : List (List Cell) := rws.flatMap fun r => [r, r ++ [c]].filter fun r' => stillB rows told r' left
def layGo (rows : List Tx) (told : List Cell) : List Cell → List (List Cell) → List (List Cell)
  | [], rws => rws
  | c :: left, rws => layGo rows told left (layStep rows told c left rws)
def layRaw (rows : List Tx) (part : List Cell) : List (List Cell) := layGo rows (openN rows part) part [[]]
def playings (rows : List Tx) (part : List Cell) : List (List Cell) := psort (layRaw rows part)
/-- .. the law -/
def nearP (rows : List Tx) (part : List Cell) (o : Cell) : List Cell := (lnear (hOf rows) (wOf rows) o).filter fun x => decide (x ∈ part)
def ltold (rows : List Tx) (part : List Cell) : List (Int × List Cell) := ((lopen rows).filter fun o => decide (0 < (nearP rows part o).length)).map fun o => ((figN rows o : Int), nearP rows part o)
def goodT (r left : List Cell) (t : Int × List Cell) : Bool := decide (((t.2.filter fun x => decide (x ∈ r)).length : Int) ≤ t.1) && decide (t.1 ≤ ((t.2.filter fun x => decide (x ∈ r)).length : Int) + ((t.2.filter fun x => decide (x ∈ left)).length : Int))
def llayStep (told : List (Int × List Cell)) (c : Cell) (left : List Cell) (rws : List (List Cell)) : List (List Cell) := (rws ++ rws.map fun r => r ++ [c]).filter fun r => told.all (goodT r left)
def llayGo (told : List (Int × List Cell)) : List Cell → List (List Cell) → List (List Cell)
  | [], rws => rws
  | c :: left, rws => llayGo told left (llayStep told c left rws)
def llayRaw (rows : List Tx) (part : List Cell) : List (List Cell) := llayGo (ltold rows part) part [[]]
def llayings (rows : List Tx) (part : List Cell) : List (List Cell) := psort (llayRaw rows part)
/-! rows in order -/
theorem rowlt_irr : ∀ a : List Cell, rowlt a a = false
  | [] => rfl
  | x :: xs => by unfold rowlt; rw [if_pos rfl]; exact rowlt_irr xs
theorem rowlt_tri : ∀ {a b : List Cell}, rowlt a b = false → rowlt b a = false → a = b
  | [], [], _, _ => rfl
  | [], _ :: _, h, _ => by cases h
  | _ :: _, [], _, h => by cases h
  | x :: xs, y :: ys, h1, h2 => by
    unfold rowlt at h1 h2
    by_cases e : x = y
    · subst e
      rw [if_pos rfl] at h1 h2
      rw [rowlt_tri h1 h2]
    · rw [if_neg e] at h1
      rw [if_neg (Ne.symm e)] at h2
      exact absurd (clt_tri (by rw [h1]; decide) (by rw [h2]; decide)) e
theorem rowlt_trans : ∀ {a b c : List Cell}, rowlt a b = true → rowlt b c = true → rowlt a c = true
  | [], [], _, h, _ => by cases h
  | [], _ :: _, [], _, h => by cases h
  | [], _ :: _, _ :: _, _, _ => rfl
  | _ :: _, [], _, h, _ => by cases h
  | _ :: _, _ :: _, [], _, h => by cases h
  | x :: xs, y :: ys, z :: zs, h1, h2 => by
    unfold rowlt at h1 h2 ⊢
    by_cases e1 : x = y
    · subst e1
      rw [if_pos rfl] at h1
      by_cases e2 : x = z
      · subst e2
        rw [if_pos rfl] at h2 ⊢
        exact rowlt_trans h1 h2
      · rw [if_neg e2] at h2 ⊢; exact h2
    · rw [if_neg e1] at h1
      by_cases e2 : y = z
      · subst e2
        rw [if_neg e1]; exact h1
      · rw [if_neg e2] at h2
        have h3 := clt_trans h1 h2
        by_cases e3 : x = z
        · subst e3; exact (clt_irr h3).elim
        · rw [if_neg e3]; exact h3
theorem rowle_trans {a b c : List Cell} (h1 : (!rowlt b a) = true) (h2 : (!rowlt c b) = true) : (!rowlt c a) = true := by
  rw [Bool.not_eq_true'] at *
  rw [← Bool.not_eq_true]
  intro h
  by_cases e : rowlt a b = true
  · rw [rowlt_trans h e] at h2; cases h2
  · have := rowlt_tri (by simpa using e) h1
    subst this
    rw [h] at h2; cases h2
theorem rowle_total (a b : List Cell) : ((!rowlt b a) || (!rowlt a b)) = true := by
  cases h : rowlt b a with
  | false => rfl
  | true =>
    cases h2 : rowlt a b with
    | false => rfl
    | true => have := rowlt_trans h h2; rw [rowlt_irr] at this; cases this
theorem rsort_le (l : List (List Cell)) : (psort l).Pairwise fun a b => (!rowlt b a) = true := List.pairwise_mergeSort (le := fun a b => !rowlt b a) (fun a b c h1 h2 => rowle_trans h1 h2) rowle_total l
theorem rsort_perm (l : List (List Cell)) : (psort l).Perm l := List.mergeSort_perm l _
theorem rsort_eq {l m : List (List Cell)} (h : l.Perm m) : psort l = psort m :=
  List.Perm.eq_of_pairwise (le := fun a b => (!rowlt b a) = true) (fun a b _ _ h1 h2 => rowlt_tri (by simpa using h2) (by simpa using h1)) (rsort_le l) (rsort_le m) ((rsort_perm l).trans (h.trans (rsort_perm m).symm))
/-! one step is the other's, in another order -/
theorem layStep_perm {rows : List Tx} {told : List Cell} {lt : List (Int × List Cell)} {c : Cell} {left : List Cell} : ∀ {rws : List (List Cell)}, (∀ r ∈ rws, stillB rows told r left = lt.all (goodT r left) ∧ stillB rows told (r ++ [c]) left = lt.all (goodT (r ++ [c]) left)) → (layStep rows told c left rws).Perm (llayStep lt c left rws)
  | [], _ => by simp [layStep, llayStep]
  | r :: rws, h => by
    obtain ⟨h1, h2⟩ := h r (by simp)
    have ih := layStep_perm (rws := rws) fun x hx => h x (by simp [hx])
    unfold layStep llayStep at ih ⊢
    rw [List.flatMap_cons, List.map_cons]
    have e : ([r, r ++ [c]].filter fun r' => stillB rows told r' left) = [r, r ++ [c]].filter fun r' => lt.all (goodT r' left) := by
      simp only [List.filter_cons, List.filter_nil, h1, h2]
    rw [e]
    have e2 : ((r :: rws ++ (r ++ [c]) :: rws.map fun r => r ++ [c]).filter fun r => lt.all (goodT r left)).Perm ([r, r ++ [c]].filter (fun r' => lt.all (goodT r' left)) ++ (rws ++ rws.map fun r => r ++ [c]).filter fun r => lt.all (goodT r left)) := by
      rw [← List.filter_append]
      refine List.Perm.filter _ ?_
      show (r :: (rws ++ (r ++ [c]) :: rws.map fun r => r ++ [c])).Perm (r :: (r ++ [c]) :: (rws ++ rws.map fun r => r ++ [c]))
      exact List.Perm.cons _ List.perm_middle
    exact (List.Perm.append_left _ ih).trans e2.symm
theorem layStep_sub {rows : List Tx} {told : List Cell} {c : Cell} {left : List Cell} {rws : List (List Cell)} {r : List Cell} (h : r ∈ layStep rows told c left rws) : ∃ r0 ∈ rws, r = r0 ∨ r = r0 ++ [c] := by
  unfold layStep at h
  obtain ⟨r0, h0, h1⟩ := List.mem_flatMap.mp h
  have := (List.mem_filter.mp h1).1
  simp only [List.mem_cons, List.not_mem_nil, or_false] at this
  exact ⟨r0, h0, this⟩
theorem llayStep_congr {lt : List (Int × List Cell)} {c : Cell} {left : List Cell} {rws rws' : List (List Cell)} (h : rws.Perm rws') : (llayStep lt c left rws).Perm (llayStep lt c left rws') := by
  unfold llayStep
  exact (List.Perm.append h (h.map _)).filter _
theorem llayGo_congr {lt : List (Int × List Cell)} : ∀ {left : List Cell} {rws rws' : List (List Cell)}, rws.Perm rws' → (llayGo lt left rws).Perm (llayGo lt left rws')
  | [], _, _, h => h
  | _ :: left, _, _, h => llayGo_congr (left := left) (llayStep_congr h)
/-- rows of what is done -/
def Rws (done : List Cell) (rws : List (List Cell)) : Prop := ∀ r ∈ rws, r.Sublist done
theorem Rws.step {rows : List Tx} {told done : List Cell} {c : Cell} {left : List Cell} {rws : List (List Cell)} (h : Rws done rws) : Rws (done ++ [c]) (layStep rows told c left rws) := fun r hr => by
  obtain ⟨r0, h0, rfl | rfl⟩ := layStep_sub hr
  · exact (h _ h0).trans (List.sublist_append_left _ _)
  · exact (h _ h0).append (List.Sublist.refl _)
theorem layGo_perm {rows : List Tx} {told : List Cell} {lt : List (Int × List Cell)} {part : List Cell} (key : ∀ r left : List Cell, r.Sublist part → left.Sublist part → stillB rows told r left = lt.all (goodT r left)) :
    ∀ {left done : List Cell} {rws : List (List Cell)}, done ++ left = part → Rws done rws → (layGo rows told left rws).Perm (llayGo lt left rws)
  | [], _, _, _, _ => List.Perm.refl _
  | c :: left, done, rws, e, h => by
    have hs : (done ++ [c]).Sublist part := by
      rw [← e, show done ++ c :: left = (done ++ [c]) ++ left by simp]
      exact List.sublist_append_left _ _
    have hl : left.Sublist part := by
      rw [← e]
      exact (List.sublist_cons_self c left).trans (List.sublist_append_right _ _)
    have p1 : (layStep rows told c left rws).Perm (llayStep lt c left rws) := layStep_perm fun r hr =>
      ⟨key r left ((h r hr).trans ((List.sublist_append_left _ _).trans hs)) hl, key _ left (((h r hr).append (List.Sublist.refl _)).trans hs) hl⟩
    exact (layGo_perm key (done := done ++ [c]) (by rw [← e]; simp) h.step).trans (llayGo_congr p1)
theorem cnt_same {a b : List Cell} (ha : a.Nodup) (hb : b.Nodup) (h : ∀ x, x ∈ a ↔ x ∈ b) : a.length = b.length :=
  Nat.le_antisymm (nodup_le ha fun x hx => (h x).mp hx) (nodup_le hb fun x hx => (h x).mpr hx)
theorem cnt_eq {rows : List Tx} (v : Vw rows) {part r : List Cell} (hp : part.Nodup) (hr : r.Sublist part) (o : Cell) : ((nearP rows part o).filter fun x => decide (x ∈ r)).length = cntIn rows o r := by
  unfold cntIn nearP
  rw [lnear_eq v.dim]
  refine cnt_same (((around_nd v.dim).sublist List.filter_sublist).sublist List.filter_sublist) ((hp.sublist hr).sublist List.filter_sublist) fun x => ?_
  simp only [List.mem_filter, decide_eq_true_eq]
  constructor
  · rintro ⟨⟨a, b⟩, c⟩; exact ⟨c, a⟩
  · rintro ⟨c, a⟩; exact ⟨⟨a, hr.subset c⟩, c⟩
theorem still_eq {rows : List Tx} (v : Vw rows) {part : List Cell} (hp : part.Nodup) (hin : ∀ c ∈ part, inF (hOf rows) (wOf rows) c = true) {r left : List Cell} (hr : r.Sublist part) (hl : left.Sublist part) : stillB rows (openN rows part) r left = (ltold rows part).all (goodT r left) := by
  unfold stillB ltold
  rw [List.all_map, Bool.eq_iff_iff, List.all_eq_true, List.all_eq_true]
  have e : ∀ o, goodT r left ((figN rows o : Int), nearP rows part o) = fitsB rows r left o := fun o => by
    unfold goodT fitsB
    simp only [cnt_eq v hp hr o, cnt_eq v hp hl o]
    rw [Bool.eq_iff_iff]
    simp only [Bool.and_eq_true, decide_eq_true_eq]
    omega
  have m : ∀ o, o ∈ openN rows part ↔ o ∈ (lopen rows).filter fun o => decide (0 < (nearP rows part o).length) := fun o => by
    rw [mem_openN v, List.mem_filter, mem_lopen v, decide_eq_true_iff, List.length_pos_iff_exists_mem]
    unfold nearP
    constructor
    · rintro ⟨c, hc, h1, h2⟩
      obtain ⟨o1, o2⟩ := (mem_around v.dim).mp h1
      exact ⟨⟨o1, h2⟩, c, List.mem_filter.mpr ⟨mem_lnear.mpr ⟨hin c hc, by rw [near_sym]; exact o2⟩, decide_eq_true hc⟩⟩
    · rintro ⟨⟨h1, h2⟩, c, hc⟩
      obtain ⟨c1, c2⟩ := List.mem_filter.mp hc
      obtain ⟨c3, c4⟩ := mem_lnear.mp c1
      exact ⟨c, of_decide_eq_true c2, (mem_around v.dim).mpr ⟨h1, by rw [near_sym]; exact c4⟩, h2⟩
  constructor
  · intro h o ho
    exact (e o).trans (h o ((m o).mpr ho))
  · intro h o ho
    exact (e o).symm.trans (h o ((m o).mp ho))
/-- the layings found here and there -/
theorem playings_eq {rows : List Tx} (v : Vw rows) {part : List Cell} (hp : part.Nodup) (hin : ∀ c ∈ part, inF (hOf rows) (wOf rows) c = true) : playings rows part = llayings rows part := by
  unfold playings llayings
  exact rsort_eq (layGo_perm (part := part) (fun r left hr hl => still_eq v hp hin hr hl) (done := []) (by simp) (fun r hr => by rw [List.mem_singleton.mp hr]; exact List.Sublist.refl _))
/-! no laying twice; how many -/
theorem layStep_nd {rows : List Tx} {told : List Cell} {c : Cell} {left : List Cell} : ∀ {rws : List (List Cell)}, rws.Nodup → (∀ r ∈ rws, c ∉ r) → (layStep rows told c left rws).Nodup
  | [], _, _ => by simp [layStep]
  | r :: rws, h, hc => by
    obtain ⟨h1, h2⟩ := List.nodup_cons.mp h
    have ih := layStep_nd (rows := rows) (told := told) (left := left) h2 fun x hx => hc x (by simp [hx])
    unfold layStep at ih ⊢
    rw [List.flatMap_cons]
    have ne : r ≠ r ++ [c] := fun e => by have := congrArg List.length e; rw [List.length_append] at this; simp at this
    refine List.nodup_append.mpr ⟨(show [r, r ++ [c]].Nodup by simp [ne]).sublist List.filter_sublist, ih, fun a ha b hb e => ?_⟩
    subst e
    have ha := (List.mem_filter.mp ha).1
    obtain ⟨r0, h0, hr⟩ := layStep_sub (rows := rows) (told := told) (left := left) (rws := rws) hb
    simp only [List.mem_cons, List.not_mem_nil, or_false] at ha
    have c1 := hc r (by simp)
    have c2 := hc r0 (by simp [h0])
    rcases ha with rfl | rfl
    · rcases hr with rfl | e
      · exact h1 h0
      · rw [e] at c1; simp at c1
    · rcases hr with e | e
      · rw [← e] at c2; simp at c2
      · have := List.append_cancel_right e
        rw [this] at h1; exact h1 h0
theorem layStep_len {rows : List Tx} {told : List Cell} {c : Cell} {left : List Cell} : ∀ {rws : List (List Cell)}, (layStep rows told c left rws).length ≤ rws.length * 2
  | [] => by simp [layStep]
  | r :: rws => by
    have ih := layStep_len (rows := rows) (told := told) (c := c) (left := left) (rws := rws)
    unfold layStep at ih ⊢
    rw [List.flatMap_cons, List.length_append]
    have := List.length_filter_le (fun r' => stillB rows told r' left) [r, r ++ [c]]
    simp only [List.length_cons, List.length_nil, Nat.succ_mul] at this ⊢
    omega
theorem llayStep_len {told : List (Int × List Cell)} {c : Cell} {left : List Cell} {rws : List (List Cell)} : (llayStep told c left rws).length ≤ rws.length * 2 := by
  unfold llayStep
  refine Nat.le_trans (List.length_filter_le _ _) ?_
  rw [List.length_append, List.length_map]; omega
theorem enum_step2 {α : Type} {v : List α} {i : Nat} {x : Int × α} {ys : List (Int × α)} (h : x :: ys = (enumL v).drop i) : i < v.length ∧ x.1 = (i : Int) ∧ v[i]? = some x.2 ∧ v.drop i = x.2 :: v.drop (i + 1) ∧ ys = (enumL v).drop (i + 1) := by
  have hi : i < v.length := by
    have := congrArg List.length h
    rw [List.length_drop, enumL_len] at this
    simp only [List.length_cons] at this
    omega
  have hi2 : i < (enumL v).length := by rw [enumL_len]; exact hi
  rw [List.drop_eq_getElem_cons hi2] at h
  obtain ⟨h1, h2⟩ := List.cons.inj h
  have hx : x = ((i : Int), v[i]) := by
    have := enumL_get (List.getElem?_eq_getElem hi)
    rw [List.getElem?_eq_getElem hi2] at this
    rw [h1]; exact Option.some.inj this
  subst hx
  exact ⟨hi, rfl, List.getElem?_eq_getElem hi, List.drop_eq_getElem_cons hi, h2⟩
theorem part_mem {rows : List Tx} (v : Vw rows) {p : List Cell} (h : p ∈ partsOf rows) : Srt p ∧ (∀ c ∈ p, c ∈ ledge rows) ∧ p.length ≤ 36 := by
  rw [parts_eq v] at h
  unfold lgroups at h
  obtain ⟨k, _, rfl⟩ := List.mem_map.mp h
  refine ⟨srt_filter (edge_srt v), fun c hc => (List.mem_filter.mp hc).1, Nat.le_trans (List.length_filter_le _ _) ?_⟩
  rw [ledge_eq v]; exact edge_len v
theorem edge_in {rows : List Tx} (v : Vw rows) {c : Cell} (h : c ∈ ledge rows) : inF (hOf rows) (wOf rows) c = true := ((mem_edge v).mp h).1.1
theorem layGo_len {rows : List Tx} {told : List Cell} : ∀ {left : List Cell} {rws : List (List Cell)}, (layGo rows told left rws).length ≤ rws.length * 2 ^ left.length
  | [], rws => by simp [layGo]
  | c :: left, rws => by
    have ih := layGo_len (rows := rows) (told := told) (left := left) (rws := layStep rows told c left rws)
    have h1 := layStep_len (rows := rows) (told := told) (c := c) (left := left) (rws := rws)
    show (layGo rows told left (layStep rows told c left rws)).length ≤ _
    refine Nat.le_trans ih ?_
    rw [List.length_cons, Nat.pow_succ, Nat.mul_comm (2 ^ left.length) 2, ← Nat.mul_assoc]
    exact Nat.mul_le_mul_right _ h1
theorem layGo_rws {rows : List Tx} {told : List Cell} : ∀ {left done : List Cell} {rws : List (List Cell)}, Rws done rws → Rws (done ++ left) (layGo rows told left rws)
  | [], done, rws, h => by simpa [layGo] using h
  | c :: left, done, rws, h => by
    have := layGo_rws (rows := rows) (told := told) (left := left) (h.step (rows := rows) (told := told) (c := c) (left := left))
    rw [List.append_assoc] at this
    exact this
theorem playings_sub {rows : List Tx} {part r : List Cell} (h : r ∈ playings rows part) : r.Sublist part := by
  have h : r ∈ layRaw rows part := (rsort_perm _).mem_iff.mp h
  have := layGo_rws (rows := rows) (told := openN rows part) (left := part) (done := []) (rws := [[]]) (fun r hr => by rw [List.mem_singleton.mp hr]; exact List.Sublist.refl _)
  exact this r h
theorem playings_len {rows : List Tx} {part : List Cell} (h : part.length ≤ 12) : (playings rows part).length ≤ 4096 := by
  unfold playings
  rw [(rsort_perm _).length_eq]
  have := layGo_len (rows := rows) (told := openN rows part) (left := part) (rws := [[]])
  unfold layRaw
  refine Nat.le_trans this ?_
  simp only [List.length_cons, List.length_nil, Nat.zero_add, Nat.one_mul]
  exact Nat.le_trans (Nat.pow_le_pow_right (by decide) h) (by decide)
def layRet (C : Cs) (rows : List Tx) (c : Cell) : L2.Hp → L2.Hp → L2.VK → L2.XK → Prop := match (partsOf rows).find? (fun p => decide (c ∈ p)) with
  | none => retX C.NoCell
  | some p => if p.length ≤ 12 then retNL ((playings rows p).map lsO) else retX C.TooGreat
end DF

namespace DF
open R (rp)
open Dt (toD)
/-! ### k05: the view of two open cells; what is due -/
def sig5 (cell k : Int) : Nat := ([48, 49, 50, 51] : List Nat).getD (mix cell k (([3, 4, 4] : List Int).getD k.toNat 0)).toNat 0
def sig50 (cell : Int) : Nat := if cell % 2 = 1 then 35 else sig5 cell 0
def rows5 (cell : Int) : List Tx := [⟨[35, 35, 35, 35] ++ [sig50 cell]⟩, ⟨[35] ++ [sig5 cell 1] ++ [35] ++ [sig5 cell 2] ++ [35]⟩, ⟨[35, 35, 35, 35, 35]⟩]
theorem fig4_ok (i : Nat) : ([48, 49, 50, 51] : List Nat).getD i 0 ∈ vsigns ∨ 4 ≤ i := by
  by_cases h : i < 4
  · left
    have : ∀ j : Fin 4, ([48, 49, 50, 51] : List Nat).getD j.val 0 ∈ vsigns := by decide
    exact this ⟨i, h⟩
  · right; omega
theorem sig5_bd {cell k : Int} (h : 0 ≤ k ∧ k < 3) : (0 ≤ mix cell k (([3, 4, 4] : List Int).getD k.toNat 0) ∧ mix cell k (([3, 4, 4] : List Int).getD k.toNat 0) < 4) ∧ 0 < ([3, 4, 4] : List Int).getD k.toNat 0 := by
  have key : 0 < ([3, 4, 4] : List Int).getD k.toNat 0 ∧ ([3, 4, 4] : List Int).getD k.toNat 0 ≤ 4 := by
    have : ∀ j : Fin 3, 0 < ([3, 4, 4] : List Int).getD j.val 0 ∧ ([3, 4, 4] : List Int).getD j.val 0 ≤ 4 := by decide
    exact this ⟨k.toNat, by omega⟩
  have := mix_bd (c := cell) (k := k) key.1
  omega
theorem sig5_ok {cell k : Int} (h : 0 ≤ k ∧ k < 3) : sig5 cell k ∈ vsigns := by
  have := (sig5_bd (cell := cell) h).1
  rcases fig4_ok (mix cell k (([3, 4, 4] : List Int).getD k.toNat 0)).toNat with h | h
  · exact h
  · omega
theorem sig50_ok {cell : Int} : sig50 cell ∈ vsigns := by
  unfold sig50
  split
  · decide
  · exact sig5_ok (by decide)
theorem rows5_vw {cell : Int} : Vw (rows5 cell) := by
  have h0 := sig50_ok (cell := cell)
  have h1 := sig5_ok (cell := cell) (k := 1) (by decide)
  have h2 := sig5_ok (cell := cell) (k := 2) (by decide)
  have h35 : (35 : Nat) ∈ vsigns := by decide
  unfold rows5
  refine ⟨by simp, by simp, by show 1 ≤ 5; decide, by show 5 ≤ 6; decide, fun row hr => ?_⟩
  simp only [List.mem_cons, List.not_mem_nil, or_false] at hr
  rcases hr with rfl | rfl | rfl
  · refine ⟨rfl, fun c hc => ?_⟩
    simp only [List.cons_append, List.nil_append, List.mem_cons, List.not_mem_nil, or_false] at hc
    rcases hc with rfl | rfl | rfl | rfl | rfl <;> assumption
  · refine ⟨rfl, fun c hc => ?_⟩
    simp only [List.cons_append, List.nil_append, List.mem_cons, List.not_mem_nil, or_false] at hc
    rcases hc with rfl | rfl | rfl | rfl | rfl <;> assumption
  · refine ⟨rfl, fun c hc => ?_⟩
    simp only [List.mem_cons, List.not_mem_nil, or_false] at hc
    rcases hc with rfl | rfl | rfl | rfl | rfl <;> assumption
theorem zip_mem {α β : Type} : ∀ {ps : List α} {cs : List β} {x : α}, ps.length = cs.length → x ∈ ps → ∃ y ∈ cs, (x, y) ∈ ps.zip cs
  | p :: ps, c :: cs, x, hl, h => by
    rcases List.mem_cons.mp h with rfl | h
    · exact ⟨c, by simp, by simp⟩
    · obtain ⟨y, h1, h2⟩ := zip_mem (cs := cs) (by simpa using hl) h
      exact ⟨y, by simp [h1], by simp [h2]⟩
  | _ :: _, [], _, hl, _ => by simp at hl
  | [], _, _, _, h => by simp at h
end DF

namespace DF
open R (rp)
open Dt (toD)
/-! ### k06: counts, as the program and the law make them -/
/-! dicts by ints: what stands at a key -/
def keysI (kvs : ID) : List Int := kvs.map (·.1)
theorem iv_none {kvs : ID} {k : Int} : iv? kvs k = none ↔ k ∉ keysI kvs := by
  unfold iv? keysI
  rw [Option.map_eq_none_iff, List.find?_eq_none]
  constructor
  · intro h hm
    obtain ⟨kv, h1, h2⟩ := List.mem_map.mp hm
    exact h kv h1 (decide_eq_true h2)
  · intro h kv h1 h2
    exact h (List.mem_map.mpr ⟨kv, h1, of_decide_eq_true h2⟩)
theorem igI_out {kvs : ID} {k : Int} (h : k ∉ keysI kvs) : igI kvs k = 0 := by unfold igI; rw [iv_none.mpr h]; rfl
theorem iv_in {kvs : ID} {k : Int} (h : k ∈ keysI kvs) : iv? kvs k = some (igI kvs k) := by
  unfold igI
  cases e : iv? kvs k with
  | none => exact absurd h (iv_none.mp e)
  | some v => rfl
theorem any_keys {kvs : ID} {k : Int} : (kvs.any fun kv => decide (kv.1 = k)) = decide (k ∈ keysI kvs) := by
  unfold keysI
  rw [Bool.eq_iff_iff, List.any_eq_true, decide_eq_true_iff, List.mem_map]
  constructor
  · rintro ⟨kv, h1, h2⟩; exact ⟨kv, h1, of_decide_eq_true h2⟩
  · rintro ⟨kv, h1, h2⟩; exact ⟨kv, h1, decide_eq_true h2⟩
theorem keys_put {kvs : ID} {k v : Int} : keysI (ipI kvs k v) = if k ∈ keysI kvs then keysI kvs else keysI kvs ++ [k] := by
  unfold ipI
  rw [any_keys]
  by_cases h : k ∈ keysI kvs
  · rw [decide_eq_true h, if_pos rfl, if_pos h]
    unfold keysI
    rw [List.map_map]
    refine List.map_congr_left fun kv _ => ?_
    simp only [Function.comp]
    split <;> rfl
  · rw [decide_eq_false h, if_neg (by decide), if_neg h]
    unfold keysI
    rw [List.map_append]; rfl
theorem igI_nil (k : Int) : igI [] k = 0 := rfl
theorem igI_cons (kv : Int × Int) (kvs : ID) (j : Int) : igI (kv :: kvs) j = if kv.1 = j then kv.2 else igI kvs j := by
  unfold igI iv?
  rw [List.find?_cons]
  by_cases h : kv.1 = j
  · rw [decide_eq_true h, if_pos h]; rfl
  · rw [decide_eq_false h, if_neg h]
theorem igI_map (k v j : Int) : ∀ kvs : ID, igI (kvs.map fun kv => if kv.1 = k then (kv.1, v) else kv) j = if j = k ∧ k ∈ keysI kvs then v else igI kvs j
  | [] => by simp [keysI, igI_nil]
  | kv :: kvs => by
    rw [List.map_cons, igI_cons, igI_cons, igI_map k v j kvs]
    by_cases h1 : kv.1 = k
    · rw [if_pos h1]
      dsimp only
      by_cases h2 : kv.1 = j
      · rw [if_pos h2, if_pos ⟨by rw [← h2, h1], by simp [keysI, h1]⟩]
      · rw [if_neg h2, if_neg (fun z => h2 (by rw [h1, z.1])), if_neg (fun z => h2 (by rw [h1, z.1])), if_neg h2]
    · rw [if_neg h1]
      by_cases h2 : kv.1 = j
      · rw [if_pos h2, if_neg (fun z => h1 (by rw [h2, z.1])), if_pos h2]
      · rw [if_neg h2, if_neg h2]
        have : (j = k ∧ k ∈ keysI (kv :: kvs)) ↔ (j = k ∧ k ∈ keysI kvs) := by
          unfold keysI
          rw [List.map_cons, List.mem_cons]
          constructor
          · rintro ⟨a, b | b⟩
            · exact absurd b.symm h1
            · exact ⟨a, b⟩
          · rintro ⟨a, b⟩; exact ⟨a, .inr b⟩
        by_cases h3 : j = k ∧ k ∈ keysI kvs
        · rw [if_pos h3, if_pos (this.mpr h3)]
        · rw [if_neg h3, if_neg (fun z => h3 (this.mp z))]
theorem igI_snoc (k v j : Int) : ∀ kvs : ID, k ∉ keysI kvs → igI (kvs ++ [(k, v)]) j = if j = k then v else igI kvs j
  | [], _ => by
    rw [List.nil_append, igI_cons, igI_nil]
    by_cases h : j = k
    · rw [if_pos h, if_pos h.symm]
    · rw [if_neg h, if_neg (Ne.symm h)]
  | kv :: kvs, hn => by
    have hn' : k ∉ keysI kvs := fun z => hn (by unfold keysI at z ⊢; simp [z])
    have hk : kv.1 ≠ k := fun z => hn (by unfold keysI; simp [z])
    rw [List.cons_append, igI_cons, igI_cons, igI_snoc k v j kvs hn']
    by_cases h : kv.1 = j
    · rw [if_pos h, if_pos h, if_neg (fun z => hk (by rw [h, z]))]
    · rw [if_neg h, if_neg h]
theorem igI_put (kvs : ID) (k v j : Int) : igI (ipI kvs k v) j = if j = k then v else igI kvs j := by
  unfold ipI
  rw [any_keys]
  by_cases h : k ∈ keysI kvs
  · rw [decide_eq_true h, if_pos rfl, igI_map]
    by_cases hj : j = k
    · rw [if_pos ⟨hj, h⟩, if_pos hj]
    · rw [if_neg (fun z => hj z.1), if_neg hj]
  · rw [decide_eq_false h, if_neg (by decide), igI_snoc k v j kvs h]
/-- the keys are apart, from 0 to N -/
structure Poly (N : Nat) (kvs : ID) : Prop where
  nd : (keysI kvs).Nodup
  rng : ∀ k ∈ keysI kvs, 0 ≤ k ∧ k ≤ N
theorem Poly.len {N : Nat} {kvs : ID} (p : Poly N kvs) : kvs.length ≤ N + 1 := by
  have : (keysI kvs).length ≤ (irange 0 (N + 1)).length := nodup_le p.nd fun x hx => mem_irange.mpr (by have := p.rng x hx; omega)
  rw [irange_len] at this
  unfold keysI at this
  rw [List.length_map] at this; exact this
theorem Poly.put {N : Nat} {kvs : ID} {k v : Int} (p : Poly N kvs) (h : 0 ≤ k ∧ k ≤ N) : Poly N (ipI kvs k v) := by
  constructor
  · rw [keys_put]
    split
    · exact p.nd
    · rename_i hn
      refine List.nodup_append.mpr ⟨p.nd, by simp, fun a ha b hb e => ?_⟩
      rw [List.mem_singleton] at hb
      subst hb; subst e; exact hn ha
  · intro x hx
    rw [keys_put] at hx
    split at hx
    · exact p.rng x hx
    · rcases List.mem_append.mp hx with z | z
      · exact p.rng x z
      · rw [List.mem_singleton.mp z]; exact h
theorem Poly.mono {N M : Nat} {kvs : ID} (p : Poly N kvs) (h : N ≤ M) : Poly M kvs := ⟨p.nd, fun k hk => by have := p.rng k hk; omega⟩
theorem Poly.out {N : Nat} {kvs : ID} (p : Poly N kvs) {k : Int} (h : k < 0 ∨ (N : Int) < k) : igI kvs k = 0 := igI_out fun z => by have := p.rng k z; omega
theorem poly_val {N : Nat} {kvs : ID} (p : Poly N kvs) {kv : Int × Int} (h : kv ∈ kvs) : kv.2 = igI kvs kv.1 := by
  have nd := p.nd
  clear p
  induction kvs with
  | nil => simp at h
  | cons x kvs ih =>
    unfold keysI at nd
    rw [List.map_cons] at nd
    obtain ⟨n1, n2⟩ := List.nodup_cons.mp nd
    rw [igI_cons]
    rcases List.mem_cons.mp h with rfl | h
    · rw [if_pos rfl]
    · rw [if_neg (fun z => n1 (by rw [z]; exact List.mem_map.mpr ⟨kv, h, rfl⟩))]
      exact ih h n2
/-! sums -/
def sumF {α : Type} (l : List α) (g : α → Int) : Int := (l.map g).sum
theorem sumF_nil {α : Type} (g : α → Int) : sumF [] g = 0 := rfl
theorem sumF_cons {α : Type} (x : α) (l : List α) (g : α → Int) : sumF (x :: l) g = g x + sumF l g := by unfold sumF; rw [List.map_cons, List.sum_cons]
theorem sumF_app {α : Type} (g : α → Int) : ∀ l m : List α, sumF (l ++ m) g = sumF l g + sumF m g
  | [], m => by rw [List.nil_append, sumF_nil]; omega
  | x :: l, m => by rw [List.cons_append, sumF_cons, sumF_cons, sumF_app g l m]; omega
theorem sumF_perm {α : Type} {g : α → Int} {l m : List α} (h : l.Perm m) : sumF l g = sumF m g := by
  induction h with
  | nil => rfl
  | cons x _ ih => rw [sumF_cons, sumF_cons, ih]
  | swap x y l => rw [sumF_cons, sumF_cons, sumF_cons, sumF_cons]; omega
  | trans _ _ i1 i2 => rw [i1, i2]
theorem sumF_congr {α : Type} {g h : α → Int} : ∀ {l : List α}, (∀ x ∈ l, g x = h x) → sumF l g = sumF l h
  | [], _ => rfl
  | x :: l, q => by rw [sumF_cons, sumF_cons, q x (by simp), sumF_congr fun y hy => q y (by simp [hy])]
theorem sumF_zero {α : Type} {g : α → Int} : ∀ {l : List α}, (∀ x ∈ l, g x = 0) → sumF l g = 0
  | [], _ => rfl
  | x :: l, q => by rw [sumF_cons, q x (by simp), sumF_zero fun y hy => q y (by simp [hy])]; rfl
theorem sumF_add {α : Type} (g h : α → Int) : ∀ l : List α, sumF l (fun x => g x + h x) = sumF l g + sumF l h
  | [] => rfl
  | x :: l => by rw [sumF_cons, sumF_cons, sumF_cons, sumF_add g h l]; omega
theorem sumF_filter {α : Type} {g : α → Int} {p : α → Bool} : ∀ {l : List α}, (∀ x ∈ l, p x = false → g x = 0) → sumF l g = sumF (l.filter p) g
  | [], _ => rfl
  | x :: l, q => by
    have ih := sumF_filter (g := g) (p := p) (l := l) fun y hy => q y (by simp [hy])
    rw [sumF_cons, List.filter_cons]
    cases hp : p x with
    | true => rw [if_pos rfl, sumF_cons, ih]
    | false => rw [if_neg (by decide), ih, q x (by simp) hp]; omega
theorem perm_of_nd : ∀ {l m : List Int}, l.Nodup → m.Nodup → (∀ x, x ∈ l ↔ x ∈ m) → l.Perm m := fun {l m} h1 h2 h => (List.perm_ext_iff_of_nodup h1 h2).mpr h
/-- a sum over apart keys is one over a range -/
theorem sumF_range {N : Nat} {l : List Int} {g : Int → Int} (nd : l.Nodup) (rng : ∀ k ∈ l, 0 ≤ k ∧ k ≤ N) (hz : ∀ k, k ∉ l → g k = 0) : sumF l g = sumF (irange 0 (N + 1)) g := by
  rw [sumF_filter (l := irange 0 (N + 1)) (p := fun k => decide (k ∈ l)) (fun x _ hx => hz x (of_decide_eq_false hx))]
  refine sumF_perm (perm_of_nd nd (irange_nd.sublist List.filter_sublist) fun x => ?_)
  rw [List.mem_filter, mem_irange, decide_eq_true_iff]
  constructor
  · intro h; have := rng x h; exact ⟨by omega, h⟩
  · exact fun h => h.2
/-! what two together come to -/
def conv (N : Nat) (f g : Int → Int) (s : Int) : Int := sumF (irange 0 (N + 1)) fun i => f i * g (s - i)
def joinStep (one other : ID) (f : ID) (k : Int) : ID := (keysI other).foldl (fun f m => ipI f (k + m) (igI f (k + m) + igI one k * igI other m)) f
def joinedI (one other : ID) : ID := (keysI one).foldl (joinStep one other) []
theorem joinIn_val (one other : ID) (k : Int) : ∀ (ms : List Int) (f : ID) (s : Int), ms.Nodup → igI (ms.foldl (fun f m => ipI f (k + m) (igI f (k + m) + igI one k * igI other m)) f) s = igI f s + if s - k ∈ ms then igI one k * igI other (s - k) else 0
  | [], f, s, _ => by simp
  | m :: ms, f, s, nd => by
    obtain ⟨n1, n2⟩ := List.nodup_cons.mp nd
    rw [List.foldl_cons, joinIn_val one other k ms _ s n2, igI_put]
    by_cases h : s = k + m
    · subst h
      have e : k + m - k = m := by omega
      rw [if_pos rfl, e, if_neg n1, if_pos (by simp)]; omega
    · rw [if_neg h]
      have : (s - k ∈ m :: ms) ↔ s - k ∈ ms := by
        rw [List.mem_cons]
        constructor
        · rintro (z | z)
          · omega
          · exact z
        · exact .inr
      by_cases h2 : s - k ∈ ms
      · rw [if_pos h2, if_pos (this.mpr h2)]
      · rw [if_neg h2, if_neg (fun z => h2 (this.mp z))]
theorem joinStep_val {M : Nat} {one other : ID} (p : Poly M other) (f : ID) (k s : Int) : igI (joinStep one other f k) s = igI f s + igI one k * igI other (s - k) := by
  unfold joinStep
  rw [joinIn_val one other k _ f s p.nd]
  by_cases h : s - k ∈ keysI other
  · rw [if_pos h]
  · rw [if_neg h, igI_out h, Int.mul_zero]
theorem joinFold_val {M : Nat} {one other : ID} (p : Poly M other) : ∀ (ks : List Int) (f : ID) (s : Int), igI (ks.foldl (joinStep one other) f) s = igI f s + sumF ks fun k => igI one k * igI other (s - k)
  | [], f, s => by rw [List.foldl_nil, sumF_nil]; omega
  | k :: ks, f, s => by rw [List.foldl_cons, joinFold_val p ks _ s, joinStep_val p, sumF_cons]; omega
theorem joined_val {N M : Nat} {one other : ID} (p1 : Poly N one) (p2 : Poly M other) (s : Int) : igI (joinedI one other) s = conv N (igI one) (igI other) s := by
  unfold joinedI conv
  rw [joinFold_val p2, igI_nil, Int.zero_add]
  exact sumF_range p1.nd p1.rng fun k hk => by rw [igI_out hk, Int.zero_mul]
theorem joinIn_poly {L : Nat} {one other : ID} {k : Int} : ∀ {ms : List Int} {f : ID}, (∀ m ∈ ms, 0 ≤ k + m ∧ k + m ≤ L) → Poly L f → Poly L (ms.foldl (fun f m => ipI f (k + m) (igI f (k + m) + igI one k * igI other m)) f)
  | [], _, _, p => p
  | m :: ms, f, h, p => joinIn_poly (ms := ms) (fun x hx => h x (by simp [hx])) (p.put (h m (by simp)))
theorem joinStep_poly {N M : Nat} {one other : ID} {f : ID} {k : Int} (p2 : Poly M other) (hk : 0 ≤ k ∧ k ≤ N) (p : Poly (N + M) f) : Poly (N + M) (joinStep one other f k) := joinIn_poly (fun m hm => by have := p2.rng m hm; omega) p
theorem poly_nil {N : Nat} : Poly N [] := ⟨by simp [keysI], fun k hk => by simp [keysI] at hk⟩
theorem joinFold_poly {N M : Nat} {one other : ID} (p2 : Poly M other) : ∀ {ks : List Int} {f : ID}, (∀ k ∈ ks, 0 ≤ k ∧ k ≤ N) → Poly (N + M) f → Poly (N + M) (ks.foldl (joinStep one other) f)
  | [], _, _, p => p
  | k :: ks, f, h, p => joinFold_poly p2 (ks := ks) (fun x hx => h x (by simp [hx])) (joinStep_poly p2 (h k (by simp)) p)
theorem joined_poly {N M : Nat} {one other : ID} (p1 : Poly N one) (p2 : Poly M other) : Poly (N + M) (joinedI one other) := joinFold_poly p2 p1.rng poly_nil
/-! one more cell -/
def dlt (s : Int) : Int := if s = 0 then 1 else 0
def opA (f : Int → Int) (s : Int) : Int := f s + f (s - 1)
def opX (f : Int → Int) (s : Int) : Int := f (s - 1)
def opAn : Nat → (Int → Int) → Int → Int
  | 0, f => f
  | n + 1, f => opA (opAn n f)
/-- nothing outside 0 to N -/
def Supp (N : Nat) (f : Int → Int) : Prop := ∀ k : Int, k < 0 ∨ (N : Int) < k → f k = 0
theorem conv_dlt {N : Nat} {f : Int → Int} (h : Supp N f) (s : Int) : conv N f dlt s = f s := by
  unfold conv
  by_cases hs : 0 ≤ s ∧ s ≤ N
  · rw [sumF_filter (p := fun i => decide (i = s)) (fun x _ hx => by unfold dlt; rw [if_neg (by have := of_decide_eq_false hx; omega), Int.mul_zero])]
    have : ((irange 0 (N + 1)).filter fun i => decide (i = s)).Perm [s] := perm_of_nd (irange_nd.sublist List.filter_sublist) (by simp) fun x => by
      rw [List.mem_filter, mem_irange, decide_eq_true_iff, List.mem_singleton]
      constructor
      · exact fun z => z.2
      · rintro rfl; exact ⟨by omega, rfl⟩
    rw [sumF_perm this, sumF_cons, sumF_nil]
    unfold dlt
    rw [if_pos (by omega)]; omega
  · rw [h s (by omega)]
    refine sumF_zero fun x hx => ?_
    have := mem_irange.mp hx
    unfold dlt
    rw [if_neg (by omega), Int.mul_zero]
theorem conv_A (N : Nat) (f g : Int → Int) (s : Int) : conv N f (opA g) s = opA (conv N f g) s := by
  unfold conv opA
  rw [← sumF_add]
  refine sumF_congr fun i _ => ?_
  rw [Int.mul_add, show s - i - 1 = s - 1 - i by omega]
theorem conv_X (N : Nat) (f g : Int → Int) (s : Int) : conv N f (opX g) s = opX (conv N f g) s := by
  unfold conv opX
  refine sumF_congr fun i _ => ?_
  rw [show s - i - 1 = s - 1 - i by omega]
theorem conv_An (N : Nat) (f g : Int → Int) : ∀ n : Nat, conv N f (opAn n g) = opAn n (conv N f g)
  | 0 => rfl
  | n + 1 => by
    funext s
    show conv N f (opA (opAn n g)) s = opA (opAn n (conv N f g)) s
    rw [conv_A, conv_An N f g n]
theorem opAX (f : Int → Int) : opA (opX f) = opX (opA f) := rfl
theorem opAnX (f : Int → Int) : ∀ n, opAn n (opX f) = opX (opAn n f)
  | 0 => rfl
  | n + 1 => by show opA (opAn n (opX f)) = opX (opA (opAn n f)); rw [opAnX f n]; rfl
theorem opAn_A (f : Int → Int) : ∀ n, opAn n (opA f) = opA (opAn n f)
  | 0 => rfl
  | n + 1 => by show opA (opAn n (opA f)) = _; rw [opAn_A f n]; rfl
theorem opAn_bd {n : Nat} {s : Int} : 0 ≤ opAn n dlt s ∧ opAn n dlt s ≤ (2 : Int) ^ n := by
  induction n generalizing s with
  | zero =>
    show 0 ≤ dlt s ∧ dlt s ≤ 1
    unfold dlt
    split <;> omega
  | succ n ih =>
    have h1 := ih (s := s)
    have h2 := ih (s := s - 1)
    show 0 ≤ opAn n dlt s + opAn n dlt (s - 1) ∧ opAn n dlt s + opAn n dlt (s - 1) ≤ (2 : Int) ^ (n + 1)
    rw [Int.pow_succ]
    omega
theorem conv_congr {N : Nat} {f f' g g' : Int → Int} (h1 : f = f') (h2 : g = g') : conv N f g = conv N f' g' := by rw [h1, h2]
end DF

namespace DF
open R (rp)
open Dt (toD)
def choicesI : Nat → ID
  | 0 => [(0, 1)]
  | n + 1 => joinedI (choicesI n) [(0, 1), (1, 1)]
theorem poly01 : Poly 1 [(0, 1), (1, 1)] := ⟨by decide, by decide⟩
theorem poly1 : Poly 1 [(1, 1)] := ⟨by decide, by decide⟩
theorem poly0 {x : Int} : Poly 0 [(0, x)] := ⟨by simp [keysI], by simp [keysI]⟩
theorem ig01 : igI [(0, 1), (1, 1)] = opA dlt := by
  funext s
  rw [igI_cons, igI_cons, igI_nil]
  unfold opA dlt
  dsimp only
  by_cases h0 : s = 0
  · subst h0; rfl
  · by_cases h1 : s = 1
    · subst h1; rfl
    · rw [if_neg (Ne.symm h0), if_neg (Ne.symm h1), if_neg h0, if_neg (by omega)]; rfl
theorem ig1 : igI [(1, 1)] = opX dlt := by
  funext s
  rw [igI_cons, igI_nil]
  unfold opX dlt
  dsimp only
  by_cases h1 : s = 1
  · subst h1; rfl
  · rw [if_neg (Ne.symm h1), if_neg (by omega)]
theorem ig0 {x : Int} : igI [(0, x)] = fun s => if s = 0 then x else 0 := by
  funext s
  rw [igI_cons, igI_nil]
  by_cases h0 : s = 0
  · rw [if_pos h0, if_pos h0.symm]
  · rw [if_neg h0, if_neg (Ne.symm h0)]
theorem Poly.supp {N : Nat} {kvs : ID} (p : Poly N kvs) : Supp N (igI kvs) := fun k hk => p.out hk
theorem choices_poly : ∀ n, Poly n (choicesI n)
  | 0 => poly0
  | n + 1 => joined_poly (choices_poly n) poly01
theorem choices_val : ∀ n, igI (choicesI n) = opAn n dlt
  | 0 => by show igI [(0, 1)] = dlt; rw [ig0]; rfl
  | n + 1 => by
    funext s
    show igI (joinedI (choicesI n) [(0, 1), (1, 1)]) s = opA (opAn n dlt) s
    rw [joined_val (choices_poly n) poly01, ig01, conv_A, ← choices_val n]
    unfold opA
    rw [conv_dlt (choices_poly n).supp, conv_dlt (choices_poly n).supp]
/-! counts of rows by their lengths -/
def cntStep (f : ID) (r : List Cell) : ID := ipI f (r.length : Int) (igI f (r.length : Int) + 1)
def countsI (rws : List (List Cell)) : ID := rws.foldl cntStep []
def cntLen (rws : List (List Cell)) (s : Int) : Int := ((rws.filter fun r => decide ((r.length : Int) = s)).length : Int)
theorem cntFold_val : ∀ (rws : List (List Cell)) (f : ID) (s : Int), igI (rws.foldl cntStep f) s = igI f s + cntLen rws s
  | [], f, s => by unfold cntLen; simp
  | r :: rws, f, s => by
    rw [List.foldl_cons, cntFold_val rws]
    unfold cntStep
    rw [igI_put]
    unfold cntLen
    rw [List.filter_cons]
    by_cases h : s = (r.length : Int)
    · rw [if_pos h, if_pos (decide_eq_true h.symm), List.length_cons, h]; omega
    · rw [if_neg h, if_neg (by rw [decide_eq_false (Ne.symm h)]; decide)]
theorem counts_val (rws : List (List Cell)) : igI (countsI rws) = cntLen rws := by
  funext s
  unfold countsI
  rw [cntFold_val, igI_nil, Int.zero_add]
theorem cntFold_poly {N : Nat} : ∀ {rws : List (List Cell)} {f : ID}, (∀ r ∈ rws, r.length ≤ N) → Poly N f → Poly N (rws.foldl cntStep f)
  | [], _, _, p => p
  | r :: rws, f, h, p => cntFold_poly (rws := rws) (fun x hx => h x (by simp [hx])) (p.put (by have := h r (by simp); omega))
theorem counts_poly {N : Nat} {rws : List (List Cell)} (h : ∀ r ∈ rws, r.length ≤ N) : Poly N (countsI rws) := cntFold_poly h poly_nil
theorem cntLen_bd {rws : List (List Cell)} {s : Int} : 0 ≤ cntLen rws s ∧ cntLen rws s ≤ rws.length := by
  unfold cntLen
  have := List.length_filter_le (fun r : List Cell => decide ((r.length : Int) = s)) rws
  omega
/-! .. by stones -/
def idleC (rows : List Tx) (told : List Cell) (c : Cell) : Bool := !(!hid rows c && (!decide (c ∈ told) && !decide (figN rows c = 0)))
def idleB (rows : List Tx) : Bool := (allCells (hOf rows) (wOf rows)).all (idleC rows (openN rows (closedOf rows)))
def partRows (rows : List Tx) (w : Option Cell) (p : List Cell) : List (List Cell) := if inO w p then (playings rows p).filter (inO w) else playings rows p
def bfold (rows : List Tx) (w : Option Cell) (ps : List (List Cell)) (f : ID) : ID := ps.foldl (fun f p => joinedI f (countsI (partRows rows w p))) f
def b01 (b : Bool) : Int := if b then 1 else 0
def bparts (rows : List Tx) (w : Option Cell) : ID := bfold rows w (partsOf rows) [(0, b01 (idleB rows))]
def bstones (rows : List Tx) (w : Option Cell) : ID :=
  if inO w (farOf rows) then joinedI (joinedI (bparts rows w) (choicesI ((farOf rows).length - 1))) [(1, 1)] else joinedI (bparts rows w) (choicesI (farOf rows).length)
def small (rows : List Tx) : Bool := (partsOf rows).all fun p => decide (p.length ≤ 12)
/-! the law -/
def lcoef (l : List Int) (s : Int) : Int := if 0 ≤ s then l.getD s.toNat 0 else 0
def ltogI (one other : List Int) (j : Int) (f : List Int) (k : Int) : List Int := f.set (j + k).toNat (f.getD (j + k).toNat 0 + one.getD j.toNat 0 * other.getD k.toNat 0)
def ltogJ (one other : List Int) (f : List Int) (j : Int) : List Int := (irange 0 other.length).foldl (ltogI one other j) f
def ltog (one other : List Int) : List Int := (irange 0 one.length).foldl (ltogJ one other) (List.replicate (one.length + other.length - 1) 0)
theorem ltogI_len {one other : List Int} {j k : Int} {f : List Int} : (ltogI one other j f k).length = f.length := by unfold ltogI; rw [List.length_set]
theorem foldI_len {one other : List Int} {j : Int} : ∀ {ks : List Int} {f : List Int}, (ks.foldl (ltogI one other j) f).length = f.length
  | [], _ => rfl
  | k :: ks, f => by rw [List.foldl_cons, foldI_len (ks := ks), ltogI_len]
theorem ltogJ_len {one other : List Int} {j : Int} {f : List Int} : (ltogJ one other f j).length = f.length := foldI_len
theorem foldJ_len {one other : List Int} : ∀ {js : List Int} {f : List Int}, (js.foldl (ltogJ one other) f).length = f.length
  | [], _ => rfl
  | j :: js, f => by rw [List.foldl_cons, foldJ_len (js := js), ltogJ_len]
theorem ltog_len {one other : List Int} : (ltog one other).length = one.length + other.length - 1 := by unfold ltog; rw [foldJ_len, List.length_replicate]
theorem lcoef_out {l : List Int} {s : Int} (h : s < 0 ∨ (l.length : Int) ≤ s) : lcoef l s = 0 := by
  unfold lcoef
  split
  · rw [List.getD_eq_getElem?_getD, List.getElem?_eq_none (by omega)]; rfl
  · rfl
theorem lcoef_set {l : List Int} {i : Nat} {v : Int} {s : Int} (hi : i < l.length) : lcoef (l.set i v) s = if s = (i : Int) then v else lcoef l s := by
  unfold lcoef
  by_cases h0 : 0 ≤ s
  · rw [if_pos h0, if_pos h0, List.getD_eq_getElem?_getD, List.getD_eq_getElem?_getD]
    by_cases h : s = (i : Int)
    · subst h; rw [if_pos rfl, Int.toNat_natCast, List.getElem?_set_self hi]; rfl
    · rw [if_neg h, List.getElem?_set_ne (by omega)]
  · rw [if_neg h0, if_neg h0, if_neg (by omega)]
theorem foldI_val {one other : List Int} {j : Int} (hj : 0 ≤ j) : ∀ (ks : List Int) (f : List Int) (s : Int), ks.Nodup → (∀ k ∈ ks, 0 ≤ k ∧ j + k < f.length) → lcoef (ks.foldl (ltogI one other j) f) s = lcoef f s + if s - j ∈ ks then lcoef one j * lcoef other (s - j) else 0
  | [], f, s, _, _ => by simp
  | k :: ks, f, s, nd, h => by
    obtain ⟨n1, n2⟩ := List.nodup_cons.mp nd
    have hk := h k (by simp)
    rw [List.foldl_cons, foldI_val hj ks _ s n2 (fun x hx => by rw [ltogI_len]; exact h x (by simp [hx]))]
    unfold ltogI
    rw [lcoef_set (by omega)]
    by_cases hs : s = ((j + k).toNat : Int)
    · have hs2 : s = j + k := by omega
      have e : s - j = k := by omega
      rw [if_pos hs, e, if_neg n1, if_pos (by simp)]
      have e1 : lcoef f s = f.getD (j + k).toNat 0 := by unfold lcoef; rw [if_pos (by omega), hs2]
      have e2 : lcoef one j = one.getD j.toNat 0 := by unfold lcoef; rw [if_pos hj]
      have e3 : lcoef other k = other.getD k.toNat 0 := by unfold lcoef; rw [if_pos hk.1]
      rw [e1, e2, e3]; omega
    · rw [if_neg hs]
      have : (s - j ∈ k :: ks) ↔ s - j ∈ ks := by
        rw [List.mem_cons]
        constructor
        · rintro (z | z)
          · omega
          · exact z
        · exact .inr
      by_cases h2 : s - j ∈ ks
      · rw [if_pos h2, if_pos (this.mpr h2)]
      · rw [if_neg h2, if_neg (fun z => h2 (this.mp z))]
theorem ltogJ_val {one other : List Int} {j : Int} {f : List Int} (hj : 0 ≤ j) (hl : j + other.length ≤ f.length) (s : Int) : lcoef (ltogJ one other f j) s = lcoef f s + lcoef one j * lcoef other (s - j) := by
  unfold ltogJ
  rw [foldI_val hj _ f s irange_nd (fun k hk => by have := mem_irange.mp hk; omega)]
  by_cases h : s - j ∈ irange 0 other.length
  · rw [if_pos h]
  · rw [if_neg h, lcoef_out (l := other) (s := s - j) (by rw [mem_irange] at h; omega), Int.mul_zero]
theorem foldJ_val {one other : List Int} : ∀ (js : List Int) (f : List Int) (s : Int), (∀ j ∈ js, 0 ≤ j ∧ j + other.length ≤ f.length) → lcoef (js.foldl (ltogJ one other) f) s = lcoef f s + sumF js fun j => lcoef one j * lcoef other (s - j)
  | [], f, s, _ => by rw [List.foldl_nil, sumF_nil]; omega
  | j :: js, f, s, h => by
    have hj := h j (by simp)
    rw [List.foldl_cons, foldJ_val js _ s (fun x hx => by rw [ltogJ_len]; exact h x (by simp [hx])), ltogJ_val hj.1 hj.2, sumF_cons]; omega
theorem ltog_val {N : Nat} {one other : List Int} (h1 : one.length = N + 1) (h2 : 1 ≤ other.length) (s : Int) : lcoef (ltog one other) s = conv N (lcoef one) (lcoef other) s := by
  unfold ltog conv
  rw [foldJ_val _ _ s (fun j hj => by rw [List.length_replicate]; have := mem_irange.mp hj; omega), h1]
  have : lcoef (List.replicate (N + 1 + other.length - 1) 0) s = 0 := by
    unfold lcoef
    split
    · rw [List.getD_eq_getElem?_getD, List.getElem?_replicate]
      split <;> rfl
    · rfl
  rw [this, Int.zero_add]
def lpartRows (rows : List Tx) (w : Option Cell) (p : List Cell) : List (List Cell) := (llayings rows p).filter fun r => !inO w p || inO w r
def lsizes (rws : List (List Cell)) (n : Nat) : List Int := (irange 0 (n + 1)).map fun k => (((rws.map fun r => (r.length : Int)).count k : Nat) : Int)
def lpfold (rows : List Tx) (w : Option Cell) (ps : List (List Cell)) (f : List Int) : List Int := ps.foldl (fun f p => ltog f (lsizes (lpartRows rows w p) p.length)) f
def lffold (w : Option Cell) (cs : List Cell) (f : List Int) : List Int := cs.foldl (fun f c => ltog f [b01 (!decide (some c = w)), 1]) f
def lidleC (rows : List Tx) (o : Cell) : Bool := decide (0 < ((lnear (hOf rows) (wOf rows) o).filter (hid rows)).length)
def figs1 : Tx := ⟨[49, 50, 51, 52, 53, 54, 55, 56]⟩
def lidle (rows : List Tx) : Bool := (lcells rows figs1).all (lidleC rows)
def lfree (rows : List Tx) : List Cell := (lhid rows).filter fun c => !decide (c ∈ ledge rows)
def lcounts (rows : List Tx) (w : Option Cell) : List Int := lffold w (lfree rows) (lpfold rows w (lgroups rows) [b01 (lidle rows)])
def lcount (rows : List Tx) (w : Option Cell) (s : Int) : Int := if 0 ≤ s ∧ s < (lcounts rows w).length then (lcounts rows w).getD s.toNat 0 else 0
theorem lcount_eq {rows : List Tx} {w : Option Cell} {s : Int} : lcount rows w s = lcoef (lcounts rows w) s := by
  unfold lcount
  by_cases h : 0 ≤ s ∧ s < (lcounts rows w).length
  · rw [if_pos h]; unfold lcoef; rw [if_pos h.1]
  · rw [if_neg h, lcoef_out (by omega)]
/-! they come to the same -/
theorem count_filter {rws : List (List Cell)} {s : Int} : (((rws.map fun r => (r.length : Int)).count s : Nat) : Int) = cntLen rws s := by
  unfold cntLen
  rw [List.count_eq_countP, List.countP_map, List.countP_eq_length_filter]
  congr 2
theorem lsizes_val {rws : List (List Cell)} {n : Nat} (h : ∀ r ∈ rws, r.length ≤ n) : lcoef (lsizes rws n) = cntLen rws := by
  funext s
  have hl : (lsizes rws n).length = n + 1 := by unfold lsizes; rw [List.length_map, irange_len]
  by_cases hs : 0 ≤ s ∧ s ≤ n
  · unfold lcoef
    rw [if_pos hs.1, List.getD_eq_getElem?_getD]
    unfold lsizes
    rw [List.getElem?_map]
    have : (irange 0 (n + 1))[s.toNat]? = some s := by
      unfold irange
      rw [List.getElem?_map, List.getElem?_range (by omega)]
      show some (0 + (s.toNat : Int)) = some s
      congr 1; omega
    rw [this]
    exact count_filter
  · rw [lcoef_out (by omega)]
    unfold cntLen
    rw [List.filter_eq_nil_iff.mpr (fun r hr => ?_)]
    · rfl
    · have := h r hr
      simp only [decide_eq_true_eq]; omega
theorem rows_same {rows : List Tx} (v : Vw rows) (w : Option Cell) {p : List Cell} (hn : p.Nodup) (hin : ∀ c ∈ p, inF (hOf rows) (wOf rows) c = true) : partRows rows w p = lpartRows rows w p := by
  unfold partRows lpartRows
  rw [playings_eq v hn hin]
  cases inO w p with
  | true => rw [if_pos rfl]; simp only [Bool.not_true, Bool.false_or]
  | false => rw [if_neg (by decide)]; simp only [Bool.not_false, Bool.true_or]; rw [List.filter_eq_self.mpr (fun _ _ => rfl)]
theorem partRows_len {rows : List Tx} {w : Option Cell} {p : List Cell} : (∀ r ∈ partRows rows w p, r.length ≤ p.length) ∧ (partRows rows w p).length ≤ (playings rows p).length := by
  unfold partRows
  split
  · exact ⟨fun r hr => (playings_sub (List.mem_filter.mp hr).1).length_le, List.length_filter_le _ _⟩
  · exact ⟨fun r hr => (playings_sub hr).length_le, Nat.le_refl _⟩
theorem pfold_same {rows : List Tx} (v : Vw rows) (w : Option Cell) : ∀ (ps : List (List Cell)) (f : ID) (g : List Int) (N : Nat), (∀ p ∈ ps, p.Nodup ∧ ∀ c ∈ p, inF (hOf rows) (wOf rows) c = true) → Poly N f → g.length = N + 1 → igI f = lcoef g →
    ∃ M, Poly M (bfold rows w ps f) ∧ (lpfold rows w ps g).length = M + 1 ∧ igI (bfold rows w ps f) = lcoef (lpfold rows w ps g) ∧ M = N + (ps.map List.length).sum
  | [], f, g, N, _, p, hl, e => ⟨N, p, hl, e, by simp⟩
  | p :: ps, f, g, N, hp, hf, hl, e => by
    obtain ⟨pn, pin⟩ := hp p (by simp)
    have er := rows_same v w pn pin
    have hlr := (partRows_len (rows := rows) (w := w) (p := p)).1
    have pc := counts_poly hlr
    have hls : (lsizes (lpartRows rows w p) p.length).length = p.length + 1 := by unfold lsizes; rw [List.length_map, irange_len]
    obtain ⟨M, h1, h2, h3, h4⟩ := pfold_same v w ps (joinedI f (countsI (partRows rows w p))) (ltog g (lsizes (lpartRows rows w p) p.length)) (N + p.length) (fun x hx => hp x (by simp [hx])) (joined_poly hf pc) (by rw [ltog_len, hl, hls]; omega) (by
      funext s
      rw [joined_val hf pc, ltog_val hl (by omega), e, counts_val, ← er, lsizes_val hlr])
    exact ⟨M, h1, h2, h3, by rw [h4, List.map_cons, List.sum_cons]; omega⟩
def farOp (w : Option Cell) (c : Cell) (f : Int → Int) : Int → Int := if some c = w then opX f else opA f
theorem ffold_val (w : Option Cell) : ∀ (cs : List Cell) (g : List Int) (N : Nat), g.length = N + 1 → lcoef (lffold w cs g) = cs.foldl (fun f c => farOp w c f) (lcoef g) ∧ (lffold w cs g).length = N + 1 + cs.length
  | [], g, N, hl => ⟨rfl, by show g.length = _; rw [hl]; rfl⟩
  | c :: cs, g, N, hl => by
    have hl2 : (ltog g [b01 (!decide (some c = w)), 1]).length = N + 1 + 1 := by rw [ltog_len, hl]; simp only [List.length_cons, List.length_nil]; omega
    obtain ⟨h1, h2⟩ := ffold_val w cs (ltog g [b01 (!decide (some c = w)), 1]) (N + 1) hl2
    refine ⟨?_, by show (lffold w cs _).length = _; rw [h2, List.length_cons]; omega⟩
    show lcoef (lffold w cs _) = cs.foldl _ (farOp w c (lcoef g))
    rw [h1]
    congr 1
    funext s
    rw [ltog_val hl (by simp)]
    have sp : Supp N (lcoef g) := fun k hk => lcoef_out (by omega)
    unfold farOp
    by_cases h : some c = w
    · rw [if_pos h, decide_eq_true h]
      have : lcoef [b01 (!true), 1] = opX dlt := by
        rw [← ig1]; funext t
        rw [igI_cons, igI_nil]
        unfold lcoef
        by_cases h1 : t = 1
        · subst h1; rfl
        · rw [if_neg (Ne.symm h1)]
          by_cases h0 : t = 0
          · subst h0; rfl
          · split
            · rw [List.getD_eq_getElem?_getD, List.getElem?_eq_none (by simp only [List.length_cons, List.length_nil]; omega)]; rfl
            · rfl
      rw [this, conv_X]
      unfold opX
      rw [conv_dlt sp]
    · rw [if_neg h, decide_eq_false h]
      have : lcoef [b01 (!false), 1] = opA dlt := by
        rw [← ig01]; funext t
        rw [igI_cons, igI_cons, igI_nil]
        unfold lcoef
        by_cases h1 : t = 1
        · subst h1; rfl
        · by_cases h0 : t = 0
          · subst h0; rfl
          · rw [if_neg (Ne.symm h0), if_neg (Ne.symm h1)]
            split
            · rw [List.getD_eq_getElem?_getD, List.getElem?_eq_none (by simp only [List.length_cons, List.length_nil]; omega)]; rfl
            · rfl
      rw [this, conv_A]
      unfold opA
      rw [conv_dlt sp, conv_dlt sp]
theorem farFold_no {w : Option Cell} : ∀ {cs : List Cell} (f : Int → Int), (∀ c ∈ cs, some c ≠ w) → cs.foldl (fun f c => farOp w c f) f = opAn cs.length f
  | [], f, _ => rfl
  | c :: cs, f, h => by
    rw [List.foldl_cons, farFold_no (cs := cs) _ (fun x hx => h x (by simp [hx])), List.length_cons]
    unfold farOp
    rw [if_neg (h c (by simp)), opAn_A]; rfl
theorem farFold_yes {c0 : Cell} : ∀ {cs : List Cell} (f : Int → Int), cs.Nodup → c0 ∈ cs → cs.foldl (fun f c => farOp (some c0) c f) f = opX (opAn (cs.length - 1) f)
  | c :: cs, f, nd, h => by
    obtain ⟨n1, n2⟩ := List.nodup_cons.mp nd
    rw [List.foldl_cons]
    by_cases e : c = c0
    · subst e
      rw [farFold_no (cs := cs) _ (fun x hx z => n1 (by cases z; exact hx)), List.length_cons, Nat.add_sub_cancel]
      unfold farOp
      rw [if_pos rfl, opAnX]
    · have hm : c0 ∈ cs := by
        rcases List.mem_cons.mp h with z | z
        · exact absurd z.symm e
        · exact z
      have hl : 1 ≤ cs.length := List.length_pos_of_mem hm
      rw [farFold_yes (cs := cs) _ n2 hm, List.length_cons, Nat.add_sub_cancel]
      have : farOp (some c0) c f = opA f := by unfold farOp; rw [if_neg (fun z => e (by cases z; rfl))]
      rw [this, opAn_A]
      obtain ⟨m, hm⟩ : ∃ m, cs.length = m + 1 := ⟨cs.length - 1, by omega⟩
      rw [hm, Nat.add_sub_cancel]; rfl
theorem lfree_eq {rows : List Tx} (v : Vw rows) : lfree rows = farOf rows := by
  unfold lfree farOf
  rw [lhid_eq v]
  refine List.filter_congr fun c hc => ?_
  rw [ledge_eq v]
  unfold edgeOf
  congr 1
  rw [Bool.eq_iff_iff, decide_eq_true_iff, List.mem_filter]
  exact ⟨fun h => h.2, fun h => ⟨hc, h⟩⟩
theorem idle_eq {rows : List Tx} (v : Vw rows) : idleB rows = lidle rows := by
  unfold idleB lidle
  rw [lcells_eq v, List.all_filter, Bool.eq_iff_iff, List.all_eq_true, List.all_eq_true]
  have key : ∀ c ∈ allCells (hOf rows) (wOf rows), idleC rows (openN rows (closedOf rows)) c = (!decide (sgn rows c ∈ figs1.cs) || lidleC rows c) := fun c hc => by
    have hin := (inF_cells v.dim).mpr hc
    unfold idleC lidleC
    cases hh : hid rows c with
    | true =>
      have : ¬ sgn rows c ∈ figs1.cs := by
        unfold hid at hh
        rw [of_decide_eq_true hh]; decide
      rw [decide_eq_false this]; rfl
    | false =>
      obtain ⟨s1, s2⟩ := open_fig v hin hh
      have e1 : decide (sgn rows c ∈ figs1.cs) = !decide (figN rows c = 0) := by
        rw [s1]
        have : ∀ k : Fin 9, decide (48 + k.val ∈ figs1.cs) = !decide (k.val = 0) := by decide
        exact this ⟨figN rows c, s2⟩
      have e2 : decide (0 < ((lnear (hOf rows) (wOf rows) c).filter (hid rows)).length) = decide (c ∈ openN rows (closedOf rows)) := by
        rw [Bool.eq_iff_iff, decide_eq_true_iff, decide_eq_true_iff, List.length_pos_iff_exists_mem, mem_openN v]
        constructor
        · rintro ⟨x, hx⟩
          obtain ⟨h1, h2⟩ := List.mem_filter.mp hx
          obtain ⟨h3, h4⟩ := mem_lnear.mp h1
          exact ⟨x, (mem_closed v).mpr ⟨h3, h2⟩, (mem_around v.dim).mpr ⟨hin, by rw [near_sym]; exact h4⟩, hh⟩
        · rintro ⟨x, h1, h2, _⟩
          obtain ⟨h3, h4⟩ := (mem_closed v).mp h1
          exact ⟨x, List.mem_filter.mpr ⟨mem_lnear.mpr ⟨h3, by rw [near_sym]; exact ((mem_around v.dim).mp h2).2⟩, h4⟩⟩
      rw [e1, e2]
      cases decide (c ∈ openN rows (closedOf rows)) <;> cases decide (figN rows c = 0) <;> rfl
  constructor
  · intro h c hc
    rw [← key c hc]; exact h c hc
  · intro h c hc
    rw [key c hc]; exact h c hc
theorem parts_ok {rows : List Tx} (v : Vw rows) : ∀ p ∈ partsOf rows, p.Nodup ∧ ∀ c ∈ p, inF (hOf rows) (wOf rows) c = true := fun p hp => by
  have := part_mem v hp
  exact ⟨srt_nd this.1, fun c hc => edge_in v (this.2.1 c hc)⟩
theorem far_nd {rows : List Tx} (v : Vw rows) : (farOf rows).Nodup := srt_nd (srt_filter (srt_filter (allCells_srt v.dim)))
theorem bparts_poly {rows : List Tx} (v : Vw rows) (w : Option Cell) : ∃ M, Poly M (bparts rows w) ∧ (lpfold rows w (lgroups rows) [b01 (lidle rows)]).length = M + 1 ∧ igI (bparts rows w) = lcoef (lpfold rows w (lgroups rows) [b01 (lidle rows)]) ∧ M = ((partsOf rows).map List.length).sum := by
  have := pfold_same v w (partsOf rows) [(0, b01 (idleB rows))] [b01 (lidle rows)] 0 (parts_ok v) poly0 rfl (by
    rw [ig0, idle_eq v]
    funext s
    unfold lcoef
    by_cases h0 : s = 0
    · subst h0; rfl
    · rw [if_neg h0]
      split
      · rw [List.getD_eq_getElem?_getD, List.getElem?_eq_none (by simp only [List.length_cons, List.length_nil]; omega)]; rfl
      · rfl)
  obtain ⟨M, h1, h2, h3, h4⟩ := this
  rw [parts_eq v] at h1 h2 h3 h4
  refine ⟨M, ?_, h2, ?_, ?_⟩
  · unfold bparts; rw [parts_eq v]; exact h1
  · unfold bparts; rw [parts_eq v]; exact h3
  · rw [parts_eq v]; omega
theorem bstones_val {rows : List Tx} (v : Vw rows) (w : Option Cell) : igI (bstones rows w) = (farOf rows).foldl (fun f c => farOp w c f) (igI (bparts rows w)) := by
  obtain ⟨M, h1, _⟩ := bparts_poly v w
  unfold bstones
  cases w with
  | none =>
    rw [if_neg (show ¬ inO none (farOf rows) = true from Bool.false_ne_true)]
    funext s
    rw [joined_val h1 (choices_poly _), choices_val, conv_An, farFold_no _ (fun c _ => by simp)]
    congr 1
    funext t
    exact conv_dlt h1.supp t
  | some c0 =>
    by_cases hm : c0 ∈ farOf rows
    · rw [if_pos (show inO (some c0) (farOf rows) = true from decide_eq_true hm), farFold_yes _ (far_nd v) hm]
      funext s
      rw [joined_val (joined_poly h1 (choices_poly _)) poly1, ig1, conv_X]
      unfold opX
      rw [conv_dlt (joined_poly h1 (choices_poly _)).supp, joined_val h1 (choices_poly _), choices_val, conv_An]
      congr 1
      funext t
      exact conv_dlt h1.supp t
    · rw [if_neg (show ¬ inO (some c0) (farOf rows) = true from fun z => hm (of_decide_eq_true z)), farFold_no _ (fun c hc z => hm (by cases z; exact hc))]
      funext s
      rw [joined_val h1 (choices_poly _), choices_val, conv_An]
      congr 1
      funext t
      exact conv_dlt h1.supp t
theorem count_eq {rows : List Tx} (v : Vw rows) (w : Option Cell) (s : Int) : igI (bstones rows w) s = lcount rows w s := by
  obtain ⟨M, h1, h2, h3, _⟩ := bparts_poly v w
  rw [lcount_eq, bstones_val v w]
  unfold lcounts
  rw [(ffold_val w (lfree rows) _ M h2).1, h3, lfree_eq v]
/-! what the walks ask -/
structure JoinOk (one other : ID) : Prop where
  a : Poly 2000 one
  b : Poly 2000 other
  c : ∀ k, -(2 ^ 64) < igI other k ∧ igI other k < 2 ^ 64
theorem choices_bd {n : Nat} (h : n ≤ 36) (k : Int) : -(2 ^ 64) < igI (choicesI n) k ∧ igI (choicesI n) k < 2 ^ 64 := by
  rw [choices_val]
  have h1 := opAn_bd (n := n) (s := k)
  have h2 : (2 : Int) ^ n ≤ 2 ^ 36 := by
    have := Nat.pow_le_pow_right (n := 2) (by decide) h
    exact_mod_cast this
  have h3 : (2 : Int) ^ 36 < 2 ^ 64 := by decide
  omega
theorem counts_bd {rws : List (List Cell)} (h : rws.length ≤ 100000) (k : Int) : -(2 ^ 64) < igI (countsI rws) k ∧ igI (countsI rws) k < 2 ^ 64 := by
  rw [counts_val]
  have := cntLen_bd (rws := rws) (s := k)
  omega
theorem sum_len_le {ps : List (List Cell)} (h : ∀ p ∈ ps, p.length ≤ 36) : (ps.map List.length).sum ≤ ps.length * 36 := by
  induction ps with
  | nil => simp
  | cons p ps ih =>
    have := ih fun x hx => h x (by simp [hx])
    have := h p (by simp)
    rw [List.map_cons, List.sum_cons, List.length_cons, Nat.succ_mul]; omega
theorem parts_len {rows : List Tx} (v : Vw rows) : (partsOf rows).length ≤ 36 := by
  rw [parts_eq v]
  unfold lgroups
  rw [List.length_map]
  refine Nat.le_trans dsort_len ?_
  rw [List.length_map, ledge_eq v]; exact edge_len v
theorem parts_sum {rows : List Tx} (v : Vw rows) : ((partsOf rows).map List.length).sum ≤ 1296 := by
  have h1 := sum_len_le (ps := partsOf rows) fun p hp => (part_mem v hp).2.2
  have h2 := parts_len v
  omega
theorem far_len {rows : List Tx} (v : Vw rows) : (farOf rows).length ≤ 36 := Nat.le_trans (List.length_filter_le _ _) (closed_len v)
theorem small_iff {rows : List Tx} : small rows = true ↔ ∀ p ∈ partsOf rows, p.length ≤ 12 := by
  unfold small
  simp only [List.all_eq_true, decide_eq_true_eq]
theorem lsizes_len {rws : List (List Cell)} {n : Nat} : (lsizes rws n).length = n + 1 := by unfold lsizes; rw [List.length_map, irange_len]
theorem lsizes_bd {rws : List (List Cell)} {n : Nat} (h : rws.length ≤ 100000) : ∀ x ∈ lsizes rws n, 0 ≤ x ∧ x ≤ 100000 := by
  intro x hx
  unfold lsizes at hx
  obtain ⟨k, _, rfl⟩ := List.mem_map.mp hx
  rw [count_filter]
  have := cntLen_bd (rws := rws) (s := k)
  omega
theorem lgreat_eq {rows : List Tx} (v : Vw rows) : (decide (12 < (maxDI 0 ((lgroups rows).map fun p => (p.length : Int))))) = !small rows := by
  have key : ∀ (l : List Int) (y : Int), (12 < l.foldl max y) ↔ (12 < y ∨ ∃ x ∈ l, 12 < x) := by
    intro l
    induction l with
    | nil => intro y; simp
    | cons z l ih =>
      intro y
      rw [List.foldl_cons, ih]
      simp only [List.mem_cons, exists_eq_or_imp]
      constructor
      · rintro (h | h)
        · by_cases q : 12 < y
          · exact .inl q
          · exact .inr (.inl (by omega))
        · exact .inr (.inr h)
      · rintro (h | h | h)
        · exact .inl (by omega)
        · exact .inl (by omega)
        · exact .inr h
  unfold small
  rw [parts_eq v, Bool.eq_iff_iff, decide_eq_true_iff, Bool.not_eq_true', ← Bool.not_eq_true, List.all_eq_true]
  cases lgroups rows with
  | nil => simp [maxDI]
  | cons p ps =>
    show 12 < ((ps.map fun p => (p.length : Int))).foldl max (p.length : Int) ↔ _
    simp only [key, List.mem_map, decide_eq_true_eq]
    constructor
    · rintro (h | ⟨x, ⟨q, hq, rfl⟩, h⟩) hall
      · have := hall p (by simp); omega
      · have := hall q (by simp [hq]); omega
    · intro h
      false_or_by_contra
      rename_i hn
      apply h
      intro q hq
      false_or_by_contra
      rename_i hb
      apply hn
      rcases List.mem_cons.mp hq with rfl | hq
      · left; omega
      · right; exact ⟨_, ⟨q, hq, rfl⟩, by omega⟩
end DF

set_option exponentiation.threshold 3000
namespace DF
open R (rp)
open Dt (toD)
/-! ### k07: how great counts are; common divisors; the views -/
theorem sumF_le {α : Type} {g h : α → Int} : ∀ {l : List α}, (∀ x ∈ l, g x ≤ h x) → sumF l g ≤ sumF l h
  | [], _ => Int.le_refl _
  | x :: l, q => by
    rw [sumF_cons, sumF_cons]
    have := q x (by simp)
    have := sumF_le (l := l) fun y hy => q y (by simp [hy])
    omega
theorem sumF_nn {α : Type} {g : α → Int} : ∀ {l : List α}, (∀ x ∈ l, 0 ≤ g x) → 0 ≤ sumF l g
  | [], _ => Int.le_refl _
  | x :: l, q => by
    rw [sumF_cons]
    have := q x (by simp)
    have := sumF_nn (l := l) fun y hy => q y (by simp [hy])
    omega
theorem sumF_mul {α : Type} (c : Int) (g : α → Int) : ∀ l : List α, sumF l (fun x => c * g x) = c * sumF l g
  | [] => by rw [sumF_nil, sumF_nil, Int.mul_zero]
  | x :: l => by rw [sumF_cons, sumF_cons, sumF_mul c g l, Int.mul_add]
/-- at most one of the places meets it -/
theorem sum_hit {l : List Int} (nd : l.Nodup) (s t : Int) : sumF l (fun i => if s - i = t then 1 else 0) ≤ 1 := by
  rw [sumF_filter (p := fun i => decide (s - i = t)) (fun x _ hx => if_neg (of_decide_eq_false hx))]
  have hnd : (l.filter fun i => decide (s - i = t)).Nodup := nd.sublist List.filter_sublist
  have hall : ∀ x ∈ l.filter (fun i => decide (s - i = t)), x = s - t := fun x hx => by have := of_decide_eq_true (List.mem_filter.mp hx).2; omega
  generalize l.filter (fun i => decide (s - i = t)) = m at hnd hall
  match m, hnd, hall with
  | [], _, _ => show (0 : Int) ≤ 1; decide
  | [x], _, _ =>
    rw [sumF_cons, sumF_nil]
    split <;> omega
  | x :: y :: r, hnd, hall =>
    have h1 := hall x (by simp)
    have h2 := hall y (by simp)
    exact absurd (by rw [h1, h2]) ((List.nodup_cons.mp hnd).1 ∘ fun (e : x = y) => by rw [e]; simp)
theorem sum_cntLen {l : List Int} (nd : l.Nodup) (s : Int) : ∀ rws : List (List Cell), sumF l (fun i => cntLen rws (s - i)) ≤ rws.length
  | [] => by
    rw [sumF_zero (fun x _ => by unfold cntLen; rfl)]; exact Int.le_refl _
  | r :: rws => by
    have ih := sum_cntLen nd s rws
    have h1 := sum_hit nd s (r.length : Int)
    have e : sumF l (fun i => cntLen (r :: rws) (s - i)) = sumF l (fun i => (if s - i = (r.length : Int) then 1 else 0) + cntLen rws (s - i)) := sumF_congr fun i _ => by
      unfold cntLen
      rw [List.filter_cons]
      by_cases h : s - i = (r.length : Int)
      · rw [if_pos h, if_pos (decide_eq_true h.symm), List.length_cons]; omega
      · rw [if_neg h, if_neg (by rw [decide_eq_false (Ne.symm h)]; decide)]; omega
    rw [e, sumF_add, List.length_cons]
    omega
/-- from 0 to A -/
def Upto (A : Int) (f : Int → Int) : Prop := ∀ s, 0 ≤ f s ∧ f s ≤ A
theorem upto_conv {N : Nat} {A : Int} {f : Int → Int} (hA : 0 ≤ A) (h : Upto A f) (rws : List (List Cell)) : Upto (A * rws.length) (conv N f (cntLen rws)) := fun s => by
  unfold conv
  refine ⟨sumF_nn fun i _ => Int.mul_nonneg (h i).1 (cntLen_bd).1, ?_⟩
  refine Int.le_trans (sumF_le (h := fun i => A * cntLen rws (s - i)) fun i _ => Int.mul_le_mul_of_nonneg_right (h i).2 (cntLen_bd).1) ?_
  rw [sumF_mul]
  exact Int.mul_le_mul_of_nonneg_left (sum_cntLen irange_nd s rws) hA
theorem pow_nn (n : Nat) : (0 : Int) ≤ 2 ^ n := Int.le_of_lt (Int.pow_pos (by decide))
theorem bfold_upto {rows : List Tx} {w : Option Cell} : ∀ (ps : List (List Cell)) (f : ID) (N a : Nat), (∀ p ∈ ps, p.length ≤ 12) → Poly N f → Upto (2 ^ a) (igI f) → Upto (2 ^ (a + 12 * ps.length)) (igI (bfold rows w ps f))
  | [], f, N, a, _, _, h => by simpa [bfold] using h
  | p :: ps, f, N, a, hp, hf, h => by
    obtain ⟨hr1, hr2⟩ := partRows_len (rows := rows) (w := w) (p := p)
    have pc := counts_poly hr1
    have h4 : (partRows rows w p).length ≤ 4096 := Nat.le_trans hr2 (playings_len (hp p (by simp)))
    have e : igI (joinedI f (countsI (partRows rows w p))) = conv N (igI f) (cntLen (partRows rows w p)) := by
      funext s; rw [joined_val hf pc, counts_val]
    have h1 : Upto (2 ^ (a + 12)) (igI (joinedI f (countsI (partRows rows w p)))) := fun s => by
      have := upto_conv (N := N) (pow_nn a) h (partRows rows w p) s
      rw [e]
      refine ⟨this.1, Int.le_trans this.2 ?_⟩
      rw [Int.pow_add]
      exact Int.mul_le_mul_of_nonneg_left (by show ((partRows rows w p).length : Int) ≤ 4096; omega) (pow_nn a)
    have := bfold_upto (rows := rows) (w := w) ps _ _ (a + 12) (fun x hx => hp x (by simp [hx])) (joined_poly hf pc) h1
    rw [List.length_cons, show a + 12 * (ps.length + 1) = a + 12 + 12 * ps.length by omega]
    exact this
theorem farFold_upto {w : Option Cell} : ∀ (cs : List Cell) (f : Int → Int) (a : Nat), Upto (2 ^ a) f → Upto (2 ^ (a + cs.length)) (cs.foldl (fun f c => farOp w c f) f)
  | [], f, a, h => h
  | c :: cs, f, a, h => by
    have h1 : Upto (2 ^ (a + 1)) (farOp w c f) := fun s => by
      have h2 := h s
      have h3 := h (s - 1)
      have hp := pow_nn a
      unfold farOp
      split
      · show 0 ≤ f (s - 1) ∧ f (s - 1) ≤ 2 ^ (a + 1)
        rw [Int.pow_succ]; omega
      · show 0 ≤ f s + f (s - 1) ∧ f s + f (s - 1) ≤ 2 ^ (a + 1)
        rw [Int.pow_succ]; omega
    have := farFold_upto (w := w) cs _ (a + 1) h1
    rw [List.length_cons, show a + (cs.length + 1) = a + 1 + cs.length by omega]
    exact this
theorem bstones_upto {rows : List Tx} (v : Vw rows) (hs : small rows = true) (w : Option Cell) (s : Int) : 0 ≤ igI (bstones rows w) s ∧ igI (bstones rows w) s < 2 ^ 480 := by
  have h1 : Upto (2 ^ (0 + 12 * (partsOf rows).length)) (igI (bparts rows w)) := bfold_upto _ _ 0 0 (small_iff.mp hs) poly0 fun s => by
    rw [ig0]
    dsimp only
    split
    · unfold b01; split <;> decide
    · decide
  have h2 := farFold_upto (w := w) (farOf rows) _ _ h1 s
  rw [← bstones_val v] at h2
  have h3 := parts_len v
  have h4 := far_len v
  refine ⟨h2.1, Int.lt_of_le_of_lt h2.2 ?_⟩
  have : (2 : Nat) ^ (0 + 12 * (partsOf rows).length + (farOf rows).length) < 2 ^ 480 := Nat.pow_lt_pow_right (by decide) (by omega)
  exact_mod_cast this
/-! common divisors -/
def gcdI (a b : Int) : Int := (Nat.gcd a.toNat b.toNat : Int)
theorem gcd_step {a b : Int} (ha : 0 ≤ a) (hb : 0 < b) : gcdI b (a % b) = gcdI a b := by
  unfold gcdI
  obtain ⟨m, rfl⟩ : ∃ m : Nat, a = (m : Int) := ⟨a.toNat, by omega⟩
  obtain ⟨n, rfl⟩ : ∃ n : Nat, b = (n : Int) := ⟨b.toNat, by omega⟩
  have e : ((m : Int) % (n : Int)).toNat = m % n := by
    rw [← Int.natCast_emod, Int.toNat_natCast]
  rw [e, Int.toNat_natCast, Int.toNat_natCast, Nat.gcd_comm n, ← Nat.gcd_rec, Nat.gcd_comm]
theorem gcd_zero {a : Int} (ha : 0 ≤ a) : gcdI a 0 = a := by
  unfold gcdI
  show ((Nat.gcd a.toNat 0 : Nat) : Int) = a
  rw [Nat.gcd_zero_right]; omega
theorem gcd_pos {a b : Int} (hb : 0 < b) : 0 < gcdI a b := by
  unfold gcdI
  have := Nat.gcd_pos_of_pos_right a.toNat (show 0 < b.toNat by omega)
  omega
theorem gcd_le {a b : Int} (hb : 0 < b) : gcdI a b ≤ b := by
  unfold gcdI
  have := Nat.gcd_le_right a.toNat (show 0 < b.toNat by omega)
  omega
theorem gcd_low {a b : Int} (ha : 0 ≤ a) (hb : 0 < b) : gcdI (a / gcdI a b) (b / gcdI a b) = 1 ∧ a / gcdI a b * b = b / gcdI a b * a ∧ 0 ≤ a / gcdI a b ∧ 0 < b / gcdI a b := by
  obtain ⟨m, rfl⟩ : ∃ m : Nat, a = (m : Int) := ⟨a.toNat, by omega⟩
  obtain ⟨n, rfl⟩ : ∃ n : Nat, b = (n : Int) := ⟨b.toNat, by omega⟩
  have hn : 0 < n := by omega
  have eg : gcdI (m : Int) (n : Int) = (Nat.gcd m n : Int) := rfl
  rw [eg]
  have hg := Nat.gcd_pos_of_pos_right m hn
  obtain ⟨x, hx⟩ := Nat.gcd_dvd_left m n
  obtain ⟨y, hy⟩ := Nat.gcd_dvd_right m n
  generalize hG : Nat.gcd m n = g at hg hx hy ⊢
  have e1 : (m : Int) / (g : Int) = (x : Int) := by rw [← Int.natCast_ediv, hx, Nat.mul_div_cancel_left _ hg]
  have e2 : (n : Int) / (g : Int) = (y : Int) := by rw [← Int.natCast_ediv, hy, Nat.mul_div_cancel_left _ hg]
  rw [e1, e2]
  have hxy : Nat.gcd x y = 1 := by
    have : g * Nat.gcd x y = g * 1 := by rw [← Nat.gcd_mul_left, ← hx, ← hy, hG, Nat.mul_one]
    exact Nat.eq_of_mul_eq_mul_left hg this
  refine ⟨by show ((Nat.gcd x y : Nat) : Int) = 1; rw [hxy]; rfl, ?_, by omega, ?_⟩
  · rw [hx, hy]
    push_cast
    rw [← Int.mul_assoc, ← Int.mul_assoc, Int.mul_comm (x : Int) (g : Int), Int.mul_comm (y : Int) (g : Int), Int.mul_assoc, Int.mul_assoc, Int.mul_comm (x : Int) (y : Int)]
  · have : y ≠ 0 := fun z => by subst z; simp at hy; omega
    omega
theorem log2_lt {i : Int} {k : Nat} (h0 : 0 ≤ i) (h : i < 2 ^ k) : i.natAbs.log2 < k ∨ i = 0 := by
  by_cases hz : i = 0
  · exact .inr hz
  · left
    rw [Nat.log2_lt (by omega)]
    have : (i.natAbs : Int) < 2 ^ k := by omega
    exact_mod_cast this
theorem log2_bd {i : Int} {k : Nat} (h0 : 0 ≤ i) (h : i < 2 ^ k) (hk : 0 < k) : i.natAbs.log2 < k := by
  rcases log2_lt h0 h with z | z
  · exact z
  · subst z; exact hk
/-! the views of k07, k08 -/
def more5 (cell : Int) (r : List Tx) : List Tx :=
  if cell / 2 % 3 = 1 then r ++ [⟨[48, 48, 48, 48, 48]⟩, ⟨[48, 48, 49, 48, 48]⟩] else if cell / 6 % 2 = 1 then [⟨[52, 35, 35, 35, 35]⟩, ⟨[35, 35, 35, 35, 35]⟩] ++ r else r
def wayMost (way : Int) : Int := ([4, 4, 4, 4, 4, 6] : List Int).getD way.toNat 0
def waySteps (way : Int) : Int := ([4, 4, 4, 4, 4, 2] : List Int).getD way.toNat 0
def rowsBy (ns : List Int) : List Tx := if cellAt ns 20 % 6 = 4 then more5 (cellAt ns 21) (rows5 (cellAt ns 21)) else wrongBy ns (viewBy ns (wayMost (cellAt ns 20 % 6)) (waySteps (cellAt ns 20 % 6))).1
def manyBy (ns : List Int) : Int := ((viewBy ns (wayMost (cellAt ns 20 % 6)) (waySteps (cellAt ns 20 % 6))).2.length : Int)
theorem way_bd (ns : List Int) : (0 ≤ cellAt ns 20 % 6 ∧ cellAt ns 20 % 6 < 6) ∧ (1 ≤ wayMost (cellAt ns 20 % 6) ∧ wayMost (cellAt ns 20 % 6) ≤ 6) ∧ 0 < waySteps (cellAt ns 20 % 6) ∧ waySteps (cellAt ns 20 % 6) ≤ 100 := by
  have m0 : 0 ≤ cellAt ns 20 % 6 ∧ cellAt ns 20 % 6 < 6 := ⟨Int.emod_nonneg _ (by decide), Int.emod_lt_of_pos _ (by decide)⟩
  refine ⟨m0, ?_, ?_⟩
  · have : ∀ j : Fin 6, 1 ≤ ([4, 4, 4, 4, 4, 6] : List Int).getD j.val 0 ∧ ([4, 4, 4, 4, 4, 6] : List Int).getD j.val 0 ≤ 6 := by decide
    exact this ⟨(cellAt ns 20 % 6).toNat, by omega⟩
  · have : ∀ j : Fin 6, 0 < ([4, 4, 4, 4, 4, 2] : List Int).getD j.val 0 ∧ ([4, 4, 4, 4, 4, 2] : List Int).getD j.val 0 ≤ 100 := by decide
    exact this ⟨(cellAt ns 20 % 6).toNat, by omega⟩
theorem row_ok {l : List Nat} {w : Nat} (h : l.length = w) (h2 : ∀ c ∈ l, c ∈ vsigns) : (⟨l⟩ : Tx).cs.length = w ∧ ∀ c ∈ (⟨l⟩ : Tx).cs, c ∈ vsigns := ⟨h, h2⟩
theorem more5_vw {cell : Int} {r : List Tx} (v : Vw r) (hl : r.length = 3) (hw : widthOf r = 5) : Vw (more5 cell r) := by
  obtain ⟨r0, rs, er⟩ : ∃ r0 rs, r = r0 :: rs := by
    cases r with
    | nil => simp at hl
    | cons r0 rs => exact ⟨r0, rs, rfl⟩
  unfold more5
  split
  · have hw2 : widthOf (r ++ [⟨[48, 48, 48, 48, 48]⟩, ⟨[48, 48, 49, 48, 48]⟩]) = 5 := by subst er; exact hw
    refine ⟨by rw [List.length_append]; omega, by rw [List.length_append, hl]; decide, by omega, by omega, fun row hr => ?_⟩
    rw [hw2]
    rcases List.mem_append.mp hr with h | h
    · rw [← hw]; exact v.row row h
    · simp only [List.mem_cons, List.not_mem_nil, or_false] at h
      rcases h with rfl | rfl <;> exact ⟨rfl, by decide⟩
  · split
    · refine ⟨by simp, by rw [List.length_append, hl]; decide, by show 1 ≤ 5; decide, by show 5 ≤ 6; decide, fun row hr => ?_⟩
      show row.cs.length = 5 ∧ _
      rcases List.mem_append.mp hr with h | h
      · simp only [List.mem_cons, List.not_mem_nil, or_false] at h
        rcases h with rfl | rfl <;> exact ⟨rfl, by decide⟩
      · rw [← hw]; exact v.row row h
    · exact v
theorem rowsBy_vw {ns : List Int} : Vw (rowsBy ns) := by
  unfold rowsBy
  split
  · exact more5_vw rows5_vw rfl rfl
  · exact wrongBy_vw (viewBy_vw (way_bd ns).2.1)
def chRet (C : Cs) (rows : List Tx) (k : Int) (c : Cell) : L2.Hp → L2.Hp → L2.VK → L2.XK → Prop :=
  if c ∈ closedOf rows then (if small rows = true then (if igI (bstones rows none) k = 0 then retX C.Impossible else retV (rp ((igI (bstones rows (some c)) k / gcdI (igI (bstones rows (some c)) k) (igI (bstones rows none) k), igI (bstones rows none) k / gcdI (igI (bstones rows (some c)) k) (igI (bstones rows none) k)) : Int × Int))) else retX C.TooGreat) else retX C.NoCell
end DF

namespace DF
open R (rp)
open Dt (toD)
/-! ### k08: what is sure -/
def canB (rows : List Tx) : Bool := idleB rows && (partsOf rows).all fun p => !(playings rows p).isEmpty
/-- the refusals that all share -/
def alR (C : Cs) (rows : List Tx) (c : Cell) (r : L2.Hp → L2.Hp → L2.VK → L2.XK → Prop) : L2.Hp → L2.Hp → L2.VK → L2.XK → Prop :=
  if c ∈ closedOf rows then (if small rows = true then (if canB rows = true then r else retX C.Impossible) else retX C.TooGreat) else retX C.NoCell
theorem alR_no {C : Cs} {rows : List Tx} {c : Cell} {r} (h : ¬ c ∈ closedOf rows) : alR C rows c r = retX C.NoCell := if_neg h
theorem alR_big {C : Cs} {rows : List Tx} {c : Cell} {r} (h : c ∈ closedOf rows) (h2 : ¬ small rows = true) : alR C rows c r = retX C.TooGreat := by unfold alR; rw [if_pos h, if_neg h2]
theorem alR_imp {C : Cs} {rows : List Tx} {c : Cell} {r} (h : c ∈ closedOf rows) (h2 : small rows = true) (h3 : ¬ canB rows = true) : alR C rows c r = retX C.Impossible := by unfold alR; rw [if_pos h, if_pos h2, if_neg h3]
theorem alR_ok {C : Cs} {rows : List Tx} {c : Cell} {r} (h : c ∈ closedOf rows) (h2 : small rows = true) (h3 : canB rows = true) : alR C rows c r = r := by unfold alR; rw [if_pos h, if_pos h2, if_pos h3]
/-- what a call meets: one of the three refusals, or none -/
theorem al_cases (C : Cs) (rows : List Tx) (c : Cell) : (∃ D, (D = C.NoCell ∨ D = C.TooGreat ∨ D = C.Impossible) ∧ ∀ r, alR C rows c r = retX D) ∨ ((c ∈ closedOf rows ∧ small rows = true ∧ canB rows = true) ∧ ∀ r, alR C rows c r = r) := by
  by_cases h1 : c ∈ closedOf rows
  · by_cases h2 : small rows = true
    · by_cases h3 : canB rows = true
      · exact .inr ⟨⟨h1, h2, h3⟩, fun r => alR_ok h1 h2 h3⟩
      · exact .inl ⟨_, .inr (.inr rfl), fun r => alR_imp h1 h2 h3⟩
    · exact .inl ⟨_, .inr (.inl rfl), fun r => alR_big h1 h2⟩
  · exact .inl ⟨_, .inl rfl, fun r => alR_no h1⟩
def laysOf (rows : List Tx) : List (List (List Cell)) := (partsOf rows).map (playings rows)
theorem canB_eq {rows : List Tx} : canB rows = (idleB rows && !decide (([] : List (List Cell)) ∈ laysOf rows)) := by
  unfold canB
  congr 1
  rw [Bool.eq_iff_iff, List.all_eq_true, Bool.not_eq_true', decide_eq_false_iff_not]
  unfold laysOf
  constructor
  · intro h hm
    obtain ⟨p, hp, e⟩ := List.mem_map.mp hm
    have := h p hp
    rw [e] at this
    cases this
  · intro h p hp
    cases e : playings rows p with
    | nil => exact absurd (List.mem_map.mpr ⟨p, hp, e⟩) h
    | cons => rfl
theorem can_lay {rows : List Tx} (h : canB rows = true) {p : List Cell} (hp : p ∈ partsOf rows) : 0 < (playings rows p).length := by
  unfold canB at h
  rw [Bool.and_eq_true, List.all_eq_true] at h
  have := h.2 p hp
  cases e : playings rows p with
  | nil => rw [e] at this; cases this
  | cons => simp
def kindsF (rows : List Tx) (c : Cell) (ps : List (List Cell)) : List (List Cell) × List (List Cell) := match ps.find? (fun p => decide (c ∈ p)) with
  | some p => ((playings rows p).filter (fun r => !decide (c ∈ r)), (playings rows p).filter (fun r => decide (c ∈ r)))
  | none => ([[]], [[c]])
/-- the layings of a cell's part without it, and those with it -/
def kindsOf (rows : List Tx) (c : Cell) : List (List Cell) × List (List Cell) := kindsF rows c (partsOf rows)
theorem kindsF_yes {rows : List Tx} {c : Cell} {p : List Cell} {ps : List (List Cell)} (h : c ∈ p) : kindsF rows c (p :: ps) = ((playings rows p).filter (fun r => !decide (c ∈ r)), (playings rows p).filter (fun r => decide (c ∈ r))) := by
  unfold kindsF
  rw [List.find?_cons_of_pos (p := fun p => decide (c ∈ p)) (decide_eq_true h)]
theorem kindsF_no {rows : List Tx} {c : Cell} {p : List Cell} {ps : List (List Cell)} (h : ¬ c ∈ p) : kindsF rows c (p :: ps) = kindsF rows c ps := by
  unfold kindsF
  rw [List.find?_cons_of_neg (p := fun p => decide (c ∈ p)) (by simpa using h)]
def txStone : Tx := ⟨[115, 116, 111, 110, 101]⟩
def txNone : Tx := ⟨[110, 111, 110, 101]⟩
def txOpen : Tx := ⟨[111, 112, 101, 110]⟩
def kindT (k : List (List Cell) × List (List Cell)) : Tx := if k.1.length = 0 then txStone else if k.2.length = 0 then txNone else txOpen
/-- the rest of what is shown: the first laying of each other part -/
def restOf (rows : List Tx) (c : Cell) (ps : List (List Cell)) : List Cell := (ps.filter fun p => !decide (c ∈ p)).flatMap fun p => (playings rows p).getD 0 []
def showA (rows : List Tx) (c : Cell) : List Cell := psort (restOf rows c (partsOf rows) ++ (kindsOf rows c).1.getD 0 [])
def showB (rows : List Tx) (c : Cell) : List Cell := psort (restOf rows c (partsOf rows) ++ (kindsOf rows c).2.getD 0 [])
def shR (C : Cs) (rows : List Tx) (c : Cell) : L2.Hp → L2.Hp → L2.VK → L2.XK → Prop :=
  alR C rows c (if kindT (kindsOf rows c) = txOpen then retP2 (lsO (showA rows c)) (lsO (showB rows c)) else retX C.NotOpen)
theorem kindT_open {k : List (List Cell) × List (List Cell)} : kindT k = txOpen ↔ 0 < k.1.length ∧ 0 < k.2.length := by
  unfold kindT
  split
  · constructor
    · intro h; cases h
    · intro h; omega
  · split
    · constructor
      · intro h; cases h
      · intro h; omega
    · exact ⟨fun _ => ⟨by omega, by omega⟩, fun _ => rfl⟩
/-- the walk over parts and their layings at once -/
def pl (rows : List Tx) (p : List Cell) : List Cell × List (List Cell) := (p, playings rows p)
theorem zip_pl {rows : List Tx} : (partsOf rows).zip (laysOf rows) = (partsOf rows).map (pl rows) := by
  unfold laysOf
  rw [List.zip_map_right]
  induction partsOf rows with
  | nil => rfl
  | cons p ps ih => rw [List.zip_cons_cons, List.map_cons, List.map_cons, ih]; rfl
theorem map_step {α β : Type} {f : α → β} {x : β} {ys : List β} : ∀ {ps : List α}, x :: ys = ps.map f → ∃ p ps', ps = p :: ps' ∧ x = f p ∧ ys = ps'.map f
  | [], h => by cases h
  | p :: ps', h => by
    obtain ⟨h1, h2⟩ := List.cons.inj h
    exact ⟨p, ps', rfl, h1, h2⟩
theorem kinds_len {rows : List Tx} (v : Vw rows) (hs : small rows = true) (c : Cell) : (kindsOf rows c).1.length ≤ 4096 ∧ (kindsOf rows c).2.length ≤ 4096 ∧ (∀ r ∈ (kindsOf rows c).1, r.length ≤ 12) ∧ (∀ r ∈ (kindsOf rows c).2, r.length ≤ 12) := by
  unfold kindsOf kindsF
  cases h : (partsOf rows).find? (fun p => decide (c ∈ p)) with
  | none =>
    refine ⟨by simp, by simp, ?_, ?_⟩ <;> intro r hr <;> simp at hr <;> subst hr <;> simp
  | some p =>
    have hp := List.mem_of_find?_eq_some h
    have h12 := small_iff.mp hs p hp
    have hl := playings_len (rows := rows) h12
    refine ⟨Nat.le_trans (List.length_filter_le _ _) hl, Nat.le_trans (List.length_filter_le _ _) hl, fun r hr => ?_, fun r hr => ?_⟩ <;>
      exact Nat.le_trans (playings_sub (List.mem_filter.mp hr).1).length_le h12
theorem kind_ix {lays : List (List Cell)} {c : Cell} (h : 0 < lays.length) : L2.atI [txOpen, txStone, txNone] ((if (lays.map fun r => decide (c ∈ r)).all (fun k => k) then 1 else 0 : Int) + 2 * (if (!decide (true ∈ lays.map fun r => decide (c ∈ r))) then 1 else 0 : Int)) = some (kindT (lays.filter (fun r => !decide (c ∈ r)), lays.filter (fun r => decide (c ∈ r)))) := by
  have e1 : (lays.map fun r => decide (c ∈ r)).all (fun k => k) = decide ((lays.filter (fun r => !decide (c ∈ r))).length = 0) := by
    rw [Bool.eq_iff_iff, decide_eq_true_iff, List.length_eq_zero_iff, List.filter_eq_nil_iff, List.all_eq_true]
    constructor
    · intro q r hr z
      have := q _ (List.mem_map.mpr ⟨r, hr, rfl⟩)
      rw [this] at z; cases z
    · intro q b hb
      obtain ⟨r, hr, rfl⟩ := List.mem_map.mp hb
      have := q r hr
      simpa using this
  have e2 : (!decide (true ∈ lays.map fun r => decide (c ∈ r))) = decide ((lays.filter (fun r => decide (c ∈ r))).length = 0) := by
    rw [Bool.eq_iff_iff, decide_eq_true_iff, List.length_eq_zero_iff, List.filter_eq_nil_iff, Bool.not_eq_true', decide_eq_false_iff_not]
    constructor
    · intro q r hr z
      exact q (List.mem_map.mpr ⟨r, hr, z⟩)
    · intro q hb
      obtain ⟨r, hr, e⟩ := List.mem_map.mp hb
      exact q r hr e
  rw [e1, e2]
  have hsum : lays.length = (lays.filter (fun r => !decide (c ∈ r))).length + (lays.filter (fun r => decide (c ∈ r))).length := by
    clear e1 e2 h
    induction lays with
    | nil => rfl
    | cons r l ih =>
      rw [List.length_cons, ih, List.filter_cons, List.filter_cons]
      by_cases q : c ∈ r
      · rw [decide_eq_true q, if_neg (by decide), if_pos rfl, List.length_cons]; omega
      · rw [decide_eq_false q, if_pos (show (!false) = true from rfl), if_neg (by decide), List.length_cons]; omega
  unfold kindT
  simp only
  generalize (lays.filter (fun r => !decide (c ∈ r))).length = a at hsum
  generalize (lays.filter (fun r => decide (c ∈ r))).length = b at hsum
  by_cases ha : a = 0
  · have hb : ¬ b = 0 := by omega
    rw [decide_eq_true ha, decide_eq_false hb, if_pos ha]; rfl
  · by_cases hb : b = 0
    · rw [decide_eq_false ha, decide_eq_true hb, if_neg ha, if_pos hb]; rfl
    · rw [decide_eq_false ha, decide_eq_false hb, if_neg ha, if_neg hb]; rfl
theorem due_can {rows : List Tx} (v : Vw rows) : (!lidle rows || decide ((0 : Int) ∈ (lgroups rows).map fun p => ((llayings rows p).length : Int))) = !canB rows := by
  rw [canB_eq, Bool.not_and, Bool.not_not, idle_eq v]
  congr 1
  rw [decide_eq_decide]
  unfold laysOf
  rw [← parts_eq v]
  constructor
  · intro h
    obtain ⟨p, hp, e⟩ := List.mem_map.mp h
    have e2 := playings_eq v (parts_ok v p hp).1 (parts_ok v p hp).2
    refine List.mem_map.mpr ⟨p, hp, ?_⟩
    rw [e2]
    exact List.length_eq_zero_iff.mp (by omega)
  · intro h
    obtain ⟨p, hp, e⟩ := List.mem_map.mp h
    have e2 := playings_eq v (parts_ok v p hp).1 (parts_ok v p hp).2
    refine List.mem_map.mpr ⟨p, hp, ?_⟩
    rw [← e2, e]; rfl
def mixM (n : Int) : MP := obM (lsM [rp n, rp true])
/-- what the law says is due -/
def dueMP (rows : List Tx) (c : Cell) : MP := if c ∈ closedOf rows then (if small rows = true then (if canB rows = true then rp (kindT (kindsOf rows c)) else mixM 3) else mixM 2) else mixM 1
/-- what is shown -/
def shMP (rows : List Tx) (c : Cell) : MP := if c ∈ closedOf rows then (if small rows = true then (if canB rows = true then (if kindT (kindsOf rows c) = txOpen then rp ((showA rows c, showB rows c) : List Cell × List Cell) else mixM 4) else mixM 3) else mixM 2) else mixM 1
theorem du_cases (C : Cs) (rows : List Tx) (c : Cell) : (∃ D n, (D, n) ∈ [(C.NoCell, (1 : Int)), (C.TooGreat, 2), (C.Impossible, 3)] ∧ (∀ r, alR C rows c r = retX D) ∧ dueMP rows c = mixM n ∧ shMP rows c = mixM n) ∨ ((c ∈ closedOf rows ∧ small rows = true ∧ canB rows = true) ∧ (∀ r, alR C rows c r = r) ∧ dueMP rows c = rp (kindT (kindsOf rows c)) ∧ shMP rows c = if kindT (kindsOf rows c) = txOpen then rp ((showA rows c, showB rows c) : List Cell × List Cell) else mixM 4) := by
  by_cases h1 : c ∈ closedOf rows
  · by_cases h2 : small rows = true
    · by_cases h3 : canB rows = true
      · exact .inr ⟨⟨h1, h2, h3⟩, fun r => alR_ok h1 h2 h3, by unfold dueMP; rw [if_pos h1, if_pos h2, if_pos h3], by unfold shMP; rw [if_pos h1, if_pos h2, if_pos h3]⟩
      · exact .inl ⟨_, 3, by simp, fun r => alR_imp h1 h2 h3, by unfold dueMP; rw [if_pos h1, if_pos h2, if_neg h3], by unfold shMP; rw [if_pos h1, if_pos h2, if_neg h3]⟩
    · exact .inl ⟨_, 2, by simp, fun r => alR_big h1 h2, by unfold dueMP; rw [if_pos h1, if_neg h2], by unfold shMP; rw [if_pos h1, if_neg h2]⟩
  · exact .inl ⟨_, 1, by simp, fun r => alR_no h1, if_neg h1, if_neg h1⟩
theorem kindT_three (k : List (List Cell) × List (List Cell)) : kindT k = txStone ∨ kindT k = txNone ∨ kindT k = txOpen := by
  unfold kindT
  split
  · exact .inl rfl
  · split
    · exact .inr (.inl rfl)
    · exact .inr (.inr rfl)
end DF

namespace DF
open R (rp)
open Dt (toD)
/-! ### layings of a whole view, part by part -/
theorem part_grp {rows : List Tx} {p : List Cell} : p ∈ lgroups rows ↔ ∃ c ∈ ledge rows, p = grp rows (labF rows c) := by
  unfold lgroups
  rw [List.mem_map]
  constructor
  · rintro ⟨k, hk, rfl⟩
    obtain ⟨c, hc, rfl⟩ := List.mem_map.mp (mem_dsort.mp hk)
    exact ⟨c, hc, rfl⟩
  · rintro ⟨c, hc, rfl⟩
    exact ⟨labF rows c, mem_dsort.mpr (List.mem_map.mpr ⟨c, hc, rfl⟩), rfl⟩
theorem mem_grp {rows : List Tx} {k : Int} {x : Cell} : x ∈ grp rows k ↔ x ∈ ledge rows ∧ labF rows x = k := by
  unfold grp
  rw [List.mem_filter, decide_eq_true_iff]
theorem part_of_edge {rows : List Tx} (v : Vw rows) {c : Cell} (hc : c ∈ ledge rows) : ∃ p ∈ partsOf rows, c ∈ p := by
  rw [parts_eq v]
  exact ⟨grp rows (labF rows c), part_grp.mpr ⟨c, hc, rfl⟩, mem_grp.mpr ⟨hc, rfl⟩⟩
theorem part_edge {rows : List Tx} (v : Vw rows) {p : List Cell} (hp : p ∈ partsOf rows) {c : Cell} (h : c ∈ p) : c ∈ ledge rows := (part_mem v hp).2.1 c h
theorem part_one {rows : List Tx} (v : Vw rows) {p q : List Cell} (hp : p ∈ partsOf rows) (hq : q ∈ partsOf rows) {c : Cell} (h1 : c ∈ p) (h2 : c ∈ q) : p = q := by
  rw [parts_eq v] at hp hq
  obtain ⟨a, _, rfl⟩ := part_grp.mp hp
  obtain ⟨b, _, rfl⟩ := part_grp.mp hq
  rw [← (mem_grp.mp h1).2, (mem_grp.mp h2).2]
theorem part_ne {rows : List Tx} (v : Vw rows) {p : List Cell} (hp : p ∈ partsOf rows) : p ≠ [] := by
  rw [parts_eq v] at hp
  obtain ⟨a, ha, rfl⟩ := part_grp.mp hp
  exact List.ne_nil_of_mem (mem_grp.mpr ⟨ha, rfl⟩)
theorem parts_dis {rows : List Tx} (v : Vw rows) : (partsOf rows).Pairwise fun p q => ∀ x ∈ p, ∀ y ∈ q, x ≠ y := by
  rw [parts_eq v]
  unfold lgroups
  rw [List.pairwise_map]
  refine (dsort_srt _).imp fun {a b} hab x hx y hy e => ?_
  subst e
  have h1 := of_decide_eq_true (List.mem_filter.mp hx).2
  have h2 := of_decide_eq_true (List.mem_filter.mp hy).2
  omega
theorem open_of {rows : List Tx} (v : Vw rows) {o : Cell} : o ∈ lopen rows ↔ inF (hOf rows) (wOf rows) o = true ∧ hid rows o = false := mem_lopen v
theorem edge_of {rows : List Tx} (v : Vw rows) {x o : Cell} (hx : x ∈ closedOf rows) (ho : o ∈ lopen rows) (hn : nearB o x = true) : x ∈ ledge rows := (mem_edge v).mpr ⟨(mem_closed v).mp hx, o, ho, hn⟩
theorem part_join {rows : List Tx} (v : Vw rows) {p : List Cell} (hp : p ∈ partsOf rows) {a b o : Cell} (ha : a ∈ p) (hb : b ∈ closedOf rows) (ho : o ∈ lopen rows) (na : nearB o a = true) (nb : nearB o b = true) : b ∈ p := by
  have hbe := edge_of v hb ho nb
  have hae := part_edge v hp ha
  rw [parts_eq v] at hp
  obtain ⟨c, hc, rfl⟩ := part_grp.mp hp
  refine mem_grp.mpr ⟨hbe, ?_⟩
  rw [← (mem_grp.mp ha).2]
  exact ((lab_end v).iff b hbe a hae).mpr (Cn.one ho nb na hbe hae)
theorem edge_far {rows : List Tx} (v : Vw rows) {c : Cell} (hc : c ∈ closedOf rows) (h : ∀ p ∈ partsOf rows, c ∉ p) : c ∈ farOf rows := by
  unfold farOf
  refine List.mem_filter.mpr ⟨hc, ?_⟩
  rw [Bool.not_eq_true', ← Bool.not_eq_true]
  intro he
  have : c ∈ ledge rows := by rw [ledge_eq v]; exact List.mem_filter.mpr ⟨hc, he⟩
  obtain ⟨p, hp, hcp⟩ := part_of_edge v this
  exact h p hp hcp
theorem far_part {rows : List Tx} (v : Vw rows) {c : Cell} (hc : c ∈ farOf rows) {p : List Cell} (hp : p ∈ partsOf rows) : c ∉ p := fun h => by
  have h1 := part_edge v hp h
  rw [ledge_eq v] at h1
  have h2 := (List.mem_filter.mp h1).2
  have h3 := (List.mem_filter.mp hc).2
  rw [h2] at h3; cases h3
theorem far_closed {rows : List Tx} {c : Cell} (hc : c ∈ farOf rows) : c ∈ closedOf rows := (List.mem_filter.mp hc).1
theorem part_closed {rows : List Tx} (v : Vw rows) {p : List Cell} (hp : p ∈ partsOf rows) {c : Cell} (h : c ∈ p) : c ∈ closedOf rows := (mem_closed v).mpr ((mem_edge v).mp (part_edge v hp h)).1
/-- the figures of the open cells near p are met -/
def Exact (rows : List Tx) (p r : List Cell) : Prop := ∀ o ∈ openN rows p, cntIn rows o r = figN rows o
theorem cntIn_app {rows : List Tx} {o : Cell} {a b : List Cell} : cntIn rows o (a ++ b) = cntIn rows o a + cntIn rows o b := by
  unfold cntIn; rw [List.filter_append, List.length_append]
theorem cntIn_sub {rows : List Tx} {o : Cell} {a b : List Cell} (h : a.Sublist b) : cntIn rows o a ≤ cntIn rows o b := (h.filter _).length_le
theorem cntIn_nil {rows : List Tx} {o : Cell} : cntIn rows o [] = 0 := rfl
theorem still_end {rows : List Tx} {told r : List Cell} : stillB rows told r [] = true ↔ ∀ o ∈ told, cntIn rows o r = figN rows o := by
  unfold stillB fitsB
  rw [List.all_eq_true]
  refine forall_congr' fun o => forall_congr' fun _ => ?_
  rw [cntIn_nil, Bool.and_eq_true, decide_eq_true_iff, decide_eq_true_iff]
  omega
theorem layGo_out {rows : List Tx} {told r : List Cell} : ∀ {left : List Cell} {rws : List (List Cell)}, left ≠ [] → r ∈ layGo rows told left rws → ∀ o ∈ told, cntIn rows o r = figN rows o
  | [], _, h, _ => absurd rfl h
  | [c], rws, _, h => by
    have h : r ∈ layStep rows told c [] rws := h
    unfold layStep at h
    obtain ⟨r0, _, h1⟩ := List.mem_flatMap.mp h
    exact still_end.mp (List.mem_filter.mp h1).2
  | c :: d :: left, rws, _, h => layGo_out (left := d :: left) (by simp) h
theorem still_of {rows : List Tx} {told r1 r2 left : List Cell} (h : ∀ o ∈ told, cntIn rows o (r1 ++ r2) = figN rows o) (s : r2.Sublist left) : stillB rows told r1 left = true := by
  unfold stillB fitsB
  rw [List.all_eq_true]
  intro o ho
  have h1 := h o ho
  rw [cntIn_app] at h1
  have h2 := cntIn_sub (rows := rows) (o := o) s
  rw [Bool.and_eq_true, decide_eq_true_iff, decide_eq_true_iff]
  omega
theorem layGo_in {rows : List Tx} {told : List Cell} : ∀ {left : List Cell} {rws : List (List Cell)} {r1 r2 : List Cell}, r1 ∈ rws → r2.Sublist left → (∀ o ∈ told, cntIn rows o (r1 ++ r2) = figN rows o) → r1 ++ r2 ∈ layGo rows told left rws
  | [], rws, r1, r2, h1, h2, _ => by
    have : r2 = [] := List.sublist_nil.mp h2
    subst this
    rw [List.append_nil]; exact h1
  | c :: left, rws, r1, r2, h1, h2, h3 => by
    show r1 ++ r2 ∈ layGo rows told left (layStep rows told c left rws)
    cases h2 with
    | cons _ s =>
      refine layGo_in ?_ s h3
      unfold layStep
      exact List.mem_flatMap.mpr ⟨r1, h1, List.mem_filter.mpr ⟨by simp, still_of h3 s⟩⟩
    | cons_cons _ s =>
      rename_i r2
      rw [show r1 ++ c :: r2 = (r1 ++ [c]) ++ r2 by simp] at h3 ⊢
      refine layGo_in ?_ s h3
      unfold layStep
      exact List.mem_flatMap.mpr ⟨r1, h1, List.mem_filter.mpr ⟨by simp, still_of h3 s⟩⟩
theorem mem_playings {rows : List Tx} {p r : List Cell} (hne : p ≠ []) : r ∈ playings rows p ↔ r.Sublist p ∧ Exact rows p r := by
  constructor
  · intro h
    refine ⟨playings_sub h, ?_⟩
    have h : r ∈ layRaw rows p := (rsort_perm _).mem_iff.mp h
    exact layGo_out hne h
  · rintro ⟨s, h⟩
    refine (rsort_perm _).mem_iff.mpr ?_
    exact layGo_in (r1 := []) (r2 := r) (by simp) s h
/-- what of a laying lies in a part -/
def restr (p L : List Cell) : List Cell := p.filter fun x => decide (x ∈ L)
theorem mem_restr {p L : List Cell} {x : Cell} : x ∈ restr p L ↔ x ∈ p ∧ x ∈ L := by
  unfold restr
  rw [List.mem_filter, decide_eq_true_iff]
theorem near_part {rows : List Tx} (v : Vw rows) {p L : List Cell} (hp : p ∈ partsOf rows) (hL : ∀ x ∈ L, x ∈ closedOf rows) {o : Cell} (ho : o ∈ openN rows p) : cntIn rows o (restr p L) = nearIn rows L o := by
  obtain ⟨a, ha, h1, h2⟩ := (mem_openN v).mp ho
  have h1 := (mem_around v.dim).mp h1
  have hol : o ∈ lopen rows := (mem_lopen v).mpr ⟨h1.1, h2⟩
  unfold cntIn nearIn restr
  refine cnt_same (((srt_nd (part_mem v hp).1).sublist List.filter_sublist).sublist List.filter_sublist) ((around_nd v.dim).sublist List.filter_sublist) fun x => ?_
  simp only [List.mem_filter, decide_eq_true_eq]
  constructor
  · rintro ⟨⟨_, b⟩, c⟩; exact ⟨c, b⟩
  · rintro ⟨c, b⟩
    exact ⟨⟨part_join v hp ha (hL x b) hol (by rw [near_sym]; exact h1.2) ((mem_around v.dim).mp c).2, b⟩, c⟩
theorem keeps_iff {rows : List Tx} (v : Vw rows) {L : List Cell} (hL : ∀ x ∈ L, x ∈ closedOf rows) : keepsB rows L = true ↔ idleB rows = true ∧ ∀ p ∈ partsOf rows, restr p L ∈ playings rows p := by
  have none : ∀ o, inF (hOf rows) (wOf rows) o = true → hid rows o = false → o ∉ openN rows (closedOf rows) → nearIn rows L o = 0 := fun o h1 h2 h3 => by
    unfold nearIn
    rw [List.length_eq_zero_iff, List.filter_eq_nil_iff]
    intro y hy hyL
    have hyL := of_decide_eq_true hyL
    refine h3 ((mem_openN v).mpr ⟨y, hL y hyL, (mem_around v.dim).mpr ⟨h1, ?_⟩, h2⟩)
    rw [near_sym]; exact ((mem_around v.dim).mp hy).2
  unfold keepsB
  rw [List.all_eq_true]
  constructor
  · intro h
    refine ⟨?_, fun p hp => (mem_playings (part_ne v hp)).mpr ⟨List.filter_sublist, fun o ho => ?_⟩⟩
    · unfold idleB
      rw [List.all_eq_true]
      intro o ho
      have hin := (inF_cells v.dim).mpr ho
      have := h o ho
      unfold fitB at this
      unfold idleC
      cases hh : hid rows o with
      | true => rfl
      | false =>
        have hnc : o ∉ closedOf rows := fun z => by
          have := ((mem_closed v).mp z).2
          rw [hh] at this; cases this
        rw [decide_eq_false hnc, Bool.false_or, decide_eq_true_iff] at this
        by_cases ht : o ∈ openN rows (closedOf rows)
        · rw [decide_eq_true ht]; rfl
        · rw [none o hin hh ht] at this
          rw [decide_eq_true this.symm, decide_eq_false ht]; rfl
    · rw [near_part v hp hL ho]
      obtain ⟨a, ha, h1, h2⟩ := (mem_openN v).mp ho
      have hin := ((mem_around v.dim).mp h1).1
      have := h o ((inF_cells v.dim).mp hin)
      unfold fitB at this
      have hnc : o ∉ closedOf rows := fun z => by
        have := ((mem_closed v).mp z).2
        rw [h2] at this; cases this
      rw [decide_eq_false hnc, Bool.false_or, decide_eq_true_iff] at this
      exact this
  · rintro ⟨hi, h⟩ o ho
    have hin := (inF_cells v.dim).mpr ho
    unfold fitB
    cases hh : hid rows o with
    | true => rw [decide_eq_true ((mem_closed v).mpr ⟨hin, hh⟩)]; rfl
    | false =>
      rw [Bool.or_eq_true]
      right
      rw [decide_eq_true_iff]
      by_cases ht : o ∈ openN rows (closedOf rows)
      · obtain ⟨a, ha, h1, h2⟩ := (mem_openN v).mp ht
        have h1 := (mem_around v.dim).mp h1
        have hol : o ∈ lopen rows := (mem_lopen v).mpr ⟨hin, hh⟩
        have hae := edge_of v ha hol (by rw [near_sym]; exact h1.2)
        obtain ⟨p, hp, hap⟩ := part_of_edge v hae
        have hop : o ∈ openN rows p := (mem_openN v).mpr ⟨a, hap, (mem_around v.dim).mpr h1, h2⟩
        rw [← near_part v hp hL hop]
        exact ((mem_playings (part_ne v hp)).mp (h p hp)).2 o hop
      · rw [none o hin hh ht]
        unfold idleB at hi
        have := List.all_eq_true.mp hi o ho
        unfold idleC at this
        rw [hh, decide_eq_false ht] at this
        simp only [Bool.not_false, Bool.true_and, Bool.not_not, decide_eq_true_eq] at this
        exact this.symm
/-! laid together from rows of the parts -/
structure Laid (rows : List Tx) (ch : List Cell → List Cell) (far L : List Cell) : Prop where
  sub : ∀ p ∈ partsOf rows, (ch p).Sublist p
  fr : ∀ x ∈ far, x ∈ farOf rows
  mem : ∀ x, x ∈ L ↔ (∃ p ∈ partsOf rows, x ∈ ch p) ∨ x ∈ far
theorem Laid.restr {rows : List Tx} (v : Vw rows) {ch : List Cell → List Cell} {far L : List Cell} (h : Laid rows ch far L) {p : List Cell} (hp : p ∈ partsOf rows) : restr p L = ch p := by
  refine srt_ext (srt_filter (part_mem v hp).1) ((part_mem v hp).1.sublist (h.sub p hp)) fun x => ?_
  show x ∈ DF.restr p L ↔ _
  rw [mem_restr]
  constructor
  · rintro ⟨h1, h2⟩
    rcases (h.mem x).mp h2 with ⟨q, hq, hx⟩ | hx
    · rw [part_one v hp hq h1 ((h.sub q hq).subset hx)]; exact hx
    · exact absurd h1 (far_part v (h.fr x hx) hp)
  · intro hx
    exact ⟨(h.sub p hp).subset hx, (h.mem x).mpr (.inl ⟨p, hp, hx⟩)⟩
theorem Laid.closed {rows : List Tx} (v : Vw rows) {ch : List Cell → List Cell} {far L : List Cell} (h : Laid rows ch far L) : ∀ x ∈ L, x ∈ closedOf rows := fun x hx => by
  rcases (h.mem x).mp hx with ⟨q, hq, hx⟩ | hx
  · exact part_closed v hq ((h.sub q hq).subset hx)
  · exact far_closed (h.fr x hx)
theorem Laid.keeps {rows : List Tx} (v : Vw rows) {ch : List Cell → List Cell} {far L : List Cell} (h : Laid rows ch far L) (hi : idleB rows = true) (hc : ∀ p ∈ partsOf rows, ch p ∈ playings rows p) : keepsB rows L = true :=
  (keeps_iff v (h.closed v)).mpr ⟨hi, fun p hp => by rw [h.restr v hp]; exact hc p hp⟩
/-! kinds -/
theorem find_part {rows : List Tx} (v : Vw rows) {c : Cell} {p : List Cell} (hp : p ∈ partsOf rows) (h : c ∈ p) : (partsOf rows).find? (fun p => decide (c ∈ p)) = some p := by
  cases hf : (partsOf rows).find? (fun p => decide (c ∈ p)) with
  | none => exact absurd h (by simpa using List.find?_eq_none.mp hf p hp)
  | some q => rw [part_one v hp (List.mem_of_find?_eq_some hf) h (by simpa using List.find?_some hf)]
theorem kinds_part {rows : List Tx} (v : Vw rows) {c : Cell} {p : List Cell} (hp : p ∈ partsOf rows) (h : c ∈ p) : kindsOf rows c = ((playings rows p).filter (fun r => !decide (c ∈ r)), (playings rows p).filter (fun r => decide (c ∈ r))) := by
  unfold kindsOf kindsF
  rw [find_part v hp h]
theorem kinds_far {rows : List Tx} {c : Cell} (h : ∀ p ∈ partsOf rows, c ∉ p) : kindsOf rows c = ([[]], [[c]]) := by
  unfold kindsOf kindsF
  rw [List.find?_eq_none.mpr (fun p hp => by simpa using h p hp)]
theorem kind_stone {rows : List Tx} (v : Vw rows) {c : Cell} : kindT (kindsOf rows c) = txStone ↔ ∃ p ∈ partsOf rows, c ∈ p ∧ ∀ r ∈ playings rows p, c ∈ r := by
  by_cases h : ∃ p ∈ partsOf rows, c ∈ p
  · obtain ⟨p, hp, hc⟩ := h
    rw [kinds_part v hp hc]
    have key : kindT ((playings rows p).filter (fun r => !decide (c ∈ r)), (playings rows p).filter (fun r => decide (c ∈ r))) = txStone ↔ ((playings rows p).filter (fun r => !decide (c ∈ r))).length = 0 := by
      unfold kindT
      constructor
      · intro h
        split at h
        · assumption
        · split at h <;> cases h
      · intro h; rw [if_pos h]
    rw [key, List.length_eq_zero_iff, List.filter_eq_nil_iff]
    constructor
    · intro h
      exact ⟨p, hp, hc, fun r hr => by simpa using h r hr⟩
    · rintro ⟨q, hq, hcq, h⟩ r hr
      rw [← part_one v hp hq hc hcq] at h
      simpa using h r hr
  · have hn : ∀ p ∈ partsOf rows, c ∉ p := fun p hp hc => h ⟨p, hp, hc⟩
    rw [kinds_far hn]
    constructor
    · intro z; cases z
    · rintro ⟨p, hp, hc, _⟩; exact absurd hc (hn p hp)
theorem kind_none {rows : List Tx} (v : Vw rows) {c : Cell} : kindT (kindsOf rows c) = txNone ↔ ∃ p ∈ partsOf rows, c ∈ p ∧ 0 < (playings rows p).length ∧ ∀ r ∈ playings rows p, c ∉ r := by
  by_cases h : ∃ p ∈ partsOf rows, c ∈ p
  · obtain ⟨p, hp, hc⟩ := h
    rw [kinds_part v hp hc]
    have key : kindT ((playings rows p).filter (fun r => !decide (c ∈ r)), (playings rows p).filter (fun r => decide (c ∈ r))) = txNone ↔ ¬ ((playings rows p).filter (fun r => !decide (c ∈ r))).length = 0 ∧ ((playings rows p).filter (fun r => decide (c ∈ r))).length = 0 := by
      unfold kindT
      constructor
      · intro h
        split at h
        · cases h
        · split at h
          · exact ⟨by assumption, by assumption⟩
          · cases h
      · rintro ⟨h1, h2⟩; rw [if_neg h1, if_pos h2]
    rw [key, List.length_eq_zero_iff, List.length_eq_zero_iff, List.filter_eq_nil_iff, List.filter_eq_nil_iff]
    constructor
    · rintro ⟨h1, h⟩
      refine ⟨p, hp, hc, ?_, fun r hr => by simpa using h r hr⟩
      cases hl : playings rows p with
      | nil => exact absurd (fun r hr => by rw [hl] at hr; cases hr) h1
      | cons => simp
    · rintro ⟨q, hq, hcq, hl, h⟩
      rw [← part_one v hp hq hc hcq] at h hl
      refine ⟨fun h1 => ?_, fun r hr => by simpa using h r hr⟩
      obtain ⟨r, hr⟩ := List.exists_mem_of_length_pos hl
      have a := h1 r hr
      have b := h r hr
      simp [b] at a
  · have hn : ∀ p ∈ partsOf rows, c ∉ p := fun p hp hc => h ⟨p, hp, hc⟩
    rw [kinds_far hn]
    constructor
    · intro z; cases z
    · rintro ⟨p, hp, hc, _⟩; exact absurd hc (hn p hp)
theorem sure_stone {rows : List Tx} (v : Vw rows) {L : List Cell} (hL : ∀ x ∈ L, x ∈ closedOf rows) (hk : keepsB rows L = true) {c : Cell} (h : kindT (kindsOf rows c) = txStone) : c ∈ L := by
  obtain ⟨p, hp, hc, h⟩ := (kind_stone v).mp h
  exact (mem_restr.mp (h _ (((keeps_iff v hL).mp hk).2 p hp))).2
theorem sure_none {rows : List Tx} (v : Vw rows) {L : List Cell} (hL : ∀ x ∈ L, x ∈ closedOf rows) (hk : keepsB rows L = true) {c : Cell} (h : kindT (kindsOf rows c) = txNone) : c ∉ L := fun hcL => by
  obtain ⟨p, hp, hc, _, h⟩ := (kind_none v).mp h
  exact h _ (((keeps_iff v hL).mp hk).2 p hp) (mem_restr.mpr ⟨hc, hcL⟩)
/-! what is shown -/
theorem getD0_mem {l : List (List Cell)} (h : 0 < l.length) : l.getD 0 [] ∈ l := by
  rw [List.getD_eq_getElem?_getD, List.getElem?_eq_getElem h]
  exact List.getElem_mem _
theorem mem_rest {rows : List Tx} {c x : Cell} {ps : List (List Cell)} : x ∈ restOf rows c ps ↔ ∃ p ∈ ps, c ∉ p ∧ x ∈ (playings rows p).getD 0 [] := by
  unfold restOf
  rw [List.mem_flatMap]
  constructor
  · rintro ⟨p, hp, hx⟩
    obtain ⟨h1, h2⟩ := List.mem_filter.mp hp
    exact ⟨p, h1, by simpa using h2, hx⟩
  · rintro ⟨p, hp, hc, hx⟩
    exact ⟨p, List.mem_filter.mpr ⟨hp, by simpa using hc⟩, hx⟩
theorem rest_nd {rows : List Tx} (v : Vw rows) (hcan : canB rows = true) {c : Cell} : (restOf rows c (partsOf rows)).Nodup := by
  unfold restOf
  refine List.pairwise_flatMap.mpr ⟨fun p hp => ?_, ?_⟩
  · have hp := (List.mem_filter.mp hp).1
    exact (srt_nd (part_mem v hp).1).sublist (playings_sub (getD0_mem (can_lay hcan hp)))
  · refine List.Pairwise.imp_of_mem (fun {p q} hp hq h x hx y hy => ?_) (List.Pairwise.filter _ (parts_dis v))
    have hp := (List.mem_filter.mp hp).1
    have hq := (List.mem_filter.mp hq).1
    exact h x ((playings_sub (getD0_mem (can_lay hcan hp))).subset hx) y ((playings_sub (getD0_mem (can_lay hcan hq))).subset hy)
theorem show_gen {rows : List Tx} (v : Vw rows) (hcan : canB rows = true) {c : Cell} (hcc : c ∈ closedOf rows) {own : List Cell} (h : (∃ p ∈ partsOf rows, c ∈ p ∧ own ∈ playings rows p) ∨ ((∀ p ∈ partsOf rows, c ∉ p) ∧ (own = [] ∨ own = [c]))) :
    (Srt (psort (restOf rows c (partsOf rows) ++ own)) ∧ ∀ x ∈ psort (restOf rows c (partsOf rows) ++ own), x ∈ closedOf rows) ∧ keepsB rows (psort (restOf rows c (partsOf rows) ++ own)) = true ∧ (c ∈ psort (restOf rows c (partsOf rows) ++ own) ↔ c ∈ own) := by
  have hi : idleB rows = true := by unfold canB at hcan; exact (Bool.and_eq_true_iff.mp hcan).1
  have hnr : c ∉ restOf rows c (partsOf rows) := fun hm => by
    obtain ⟨p, hp, hc, hx⟩ := mem_rest.mp hm
    exact hc ((playings_sub (getD0_mem (can_lay hcan hp))).subset hx)
  have hmc : c ∈ psort (restOf rows c (partsOf rows) ++ own) ↔ c ∈ own := by
    rw [mem_psort, List.mem_append]
    exact ⟨fun h => h.resolve_left hnr, .inr⟩
  have hnd : (restOf rows c (partsOf rows) ++ own).Nodup := by
    refine List.nodup_append.mpr ⟨rest_nd v hcan, ?_, fun x hx y hy e => ?_⟩
    · rcases h with ⟨p, hp, _, ho⟩ | ⟨_, rfl | rfl⟩
      · exact (srt_nd (part_mem v hp).1).sublist (playings_sub ho)
      · simp
      · simp
    · subst e
      obtain ⟨q, hq, hcq, hx⟩ := mem_rest.mp hx
      have hxq := (playings_sub (getD0_mem (can_lay hcan hq))).subset hx
      rcases h with ⟨p, hp, hcp, ho⟩ | ⟨hn, rfl | rfl⟩
      · rw [← part_one v hp hq ((playings_sub ho).subset hy) hxq] at hcq
        exact hcq hcp
      · cases hy
      · rw [List.mem_singleton.mp hy] at hxq
        exact hn q hq hxq
  have hsrt := psort_nd hnd
  rcases h with ⟨p0, hp0, hc0, ho⟩ | ⟨hn, ho⟩
  · have hl : Laid rows (fun p => if c ∈ p then own else (playings rows p).getD 0 []) [] (psort (restOf rows c (partsOf rows) ++ own)) := by
      refine ⟨fun p hp => ?_, fun x hx => (by cases hx), fun x => ?_⟩
      · split
        · rw [part_one v hp hp0 (by assumption) hc0]; exact playings_sub ho
        · exact playings_sub (getD0_mem (can_lay hcan hp))
      · rw [mem_psort, List.mem_append, mem_rest]
        constructor
        · rintro (⟨p, hp, hc, hx⟩ | hx)
          · exact .inl ⟨p, hp, by rw [if_neg hc]; exact hx⟩
          · exact .inl ⟨p0, hp0, by rw [if_pos hc0]; exact hx⟩
        · rintro (⟨p, hp, hx⟩ | hx)
          · by_cases hc : c ∈ p
            · rw [if_pos hc] at hx; exact .inr hx
            · rw [if_neg hc] at hx; exact .inl ⟨p, hp, hc, hx⟩
          · cases hx
    refine ⟨⟨hsrt, hl.closed v⟩, hl.keeps v hi (fun p hp => ?_), hmc⟩
    split
    · rw [part_one v hp hp0 (by assumption) hc0]; exact ho
    · exact getD0_mem (can_lay hcan hp)
  · have hl : Laid rows (fun p => (playings rows p).getD 0 []) own (psort (restOf rows c (partsOf rows) ++ own)) := by
      refine ⟨fun p hp => playings_sub (getD0_mem (can_lay hcan hp)), fun x hx => ?_, fun x => ?_⟩
      · rcases ho with rfl | rfl
        · cases hx
        · rw [List.mem_singleton.mp hx]; exact edge_far v hcc hn
      · rw [mem_psort, List.mem_append, mem_rest]
        constructor
        · rintro (⟨p, hp, hc, hx⟩ | hx)
          · exact .inl ⟨p, hp, hx⟩
          · exact .inr hx
        · rintro (⟨p, hp, hx⟩ | hx)
          · exact .inl ⟨p, hp, hn p hp, hx⟩
          · exact .inr hx
    exact ⟨⟨hsrt, hl.closed v⟩, hl.keeps v hi (fun p hp => getD0_mem (can_lay hcan hp)), hmc⟩
theorem show_ok {rows : List Tx} (v : Vw rows) (hcan : canB rows = true) {c : Cell} (hcc : c ∈ closedOf rows) (ho : kindT (kindsOf rows c) = txOpen) :
    (((Srt (showA rows c) ∧ ∀ x ∈ showA rows c, x ∈ closedOf rows) ∧ keepsB rows (showA rows c) = true) ∧ c ∉ showA rows c) ∧ ((Srt (showB rows c) ∧ ∀ x ∈ showB rows c, x ∈ closedOf rows) ∧ keepsB rows (showB rows c) = true) ∧ c ∈ showB rows c := by
  obtain ⟨k1, k2⟩ := kindT_open.mp ho
  unfold showA showB
  have m1 := getD0_mem k1
  have m2 := getD0_mem k2
  have key : (((∃ p ∈ partsOf rows, c ∈ p ∧ (kindsOf rows c).1.getD 0 [] ∈ playings rows p) ∨ ((∀ p ∈ partsOf rows, c ∉ p) ∧ ((kindsOf rows c).1.getD 0 [] = [] ∨ (kindsOf rows c).1.getD 0 [] = [c]))) ∧ c ∉ (kindsOf rows c).1.getD 0 []) ∧ ((∃ p ∈ partsOf rows, c ∈ p ∧ (kindsOf rows c).2.getD 0 [] ∈ playings rows p) ∨ ((∀ p ∈ partsOf rows, c ∉ p) ∧ ((kindsOf rows c).2.getD 0 [] = [] ∨ (kindsOf rows c).2.getD 0 [] = [c]))) ∧ c ∈ (kindsOf rows c).2.getD 0 [] := by
    by_cases h : ∃ p ∈ partsOf rows, c ∈ p
    · obtain ⟨p, hp, hc⟩ := h
      rw [kinds_part v hp hc] at m1 m2 ⊢
      obtain ⟨a1, a2⟩ := List.mem_filter.mp m1
      obtain ⟨b1, b2⟩ := List.mem_filter.mp m2
      exact ⟨⟨.inl ⟨p, hp, hc, a1⟩, by simpa using a2⟩, .inl ⟨p, hp, hc, b1⟩, by simpa using b2⟩
    · have hn : ∀ p ∈ partsOf rows, c ∉ p := fun p hp hc => h ⟨p, hp, hc⟩
      rw [kinds_far hn]
      exact ⟨⟨.inr ⟨hn, .inl rfl⟩, by simp⟩, .inr ⟨hn, .inr rfl⟩, by simp⟩
  obtain ⟨⟨x1, x2⟩, x3, x4⟩ := key
  obtain ⟨s1, s2, s3⟩ := show_gen v hcan hcc x1
  obtain ⟨t1, t2, t3⟩ := show_gen v hcan hcc x3
  exact ⟨⟨⟨s1, s2⟩, fun z => x2 (s3.mp z)⟩, ⟨t1, t2⟩, t3.mpr x4⟩
end DF

namespace DF
open R (rp)
open Dt (toD)
/-! ### games that go on: what is opened -/
structure GIn (g : GM) : Prop where
  h : 1 ≤ g.h ∧ g.h ≤ 6
  w : 1 ≤ g.w ∧ g.w ≤ 6
  st : Srt g.stones
  si : ∀ x ∈ g.stones, inF g.h g.w x = true
  nd : (keysOf g).Nodup
  ki : ∀ x ∈ keysOf g, inF g.h g.w x = true
  ks : ∀ x ∈ keysOf g, x ∉ g.stones
theorem GIn.dim {g : GM} (i : GIn g) : Dim g.h g.w := by have := i.h; have := i.w; omega
theorem GIn.len {g : GM} (i : GIn g) : g.known.length ≤ 36 := by
  have := nodup_le i.nd fun x hx => (inF_cells i.dim).mp (i.ki x hx)
  have h2 := allCells_len i.dim
  unfold keysOf at this
  rw [List.length_map] at this
  omega
theorem GIn.slen {g : GM} (i : GIn g) : g.stones.length ≤ 36 :=
  Nat.le_trans (nodup_le (srt_nd i.st) fun x hx => (inF_cells i.dim).mp (i.si x hx)) (allCells_len i.dim)
theorem GIn.ok {g : GM} (i : GIn g) : GOk g := ⟨i.h, i.w, by have := i.slen; omega, by have := i.len; omega⟩
def gopened (g : GM) (c : Cell) : List Cell := lopened g.h g.w g.stones (keysOf g) c
def kvsOf (g : GM) (found : List Cell) : List (Cell × Bool) := g.known ++ found.map fun x => (x, true)
def gopen (g : GM) (c : Cell) : GM := ⟨g.C, g.h, g.w, g.stones, kvsOf g (gopened g c), g.lost⟩
def glose (g : GM) : GM := ⟨g.C, g.h, g.w, g.stones, g.known, true⟩
theorem kvs_keys {g : GM} {found : List Cell} : (kvsOf g found).map (·.1) = keysOf g ++ found := by
  unfold kvsOf keysOf
  rw [List.map_append, List.map_map]
  congr 1
  exact List.map_id'' (fun _ => rfl) _
theorem keys_gopen {g : GM} {c : Cell} : keysOf (gopen g c) = keysOf g ++ gopened g c := kvs_keys
theorem kvs_snoc {g : GM} {found : List Cell} {x : Cell} (h : x ∉ keysOf g ++ found) : dput (kvsOf g found) x true = kvsOf g (found ++ [x]) := by
  unfold dput
  rw [if_neg]
  · unfold kvsOf; rw [List.map_append, List.append_assoc]; rfl
  · rw [← kvs_keys] at h
    intro hz
    have := dhas_keys (kvs := kvsOf g found) (c := x)
    unfold dhas at this
    rw [this] at hz
    exact h (of_decide_eq_true hz)
theorem kvs_len {g : GM} {found : List Cell} : (kvsOf g found).length = g.known.length + found.length := by unfold kvsOf; rw [List.length_append, List.length_map]
/-! a run of opening -/
theorem lgrow_zero {h w : Int} {st : List Cell} {c x : Cell} (h0 : lfigure h w st c = 0) (hx : x ∈ lnear h w c) : x ∉ st := fun hs => by
  unfold lfigure at h0
  have : x ∈ (lnear h w c).filter fun x => decide (x ∈ st) := List.mem_filter.mpr ⟨hx, decide_eq_true hs⟩
  rw [List.eq_nil_of_length_eq_zero h0] at this
  cases this
theorem mem_lgrow {h w : Int} {st kn found : List Cell} {c x : Cell} : x ∈ lgrow h w st kn found c ↔ x ∈ found ∨ (lfigure h w st c = 0 ∧ x ∈ lnear h w c ∧ x ∉ kn) := by
  unfold lgrow
  split
  · rename_i h0
    simp only [List.mem_append, List.mem_filter, Bool.and_eq_true, Bool.not_eq_true', decide_eq_false_iff_not]
    constructor
    · rintro (a | ⟨a, b, c⟩)
      · exact .inl a
      · exact .inr ⟨h0, a, b⟩
    · rintro (a | ⟨_, a, b⟩)
      · exact .inl a
      · by_cases hf : x ∈ found
        · exact .inl hf
        · exact .inr ⟨a, b, hf⟩
  · rename_i h0
    exact ⟨.inl, fun z => z.elim id fun y => absurd y.1 h0⟩
theorem lgo_ind {h w : Int} {st kn : List Cell} {Pr : Cell → Prop} (hs : ∀ c x, Pr c → lfigure h w st c = 0 → x ∈ lnear h w c → x ∉ kn → Pr x) : ∀ (n : Nat) (found : List Cell) (k : Nat), (∀ x ∈ found, Pr x) → ∀ x ∈ lgo h w st kn n found k, Pr x
  | 0, found, k, hf => hf
  | n + 1, found, k, hf => by
    unfold lgo
    split
    · rename_i hk
      refine lgo_ind hs n _ _ fun x hx => ?_
      rcases mem_lgrow.mp hx with a | ⟨a, b, c⟩
      · exact hf x a
      · refine hs _ x (hf _ ?_) a b c
        rw [List.getD_eq_getElem?_getD, List.getElem?_eq_getElem hk]
        exact List.getElem_mem _
    · exact hf
theorem lgo_pre {h w : Int} {st kn : List Cell} : ∀ (n : Nat) (found : List Cell) (k : Nat), found <+: lgo h w st kn n found k
  | 0, found, k => List.prefix_refl _
  | n + 1, found, k => by
    unfold lgo
    split
    · refine List.IsPrefix.trans ?_ (lgo_pre n _ _)
      unfold lgrow
      split
      · exact List.prefix_append _ _
      · exact List.prefix_refl _
    · exact List.prefix_refl _
theorem gopened_new {g : GM} {c : Cell} (hk : c ∉ keysOf g) : ∀ x ∈ gopened g c, x ∉ keysOf g :=
  lgo_ind (Pr := fun x => x ∉ keysOf g) (fun _ _ _ _ _ h => h) _ _ _ fun x hx => by rw [List.mem_singleton.mp hx]; exact hk
theorem gopened_free {g : GM} {c : Cell} (hc : c ∉ g.stones) : ∀ x ∈ gopened g c, x ∉ g.stones :=
  lgo_ind (Pr := fun x => x ∉ g.stones) (fun _ _ _ h0 hx _ => lgrow_zero h0 hx) _ _ _ fun x hx => by rw [List.mem_singleton.mp hx]; exact hc
theorem gopened_self {g : GM} {c : Cell} : c ∈ gopened g c := (lgo_pre 37 [c] 0).subset (by simp)
theorem GIn.opn {g : GM} (i : GIn g) {c : Cell} (hc : inF g.h g.w c = true) (hk : c ∉ keysOf g) (hs : c ∉ g.stones) : GIn (gopen g c) := by
  have f := lopened_fnd (h := g.h) (w := g.w) (st := g.stones) (known := keysOf g) hc
  refine ⟨i.h, i.w, i.st, i.si, ?_, fun x hx => ?_, fun x hx => ?_⟩
  · rw [keys_gopen]
    exact List.nodup_append.mpr ⟨i.nd, f.nd, fun a ha b hb e => gopened_new hk b hb (e ▸ ha)⟩
  · rw [keys_gopen] at hx
    exact (List.mem_append.mp hx).elim (i.ki x) (f.sub x)
  · rw [keys_gopen] at hx
    exact (List.mem_append.mp hx).elim (i.ks x) (gopened_free hs x)
theorem GIn.lose {g : GM} (i : GIn g) : GIn (glose g) := ⟨i.h, i.w, i.st, i.si, i.nd, i.ki, i.ks⟩
/-! known by its members alone -/
theorem lgrow_congr {h w : Int} {st kn kn' found : List Cell} {c : Cell} (e : ∀ x, x ∈ kn ↔ x ∈ kn') : lgrow h w st kn found c = lgrow h w st kn' found c := by
  unfold lgrow
  split
  · congr 1
    apply List.filter_congr
    intro x _
    rw [decide_eq_decide.mpr (e x)]
  · rfl
theorem lgo_congr {h w : Int} {st kn kn' : List Cell} (e : ∀ x, x ∈ kn ↔ x ∈ kn') : ∀ (n : Nat) (found : List Cell) (k : Nat), lgo h w st kn n found k = lgo h w st kn' n found k
  | 0, _, _ => rfl
  | n + 1, found, k => by
    unfold lgo
    rw [lgrow_congr e, lgo_congr e n]
theorem lopened_congr {h w : Int} {st kn kn' : List Cell} {c : Cell} (e : ∀ x, x ∈ kn ↔ x ∈ kn') : lopened h w st kn c = lopened h w st kn' c := lgo_congr e _ _ _
theorem lshown_congr {h w : Int} {st kn kn' : List Cell} (e : ∀ x, x ∈ kn ↔ x ∈ kn') : lshown h w st kn = lshown h w st kn' := by
  unfold lshown
  apply List.map_congr_left
  intro r _
  congr 1
  apply List.map_congr_left
  intro c _
  unfold signAt
  simp only [e]
/-! the law's record -/
structure Rec (g : GM) (K : List Cell) : Prop where
  nd : K.Nodup
  eq : ∀ x, x ∈ K ↔ x ∈ keysOf g
theorem Rec.len {g : GM} {K : List Cell} (r : Rec g K) (i : GIn g) : K.length = g.known.length := by
  rw [cnt_same r.nd i.nd r.eq]; unfold keysOf; rw [List.length_map]
theorem Rec.view {g : GM} {K : List Cell} (r : Rec g K) : lshown g.h g.w g.stones K = gview g := lshown_congr r.eq
theorem Rec.opened {g : GM} {K : List Cell} (r : Rec g K) (c : Cell) : lopened g.h g.w g.stones K c = gopened g c := lopened_congr r.eq
theorem Rec.opn {g : GM} {K : List Cell} (r : Rec g K) {c : Cell} (hc : inF g.h g.w c = true) (hk : c ∉ keysOf g) : Rec (gopen g c) (K ++ psort (gopened g c)) := by
  have f := lopened_fnd (h := g.h) (w := g.w) (st := g.stones) (known := keysOf g) hc
  refine ⟨List.nodup_append.mpr ⟨r.nd, srt_nd (psort_nd f.nd), fun a ha b hb e => ?_⟩, fun x => ?_⟩
  · subst e
    exact gopened_new hk _ (mem_psort.mp hb) ((r.eq _).mp ha)
  · rw [keys_gopen, List.mem_append, List.mem_append, r.eq, mem_psort]
def lstate (h w : Int) (st K : List Cell) (lost : Bool) : Tx := if lost then tLost else if (K.length : Int) + st.length = h * w then tWon else tOn
theorem Rec.state {g : GM} {K : List Cell} (r : Rec g K) (i : GIn g) : lstate g.h g.w g.stones K g.lost = gstate g := by
  unfold lstate gstate
  rw [r.len i]
theorem tx_three : tOn ≠ tLost ∧ tOn ≠ tWon := ⟨by decide, by decide⟩
theorem gstate_on {g : GM} (h : gstate g = tOn) : g.lost = false := by
  cases e : g.lost with
  | false => rfl
  | true => unfold gstate at h; rw [e, if_pos rfl] at h; exact absurd h (by decide)
/-! what is known is closed: a cell that tells 0 has all near it open -/
def Clo (h w : Int) (st : List Cell) (M : Cell → Prop) : Prop := ∀ x, M x → lfigure h w st x = 0 → ∀ y ∈ lnear h w x, M y
theorem lgo_done {h w : Int} {st kn : List Cell} (d : Dim h w) : ∀ (n : Nat) (found : List Cell) (k : Nat), Fnd h w found → k ≤ found.length → 37 ≤ n + k →
    (∀ i, i < k → lfigure h w st (found.getD i (0, 0)) = 0 → ∀ y ∈ lnear h w (found.getD i (0, 0)), y ∈ kn ∨ y ∈ found) →
    ∀ x ∈ lgo h w st kn n found k, lfigure h w st x = 0 → ∀ y ∈ lnear h w x, y ∈ kn ∨ y ∈ lgo h w st kn n found k
  | 0, found, k, f, hk, h37, hp => by
    have := f.len d
    omega
  | n + 1, found, k, f, hk, h37, hp => by
    unfold lgo
    by_cases hl : k < found.length
    · rw [if_pos hl]
      have pre : found <+: lgrow h w st kn found (found.getD k (0, 0)) := by
        unfold lgrow
        split
        · exact List.prefix_append _ _
        · exact List.prefix_refl _
      have same : ∀ i, i < found.length → (lgrow h w st kn found (found.getD k (0, 0))).getD i (0, 0) = found.getD i (0, 0) := fun i hi => by
        obtain ⟨t, e⟩ := pre
        rw [← e, List.getD_eq_getElem?_getD, List.getElem?_append_left hi, List.getD_eq_getElem?_getD]
      refine lgo_done d n _ _ f.grow (by have := pre.length_le; omega) (by omega) fun i hi h0 y hy => ?_
      rw [same i (by omega)] at h0 hy
      by_cases hik : i = k
      · subst hik
        by_cases hkn : y ∈ kn
        · exact .inl hkn
        · exact .inr (mem_lgrow.mpr (.inr ⟨h0, hy, hkn⟩))
      · rcases hp i (by omega) h0 y hy with a | a
        · exact .inl a
        · exact .inr (pre.subset a)
    · rw [if_neg hl]
      intro x hx h0 y hy
      obtain ⟨i, hi⟩ := List.getElem?_of_mem hx
      have hil := (List.getElem?_eq_some_iff.mp hi).1
      have e : found.getD i (0, 0) = x := by rw [List.getD_eq_getElem?_getD, hi]; rfl
      exact hp i (by omega) (by rw [e]; exact h0) y (by rw [e]; exact hy)
theorem gopen_clo {g : GM} (i : GIn g) {c : Cell} (hc : inF g.h g.w c = true) (h : Clo g.h g.w g.stones (· ∈ keysOf g)) : Clo g.h g.w g.stones (· ∈ keysOf (gopen g c)) := fun x hx h0 y hy => by
  rw [keys_gopen] at hx ⊢
  rw [List.mem_append] at hx ⊢
  rcases hx with a | a
  · exact .inl (h x a h0 y hy)
  · exact lgo_done i.dim 37 [c] 0 ⟨by simp, fun x hx => by rw [List.mem_singleton.mp hx]; exact hc⟩ (by simp) (by omega) (fun i hi => by omega) x a h0 y hy
theorem gopen_least {g : GM} {c : Cell} {M : Cell → Prop} (hM : Clo g.h g.w g.stones M) (h1 : ∀ x ∈ keysOf g, M x) (h2 : M c) : ∀ x ∈ keysOf (gopen g c), M x := fun x hx => by
  rw [keys_gopen, List.mem_append] at hx
  rcases hx with a | a
  · exact h1 x a
  · exact lgo_ind (Pr := M) (fun c x hc h0 hx _ => hM c hc h0 x hx) _ _ _ (fun x hx => by rw [List.mem_singleton.mp hx]; exact h2) x a
end DF

namespace DF
open R (rp)
open Dt (toD)
/-! ### k11: cells uncovered one after the other, in any order -/
def gwith (g : GM) (kn : List (Cell × Bool)) : GM := ⟨g.C, g.h, g.w, g.stones, kn, g.lost⟩
def playStep (g : GM) (s : List (Cell × Bool) × List Cell) (c : Cell) : List (Cell × Bool) × List Cell :=
  if c ∉ s.2 ∧ gstate (gwith g s.1) = tOn then (kvsOf (gwith g s.1) (gopened (gwith g s.1) c), s.2 ++ psort (gopened (gwith g s.1) c)) else s
def play (g : GM) (cells : List Cell) : List (Cell × Bool) × List Cell := cells.foldl (playStep g) ([], [])
theorem allCells_size {h w : Int} (h0 : 0 ≤ h) (w0 : 0 ≤ w) : ((allCells h w).length : Int) = h * w := by
  unfold allCells
  rw [flatMap_take_len, irange_len]
  push_cast
  rw [Int.toNat_of_nonneg h0, Int.toNat_of_nonneg w0]
/-- as many as there are: all -/
theorem all_of_size {h w : Int} (d : Dim h w) {l : List Cell} (nd : l.Nodup) (hs : ∀ x ∈ l, inF h w x = true) (hl : (l.length : Int) = h * w) {c : Cell} (hc : inF h w c = true) : c ∈ l := by
  by_cases hm : c ∈ l
  · exact hm
  have := nodup_le (l := c :: l) (m := allCells h w) (List.nodup_cons.mpr ⟨hm, nd⟩) fun x hx => by
    rcases List.mem_cons.mp hx with rfl | hx
    · exact (inF_cells d).mp hc
    · exact (inF_cells d).mp (hs x hx)
  have e := allCells_size d.1.1 d.2.1
  rw [List.length_cons] at this
  omega
theorem won_all {g : GM} (i : GIn g) (hl : g.lost = false) (hs : gstate g ≠ tOn) {c : Cell} (hc : inF g.h g.w c = true) (hf : c ∉ g.stones) : c ∈ keysOf g := by
  have e : (g.known.length : Int) + g.stones.length = g.h * g.w := by
    by_cases e : (g.known.length : Int) + g.stones.length = g.h * g.w
    · exact e
    · exfalso
      apply hs
      unfold gstate
      rw [hl, if_neg (by decide), if_neg e]
  have := all_of_size i.dim (l := keysOf g ++ g.stones) (List.nodup_append.mpr ⟨i.nd, srt_nd i.st, fun a ha b hb e => i.ks a ha (e ▸ hb)⟩) (fun x hx => (List.mem_append.mp hx).elim (i.ki x) (i.si x)) (by
    rw [List.length_append]
    unfold keysOf
    rw [List.length_map]
    push_cast
    exact e) hc
  exact (List.mem_append.mp this).elim id fun z => absurd z hf
/-- what is known behind some cells -/
structure Pl (g : GM) (done : List Cell) (s : List (Cell × Bool) × List Cell) : Prop where
  gi : GIn (gwith g s.1)
  rc : Rec (gwith g s.1) s.2
  clo : Clo g.h g.w g.stones (· ∈ keysOf (gwith g s.1))
  has : ∀ c ∈ done, c ∈ keysOf (gwith g s.1)
  least : ∀ M : Cell → Prop, Clo g.h g.w g.stones M → (∀ c ∈ done, M c) → ∀ x ∈ keysOf (gwith g s.1), M x
theorem Pl.start {g : GM} (i : GIn g) : Pl g [] ([], []) :=
  ⟨⟨i.h, i.w, i.st, i.si, by simp [keysOf, gwith], fun x hx => by simp [keysOf, gwith] at hx, fun x hx => by simp [keysOf, gwith] at hx⟩, ⟨by simp, fun x => by simp [keysOf, gwith]⟩, fun x hx => by simp [keysOf, gwith] at hx, (fun c hc => by cases hc), fun M _ _ x hx => by simp [keysOf, gwith] at hx⟩
theorem Pl.step {g : GM} (hl : g.lost = false) {done : List Cell} {s : List (Cell × Bool) × List Cell} (p : Pl g done s) {c : Cell} (hc : inF g.h g.w c = true) (hf : c ∉ g.stones) : Pl g (done ++ [c]) (playStep g s c) := by
  unfold playStep
  split
  · rename_i h
    have hk : c ∉ keysOf (gwith g s.1) := fun z => h.1 ((p.rc.eq c).mpr z)
    refine ⟨p.gi.opn hc hk hf, p.rc.opn hc hk, gopen_clo p.gi hc p.clo, fun x hx => ?_, fun M hM hd => ?_⟩
    · have e : keysOf (gwith g (kvsOf (gwith g s.1) (gopened (gwith g s.1) c))) = keysOf (gwith g s.1) ++ gopened (gwith g s.1) c := keys_gopen
      show x ∈ keysOf (gwith g (kvsOf (gwith g s.1) (gopened (gwith g s.1) c)))
      rw [e, List.mem_append]
      rcases List.mem_append.mp hx with y | y
      · exact .inl (p.has x y)
      · rw [List.mem_singleton.mp y]; exact .inr gopened_self
    · exact gopen_least (g := gwith g s.1) hM (p.least M hM fun y hy => hd y (by simp [hy])) (hd c (by simp))
  · rename_i h
    have hk : c ∈ keysOf (gwith g s.1) := by
      by_cases hm : c ∈ s.2
      · exact (p.rc.eq c).mp hm
      · exact won_all p.gi hl (fun z => h ⟨hm, z⟩) hc hf
    refine ⟨p.gi, p.rc, p.clo, fun x hx => ?_, fun M hM hd => p.least M hM fun y hy => hd y (by simp [hy])⟩
    rcases List.mem_append.mp hx with y | y
    · exact p.has x y
    · rw [List.mem_singleton.mp y]; exact hk
theorem Pl.fold {g : GM} (hl : g.lost = false) : ∀ {cells done : List Cell} {s : List (Cell × Bool) × List Cell}, Pl g done s → (∀ c ∈ cells, inF g.h g.w c = true ∧ c ∉ g.stones) → Pl g (done ++ cells) (cells.foldl (playStep g) s)
  | [], done, s, p, _ => by rw [List.append_nil]; exact p
  | c :: cells, done, s, p, h => by
    have := Pl.fold hl (p.step hl (h c (by simp)).1 (h c (by simp)).2) (cells := cells) fun x hx => h x (by simp [hx])
    rw [List.append_assoc] at this
    exact this
theorem pl_play {g : GM} (i : GIn g) (hl : g.lost = false) {cells : List Cell} (h : ∀ c ∈ cells, inF g.h g.w c = true ∧ c ∉ g.stones) : Pl g cells (play g cells) := Pl.fold hl (Pl.start i) h
/-- two orders of the same cells -/
theorem play_same {g : GM} {a b : List Cell} {s t : List (Cell × Bool) × List Cell} (p : Pl g a s) (q : Pl g b t) (e : ∀ x, x ∈ a ↔ x ∈ b) : ∀ x, x ∈ keysOf (gwith g s.1) ↔ x ∈ keysOf (gwith g t.1) := fun x =>
  ⟨fun hx => p.least _ q.clo (fun c hc => q.has c ((e c).mp hc)) x hx, fun hx => q.least _ p.clo (fun c hc => p.has c ((e c).mpr hc)) x hx⟩
theorem same_sorted {g : GM} {a b : List Cell} {s t : List (Cell × Bool) × List Cell} (p : Pl g a s) (q : Pl g b t) (e : ∀ x, x ∈ keysOf (gwith g s.1) ↔ x ∈ keysOf (gwith g t.1)) : psort s.2 = psort t.2 :=
  srt_ext (psort_nd p.rc.nd) (psort_nd q.rc.nd) fun x => by rw [mem_psort, mem_psort, p.rc.eq, q.rc.eq, e]
theorem same_view {g : GM} {kn kn' : List (Cell × Bool)} (e : ∀ x, x ∈ keysOf (gwith g kn) ↔ x ∈ keysOf (gwith g kn')) : gview (gwith g kn) = gview (gwith g kn') := lshown_congr e
theorem same_state {g : GM} {a b : List Cell} {s t : List (Cell × Bool) × List Cell} (p : Pl g a s) (q : Pl g b t) (e : ∀ x, x ∈ keysOf (gwith g s.1) ↔ x ∈ keysOf (gwith g t.1)) : gstate (gwith g s.1) = gstate (gwith g t.1) := by
  have hl := cnt_same p.gi.nd q.gi.nd e
  unfold keysOf at hl
  rw [List.length_map, List.length_map] at hl
  unfold gstate
  rw [hl]
  rfl
theorem Pl.len {g : GM} {a : List Cell} {s : List (Cell × Bool) × List Cell} (p : Pl g a s) : s.2.length ≤ 36 := by
  rw [p.rc.len p.gi]; exact p.gi.len
theorem shown_nil {h w : Int} {st : List Cell} : lshown h w st [] = List.replicate h.toNat ⟨List.replicate w.toNat 35⟩ := by
  unfold lshown
  have e : ∀ r : Int, (irange 0 w.toNat).map (fun c => signAt h w st [] (r, c)) = List.replicate w.toNat 35 := fun r => by
    rw [List.eq_replicate_iff]
    refine ⟨by rw [List.length_map, irange_len], fun b hb => ?_⟩
    obtain ⟨c, _, rfl⟩ := List.mem_map.mp hb
    unfold signAt
    rw [if_neg (by simp)]
  rw [List.eq_replicate_iff]
  refine ⟨by rw [List.length_map, irange_len], fun b hb => ?_⟩
  obtain ⟨r, _, rfl⟩ := List.mem_map.mp hb
  rw [e]
/-- no cell is free: all have stones -/
theorem mem_free {h w : Int} {st : List Cell} (d : Dim h w) {x : Cell} : x ∈ freeOf h w st ↔ inF h w x = true ∧ x ∉ st := by
  refine ⟨freeOf_in, fun ⟨a, b⟩ => ?_⟩
  obtain ⟨⟨a1, a2⟩, a3, a4⟩ := inF_iff.mp a
  unfold freeOf freeRow
  simp only [List.mem_flatMap, List.mem_map, List.mem_filter, mem_irange]
  have h1 := d.1.1
  have h2 := d.2.1
  exact ⟨x.1, ⟨a1, by omega⟩, x.2, ⟨⟨a3, by omega⟩, by simpa using b⟩, rfl⟩
theorem all_stones {h w : Int} {st : List Cell} (d : Dim h w) (hs : Srt st) (hin : ∀ x ∈ st, inF h w x = true) (hf : freeOf h w st = []) : (st.length : Int) = h * w := by
  rw [← allCells_size d.1.1 d.2.1]
  congr 1
  refine cnt_same (srt_nd hs) (srt_nd (allCells_srt d)) fun x => ⟨fun hx => (inF_cells d).mp (hin x hx), fun hx => ?_⟩
  by_cases hm : x ∈ st
  · exact hm
  · have := (mem_free d).mpr ⟨(inF_cells d).mpr hx, hm⟩
    rw [hf] at this
    cases this
theorem rot_mem {l : List Cell} {n : Nat} {x : Cell} : x ∈ l.drop n ++ l.take n ↔ x ∈ l := by
  rw [List.mem_append]
  constructor
  · rintro (h | h)
    · exact List.mem_of_mem_drop h
    · exact List.mem_of_mem_take h
  · intro h
    rw [← List.take_append_drop n l, List.mem_append] at h
    exact h.symm
end DF

namespace DF
open R (rp)
open Dt (toD)
/-! ### k12: what is sure is true, and stays told -/
theorem irange_get {α : Type} (f : Int → α) {n : Nat} {i : Int} (d : α) (h0 : 0 ≤ i) (h : i < n) : ((irange 0 n).map f).getD i.toNat d = f i := by
  unfold irange
  rw [List.map_map, List.getD_eq_getElem?_getD, List.getElem?_map, List.getElem?_range (by omega)]
  show f (0 + (i.toNat : Int)) = f i
  congr 1
  omega
theorem sgn_shown {h w : Int} {st kn : List Cell} {x : Cell} (d : Dim h w) (hin : inF h w x = true) : sgn (lshown h w st kn) x = signAt h w st kn x := by
  obtain ⟨⟨a1, a2⟩, a3, a4⟩ := inF_iff.mp hin
  have h1 := d.1.1
  have h2 := d.2.1
  unfold sgn lshown
  rw [irange_get _ _ a1 (by omega)]
  show ((irange 0 w.toNat).map fun c => signAt h w st kn (x.1, c)).getD x.2.toNat 0 = _
  rw [irange_get _ _ a3 (by omega)]
theorem gv_h {g : GM} (o : GOk g) : hOf (gview g) = g.h := by
  have := o.h
  show ((gview g).length : Int) = g.h
  unfold gview
  rw [lshown_len]; omega
theorem gv_w {g : GM} (o : GOk g) : wOf (gview g) = g.w := by
  have h1 := o.h
  have h2 := o.w
  show (widthOf (gview g) : Int) = g.w
  rw [width_of (rows := gview g) (w := g.w.toNat) (by unfold gview; rw [lshown_len]; omega) fun row hr => (lshown_rows row hr).1]
  omega
theorem gv_sgn {g : GM} (i : GIn g) {x : Cell} (hin : inF g.h g.w x = true) : sgn (gview g) x = signAt g.h g.w g.stones (keysOf g) x := sgn_shown i.dim hin
theorem gv_hid {g : GM} (i : GIn g) {x : Cell} (hin : inF g.h g.w x = true) : hid (gview g) x = true ↔ x ∉ keysOf g := by
  unfold hid
  rw [gv_sgn i hin, decide_eq_true_iff]
  unfold signAt
  constructor
  · intro h hk
    rw [if_pos hk] at h
    omega
  · intro h; rw [if_neg h]
theorem mem_closed_g {g : GM} (i : GIn g) {x : Cell} : x ∈ closedOf (gview g) ↔ inF g.h g.w x = true ∧ x ∉ keysOf g := by
  rw [mem_closed (gview_vw i.ok), gv_h i.ok, gv_w i.ok]
  exact ⟨fun ⟨a, b⟩ => ⟨a, (gv_hid i a).mp b⟩, fun ⟨a, b⟩ => ⟨a, (gv_hid i a).mpr b⟩⟩
theorem gv_fig {g : GM} (i : GIn g) {x : Cell} (hk : x ∈ keysOf g) : figN (gview g) x = lfigure g.h g.w g.stones x := by
  unfold figN
  rw [gv_sgn i (i.ki x hk)]
  unfold signAt
  rw [if_pos hk]; omega
theorem gv_near {g : GM} (i : GIn g) {L : List Cell} {x : Cell} : nearIn (gview g) L x = lfigure g.h g.w L x := by
  unfold nearIn
  rw [gv_h i.ok, gv_w i.ok]
  exact lfigure_around i.dim
theorem keeps_g {g : GM} (i : GIn g) {L : List Cell} : keepsB (gview g) L = true ↔ ∀ x ∈ keysOf g, lfigure g.h g.w L x = lfigure g.h g.w g.stones x := by
  unfold keepsB
  rw [List.all_eq_true, gv_h i.ok, gv_w i.ok]
  constructor
  · intro h x hx
    have := h x ((inF_cells i.dim).mp (i.ki x hx))
    unfold fitB at this
    rw [Bool.or_eq_true, decide_eq_true_iff, decide_eq_true_iff, gv_near i, gv_fig i hx] at this
    exact this.elim (fun z => absurd hx ((mem_closed_g i).mp z).2) id
  · intro h x hx
    have hin := (inF_cells i.dim).mpr hx
    unfold fitB
    rw [Bool.or_eq_true, decide_eq_true_iff, decide_eq_true_iff, gv_near i]
    by_cases hk : x ∈ keysOf g
    · right; rw [gv_fig i hk]; exact h x hk
    · left; exact (mem_closed_g i).mpr ⟨hin, hk⟩
theorem stones_closed {g : GM} (i : GIn g) : ∀ x ∈ g.stones, x ∈ closedOf (gview g) := fun x hx => (mem_closed_g i).mpr ⟨i.si x hx, fun z => i.ks x z hx⟩
theorem stones_lay {g : GM} (i : GIn g) : isLay (gview g) g.stones = true := isLay_iff.mpr ⟨i.st, stones_closed i⟩
theorem stones_keep {g : GM} (i : GIn g) : keepsB (gview g) g.stones = true := (keeps_g i).mpr fun _ _ => rfl
theorem can_of_keeps {rows : List Tx} (v : Vw rows) {L : List Cell} (hL : ∀ x ∈ L, x ∈ closedOf rows) (hk : keepsB rows L = true) : canB rows = true := by
  obtain ⟨h1, h2⟩ := (keeps_iff v hL).mp hk
  unfold canB
  rw [h1, Bool.true_and, List.all_eq_true]
  intro p hp
  have := h2 p hp
  cases e : playings rows p with
  | nil => rw [e] at this; cases this
  | cons => rfl
theorem can_g {g : GM} (i : GIn g) : canB (gview g) = true := can_of_keeps (gview_vw i.ok) (stones_closed i) (stones_keep i)
/-! later -/
structure Later (g : GM) (kn : List (Cell × Bool)) : Prop where
  gi : GIn (gwith g kn)
  sub : ∀ x ∈ keysOf g, x ∈ keysOf (gwith g kn)
theorem Later.refl {g : GM} (i : GIn g) : Later g g.known := ⟨i, fun _ h => h⟩
theorem Later.closed {g : GM} (i : GIn g) {kn : List (Cell × Bool)} (l : Later g kn) {x : Cell} (h : x ∈ closedOf (gview (gwith g kn))) : x ∈ closedOf (gview g) := by
  obtain ⟨a, b⟩ := (mem_closed_g l.gi).mp h
  exact (mem_closed_g i).mpr ⟨a, fun z => b (l.sub x z)⟩
theorem Later.keeps {g : GM} (i : GIn g) {kn : List (Cell × Bool)} (l : Later g kn) {L : List Cell} (h : keepsB (gview (gwith g kn)) L = true) : keepsB (gview g) L = true :=
  (keeps_g i).mpr fun x hx => (keeps_g l.gi).mp h x (l.sub x hx)
theorem stays {g : GM} (i : GIn g) {kn : List (Cell × Bool)} (l : Later g kn) {c : Cell} (hc : c ∈ closedOf (gview (gwith g kn))) (h : kindT (kindsOf (gview g) c) ≠ txOpen) : kindT (kindsOf (gview (gwith g kn)) c) = kindT (kindsOf (gview g) c) := by
  have v1 := gview_vw i.ok
  have v2 := gview_vw l.gi.ok
  have s1 := stones_closed i
  have s2 := stones_closed l.gi
  have k1 := stones_keep i
  have k2 := stones_keep l.gi
  rcases kindT_three (kindsOf (gview g) c) with e1 | e1 | e1
  · rcases kindT_three (kindsOf (gview (gwith g kn)) c) with e2 | e2 | e2
    · rw [e1, e2]
    · exact absurd (sure_stone v1 s1 k1 e1) (sure_none v2 s2 k2 e2)
    · obtain ⟨⟨⟨⟨_, a2⟩, a3⟩, a4⟩, _⟩ := show_ok v2 (can_g l.gi) hc e2
      exact absurd (sure_stone v1 (fun x hx => l.closed i (a2 x hx)) (l.keeps i a3) e1) a4
  · rcases kindT_three (kindsOf (gview (gwith g kn)) c) with e2 | e2 | e2
    · exact absurd (sure_stone v2 s2 k2 e2) (sure_none v1 s1 k1 e1)
    · rw [e1, e2]
    · obtain ⟨_, ⟨⟨_, a2⟩, a3⟩, a4⟩ := show_ok v2 (can_g l.gi) hc e2
      exact absurd a4 (sure_none v1 (fun x hx => l.closed i (a2 x hx)) (l.keeps i a3) e1)
  · exact absurd e1 h
/-! cells uncovered as k12 does it -/
def leftOf (free : List Cell) (g : GM) : List Cell := free.filter fun x => decide (x ∈ closedOf (gview g))
def uStep (free : List Cell) (cell : Int) (g : GM) (k : Int) : GM :=
  if 0 < (leftOf free g).length ∧ gstate g = tOn then gopen g ((leftOf free g).getD (mix cell k (leftOf free g).length).toNat (0, 0)) else g
def unc (free : List Cell) (cell : Int) (g : GM) (n : Int) : GM := (irange 0 n.toNat).foldl (uStep free cell) g
theorem left_pick {free : List Cell} {cell k : Int} {g : GM} (i : GIn g) (hf : ∀ x ∈ free, x ∉ g.stones) (hl : 0 < (leftOf free g).length) :
    inF g.h g.w ((leftOf free g).getD (mix cell k (leftOf free g).length).toNat (0, 0)) = true ∧ (leftOf free g).getD (mix cell k (leftOf free g).length).toNat (0, 0) ∉ keysOf g ∧ (leftOf free g).getD (mix cell k (leftOf free g).length).toNat (0, 0) ∉ g.stones := by
  have m3 := mix_bd (c := cell) (k := k) (m := ((leftOf free g).length : Int)) (by omega)
  have hm : (leftOf free g).getD (mix cell k (leftOf free g).length).toNat (0, 0) ∈ leftOf free g := by
    rw [List.getD_eq_getElem?_getD, List.getElem?_eq_getElem (show (mix cell k (leftOf free g).length).toNat < (leftOf free g).length by omega)]
    exact List.getElem_mem _
  generalize (leftOf free g).getD (mix cell k (leftOf free g).length).toNat (0, 0) = c at hm
  obtain ⟨a, b⟩ := List.mem_filter.mp hm
  obtain ⟨b1, b2⟩ := (mem_closed_g i).mp (of_decide_eq_true b)
  exact ⟨b1, b2, hf c a⟩
theorem uStep_same {free : List Cell} {cell k : Int} {g : GM} : ∃ kn, uStep free cell g k = gwith g kn := by
  unfold uStep
  split
  · exact ⟨_, rfl⟩
  · exact ⟨g.known, rfl⟩
theorem uStep_later {free : List Cell} {cell k : Int} {g : GM} {kn : List (Cell × Bool)} (l : Later g kn) (hf : ∀ x ∈ free, x ∉ g.stones) : ∃ kn', uStep free cell (gwith g kn) k = gwith g kn' ∧ Later g kn' := by
  unfold uStep
  split
  · rename_i h
    obtain ⟨a, b, c⟩ := left_pick (cell := cell) (k := k) l.gi hf h.1
    exact ⟨_, rfl, l.gi.opn a b c, fun x hx => by
      show x ∈ keysOf (gopen (gwith g kn) _)
      rw [keys_gopen, List.mem_append]
      exact .inl (l.sub x hx)⟩
  · exact ⟨kn, rfl, l⟩
theorem unc_later {free : List Cell} {cell : Int} {g : GM} (hf : ∀ x ∈ free, x ∉ g.stones) : ∀ (ks : List Int) {kn : List (Cell × Bool)}, Later g kn → ∃ kn', ks.foldl (uStep free cell) (gwith g kn) = gwith g kn' ∧ Later g kn'
  | [], kn, l => ⟨kn, rfl, l⟩
  | k :: ks, kn, l => by
    obtain ⟨kn', e, l'⟩ := uStep_later (cell := cell) (k := k) l hf
    rw [List.foldl_cons, e]
    exact unc_later hf ks l'
theorem unc_ok {free : List Cell} {cell n : Int} {g : GM} (i : GIn g) (hf : ∀ x ∈ free, x ∉ g.stones) : ∃ kn', unc free cell g n = gwith g kn' ∧ Later g kn' := unc_later hf _ (Later.refl i)
/-- what _law_told tells of a view -/
def toldD (rows : List Tx) : List (Cell × Tx) := if small rows = true then (closedOf rows).map fun c => (c, kindT (kindsOf rows c)) else []
theorem toldD_keys {rows : List Tx} : ∀ c ∈ (toldD rows).map (·.1), c ∈ closedOf rows := fun c hc => by
  unfold toldD at hc
  split at hc
  · rw [List.map_map] at hc
    obtain ⟨x, hx, rfl⟩ := List.mem_map.mp hc
    exact hx
  · cases hc
theorem dval_pairs {β : Type} (f : Cell → β) {c : Cell} : ∀ {l : List Cell}, c ∈ l → dval (l.map fun c => (c, f c)) c = some (f c)
  | x :: l, h => by
    unfold dval
    rw [List.map_cons, List.find?_cons]
    by_cases e : x = c
    · subst e; simp
    · have : decide ((x, f x).1 = c) = false := decide_eq_false e
      rw [this]
      exact dval_pairs f ((List.mem_cons.mp h).elim (fun z => absurd z.symm e) id)
theorem toldD_val {rows : List Tx} {c : Cell} (h : c ∈ (toldD rows).map (·.1)) : dval (toldD rows) c = some (kindT (kindsOf rows c)) := by
  have hc := toldD_keys c h
  unfold toldD at h ⊢
  split at h
  · rename_i hs
    rw [if_pos hs]
    exact dval_pairs _ hc
  · cases h
theorem toldD_get {rows : List Tx} {c : Cell} (h : c ∈ closedOf rows) : (dval (toldD rows) c).getD txOpen = kindT (kindsOf rows c) ∨ (dval (toldD rows) c).getD txOpen = txOpen := by
  unfold toldD
  split
  · left; rw [dval_pairs _ h]; rfl
  · right; rfl
end DF

namespace DF
open R (rp)
open Dt (toD)
/-! ### k13, k14: all layings that keep a view, as one list -/
def comb (A B : List (List Cell)) : List (List Cell) := A.flatMap fun a => B.map fun b => a ++ b
theorem comb_nil {B : List (List Cell)} : comb [] B = [] := rfl
theorem comb_cons {a : List Cell} {A B : List (List Cell)} : comb (a :: A) B = B.map (fun b => a ++ b) ++ comb A B := by unfold comb; rw [List.flatMap_cons]
theorem mem_comb {A B : List (List Cell)} {x : List Cell} : x ∈ comb A B ↔ ∃ a ∈ A, ∃ b ∈ B, x = a ++ b := by
  unfold comb
  simp only [List.mem_flatMap, List.mem_map]
  constructor
  · rintro ⟨a, ha, b, hb, e⟩; exact ⟨a, ha, b, hb, e.symm⟩
  · rintro ⟨a, ha, b, hb, e⟩; exact ⟨a, ha, b, hb, e.symm⟩
theorem comb_len {A B : List (List Cell)} : (comb A B).length = A.length * B.length := by
  induction A with
  | nil => simp [comb]
  | cons a A ih => rw [comb_cons, List.length_append, List.length_map, ih, List.length_cons, Nat.add_mul, Nat.one_mul, Nat.add_comm]
/-! counted by length -/
theorem cnt_nil (s : Int) : cntLen [] s = 0 := rfl
theorem cnt_cons (r : List Cell) (rws : List (List Cell)) (s : Int) : cntLen (r :: rws) s = (if (r.length : Int) = s then 1 else 0) + cntLen rws s := by
  unfold cntLen
  rw [List.filter_cons]
  by_cases h : (r.length : Int) = s
  · rw [if_pos (decide_eq_true h), if_pos h, List.length_cons]; push_cast; omega
  · rw [if_neg (by simpa using h), if_neg h]; omega
theorem cnt_app (A B : List (List Cell)) (s : Int) : cntLen (A ++ B) s = cntLen A s + cntLen B s := by
  unfold cntLen; rw [List.filter_append, List.length_append]; push_cast; rfl
theorem cnt_map (a : List Cell) (s : Int) : ∀ B : List (List Cell), cntLen (B.map fun b => a ++ b) s = cntLen B (s - a.length)
  | [] => rfl
  | b :: B => by
    rw [List.map_cons, cnt_cons, cnt_cons, cnt_map a s B, List.length_append]
    congr 1
    by_cases h : (b.length : Int) = s - a.length
    · rw [if_pos h, if_pos (by push_cast; omega)]
    · rw [if_neg h, if_neg (by push_cast; omega)]
theorem sum_delta {N : Nat} {k : Int} (h : 0 ≤ k ∧ k ≤ N) (g : Int → Int) : sumF (irange 0 (N + 1)) (fun i => (if k = i then 1 else 0) * g i) = g k := by
  rw [← sumF_range (N := N) (l := [k]) (by simp) (fun x hx => by rw [List.mem_singleton.mp hx]; exact h) (fun x hx => by
    rw [if_neg (fun e => hx (by rw [e]; simp)), Int.zero_mul])]
  rw [sumF_cons, sumF_nil, if_pos rfl]; omega
theorem conv_add (N : Nat) (f f' g : Int → Int) (s : Int) : conv N (fun i => f i + f' i) g s = conv N f g s + conv N f' g s := by
  unfold conv
  rw [← sumF_add]
  exact sumF_congr fun i _ => by rw [Int.add_mul]
theorem cnt_comb {N : Nat} {B : List (List Cell)} : ∀ {A : List (List Cell)}, (∀ a ∈ A, a.length ≤ N) → ∀ s, conv N (cntLen A) (cntLen B) s = cntLen (comb A B) s
  | [], _, s => by
    rw [comb_nil, cnt_nil]
    unfold conv
    exact sumF_zero fun i _ => by rw [cnt_nil, Int.zero_mul]
  | a :: A, h, s => by
    have e : cntLen (a :: A) = fun i => (if (a.length : Int) = i then 1 else 0) + cntLen A i := funext fun i => cnt_cons a A i
    rw [e, conv_add, cnt_comb (fun x hx => h x (by simp [hx])) s, comb_cons, cnt_app, cnt_map]
    congr 1
    exact sum_delta (g := fun i => cntLen B (s - i)) ⟨by omega, by have := h a (by simp); omega⟩
theorem opA_comb (c : Cell) : ∀ A : List (List Cell), opA (cntLen A) = cntLen (comb A [[], [c]])
  | [] => rfl
  | a :: A => by
    funext s
    have ih := congrFun (opA_comb c A) s
    unfold opA at ih ⊢
    rw [comb_cons, cnt_app, ← ih, cnt_cons, cnt_cons, List.map_cons, List.map_cons, List.map_nil, cnt_cons, cnt_cons, cnt_nil, List.append_nil, List.length_append, List.length_singleton]
    push_cast
    by_cases h : (a.length : Int) = s
    · rw [if_pos h, if_neg (by omega : ¬ (a.length : Int) = s - 1), if_neg (by omega : ¬ (a.length : Int) + 1 = s)]; omega
    · by_cases h2 : (a.length : Int) = s - 1
      · rw [if_neg h, if_pos h2, if_pos (by omega : (a.length : Int) + 1 = s)]; omega
      · rw [if_neg h, if_neg h2, if_neg (by omega : ¬ (a.length : Int) + 1 = s)]; omega
theorem opX_comb (c : Cell) : ∀ A : List (List Cell), opX (cntLen A) = cntLen (comb A [[c]])
  | [] => rfl
  | a :: A => by
    funext s
    have ih := congrFun (opX_comb c A) s
    unfold opX at ih ⊢
    rw [comb_cons, cnt_app, ← ih, cnt_cons, List.map_cons, List.map_nil, cnt_cons, cnt_nil, List.length_append, List.length_singleton]
    push_cast
    by_cases h2 : (a.length : Int) = s - 1
    · rw [if_pos h2, if_pos (by omega : (a.length : Int) + 1 = s)]; omega
    · rw [if_neg h2, if_neg (by omega : ¬ (a.length : Int) + 1 = s)]; omega
/-! the counts are those of a list of layings -/
def farRow (w : Option Cell) (c : Cell) : List (List Cell) := if some c = w then [[c]] else [[], [c]]
theorem farOp_comb {w : Option Cell} {c : Cell} {A : List (List Cell)} : farOp w c (cntLen A) = cntLen (comb A (farRow w c)) := by
  unfold farOp farRow
  split
  · exact opX_comb c A
  · exact opA_comb c A
def base (rows : List Tx) : List (List Cell) := if idleB rows = true then [[]] else []
def facs (rows : List Tx) (w : Option Cell) : List (List (List Cell)) := (partsOf rows).map (partRows rows w) ++ (farOf rows).map (farRow w)
def allL (rows : List Tx) (w : Option Cell) : List (List Cell) := (facs rows w).foldl comb (base rows)
theorem bfold_cnt {rows : List Tx} {w : Option Cell} : ∀ (ps : List (List Cell)) (f : ID) (A : List (List Cell)) (N : Nat), Poly N f → igI f = cntLen A → (∀ a ∈ A, a.length ≤ N) → igI (bfold rows w ps f) = cntLen ((ps.map (partRows rows w)).foldl comb A)
  | [], f, A, N, _, h, _ => h
  | p :: ps, f, A, N, hp, h, hA => by
    have hB := (partRows_len (rows := rows) (w := w) (p := p)).1
    have cp := counts_poly hB
    refine bfold_cnt ps (joinedI f (countsI (partRows rows w p))) (comb A (partRows rows w p)) (N + p.length) (joined_poly hp cp) ?_ fun x hx => ?_
    · funext s
      rw [joined_val hp cp, h, counts_val, cnt_comb hA]
    · obtain ⟨a, ha, b, hb, rfl⟩ := mem_comb.mp hx
      rw [List.length_append]
      have := hA a ha
      have := hB b hb
      omega
theorem farFold_cnt {w : Option Cell} : ∀ (cs : List Cell) (A : List (List Cell)), cs.foldl (fun f c => farOp w c f) (cntLen A) = cntLen ((cs.map (farRow w)).foldl comb A)
  | [], A => rfl
  | c :: cs, A => by rw [List.foldl_cons, farOp_comb, farFold_cnt cs]; rfl
theorem base_cnt (rows : List Tx) : igI [(0, b01 (idleB rows))] = cntLen (base rows) := by
  rw [ig0]
  funext s
  unfold base b01
  cases idleB rows with
  | true =>
    show (if s = 0 then 1 else 0) = cntLen [[]] s
    rw [cnt_cons, cnt_nil]
    by_cases h : s = 0
    · subst h; rfl
    · rw [if_neg h, if_neg (by simp only [List.length_nil]; omega)]; rfl
  | false => show (if s = 0 then 0 else 0) = cntLen [] s; rw [cnt_nil]; split <;> rfl
theorem bst_cnt {rows : List Tx} (v : Vw rows) (w : Option Cell) : igI (bstones rows w) = cntLen (allL rows w) := by
  rw [bstones_val v]
  unfold bparts
  rw [bfold_cnt (partsOf rows) [(0, b01 (idleB rows))] (base rows) 0 poly0 (base_cnt rows) (fun a ha => by
    unfold base at ha
    split at ha
    · rw [List.mem_singleton.mp ha]; exact Nat.le_refl _
    · cases ha), farFold_cnt]
  unfold allL facs
  rw [List.foldl_append]
/-! parts and far cells alike: cells, and what they may have -/
abbrev Fac := List Cell × List (List Cell)
def facsP (rows : List Tx) : List Fac := (partsOf rows).map (fun p => (p, playings rows p)) ++ (farOf rows).map fun c => ([c], [[], [c]])
def rowsC (c : Cell) (f : Fac) : List (List Cell) := if c ∈ f.1 then f.2.filter (fun r => decide (c ∈ r)) else f.2
def zOf (rows : List Tx) : List Cell := ((facsP rows).map (·.1)).flatten
theorem facs_none {rows : List Tx} : facs rows none = (facsP rows).map (·.2) := by
  unfold facs facsP
  rw [List.map_append, List.map_map, List.map_map]
  rfl
theorem facs_some {rows : List Tx} {c : Cell} : facs rows (some c) = (facsP rows).map (rowsC c) := by
  unfold facs facsP
  rw [List.map_append, List.map_map, List.map_map]
  congr 1
  · apply List.map_congr_left
    intro p _
    show partRows rows (some c) p = rowsC c (p, playings rows p)
    unfold partRows rowsC
    by_cases h : c ∈ p
    · rw [if_pos (show inO (some c) p = true from decide_eq_true h), if_pos h]; rfl
    · rw [if_neg (show ¬ inO (some c) p = true from fun z => h (of_decide_eq_true z)), if_neg h]
  · apply List.map_congr_left
    intro c' _
    show farRow (some c) c' = rowsC c ([c'], [[], [c']])
    unfold farRow rowsC
    by_cases h : c' = c
    · subst h
      rw [if_pos rfl, if_pos (by simp)]
      simp
    · rw [if_neg (fun z => h (Option.some.inj z)), if_neg (by simpa using fun e => h e.symm)]
def FacOk (f : Fac) : Prop := ∀ r ∈ f.2, r.Sublist f.1
theorem facsP_ok {rows : List Tx} : ∀ f ∈ facsP rows, FacOk f := fun f hf r hr => by
  unfold facsP at hf
  rcases List.mem_append.mp hf with h | h
  · obtain ⟨p, _, rfl⟩ := List.mem_map.mp h
    exact playings_sub hr
  · obtain ⟨c, _, rfl⟩ := List.mem_map.mp h
    simp only [List.mem_cons, List.not_mem_nil, or_false] at hr
    rcases hr with rfl | rfl
    · exact List.nil_sublist _
    · exact List.Sublist.refl _
theorem z_nd {rows : List Tx} (v : Vw rows) : (zOf rows).Nodup := by
  unfold zOf facsP
  rw [List.map_append, List.map_map, List.map_map, List.flatten_append]
  have e1 : (partsOf rows).map ((fun x : Fac => x.1) ∘ fun p => (p, playings rows p)) = partsOf rows := List.map_id'' (fun _ => rfl) _
  have e2 : ((farOf rows).map ((fun x : Fac => x.1) ∘ fun c => ([c], [[], [c]]))).flatten = farOf rows := by
    induction farOf rows with
    | nil => rfl
    | cons c l ih => rw [List.map_cons, List.flatten_cons, ih]; rfl
  rw [e1, e2]
  refine List.nodup_append.mpr ⟨List.pairwise_flatten.mpr ⟨fun p hp => (parts_ok v p hp).1, parts_dis v⟩, far_nd v, fun a ha b hb e => ?_⟩
  subst e
  obtain ⟨p, hp, h⟩ := List.mem_flatten.mp ha
  exact far_part v hb hp h
theorem mem_z {rows : List Tx} (v : Vw rows) {c : Cell} : c ∈ zOf rows ↔ c ∈ closedOf rows := by
  unfold zOf facsP
  rw [List.mem_flatten]
  constructor
  · rintro ⟨l, hl, hc⟩
    obtain ⟨f, hf, rfl⟩ := List.mem_map.mp hl
    rcases List.mem_append.mp hf with h | h
    · obtain ⟨p, hp, rfl⟩ := List.mem_map.mp h
      exact part_closed v hp hc
    · obtain ⟨c', hc', rfl⟩ := List.mem_map.mp h
      rw [List.mem_singleton.mp hc]
      exact far_closed hc'
  · intro hc
    by_cases h : ∃ p ∈ partsOf rows, c ∈ p
    · obtain ⟨p, hp, hcp⟩ := h
      exact ⟨p, List.mem_map.mpr ⟨(p, playings rows p), List.mem_append.mpr (.inl (List.mem_map.mpr ⟨p, hp, rfl⟩)), rfl⟩, hcp⟩
    · have hf := edge_far v hc fun p hp z => h ⟨p, hp, z⟩
      exact ⟨[c], List.mem_map.mpr ⟨([c], [[], [c]]), List.mem_append.mpr (.inr (List.mem_map.mpr ⟨c, hf, rfl⟩)), rfl⟩, by simp⟩
/-! the layings that have a cell -/
theorem comb_sub {A B : List (List Cell)} {z p : List Cell} (hA : ∀ a ∈ A, a.Sublist z) (hB : ∀ b ∈ B, b.Sublist p) : ∀ x ∈ comb A B, x.Sublist (z ++ p) := fun x hx => by
  obtain ⟨a, ha, b, hb, rfl⟩ := mem_comb.mp hx
  exact (hA a ha).append (hB b hb)
theorem fold_sub : ∀ {fs : List Fac} {A : List (List Cell)} {z : List Cell}, (∀ f ∈ fs, FacOk f) → (∀ a ∈ A, a.Sublist z) → ∀ x ∈ (fs.map (·.2)).foldl comb A, x.Sublist (z ++ (fs.map (·.1)).flatten)
  | [], A, z, _, hA => fun x hx => by simpa using hA x hx
  | f :: fs, A, z, hf, hA => by
    have := fold_sub (fs := fs) (fun g hg => hf g (by simp [hg])) (comb_sub hA (hf f (by simp)))
    rw [List.append_assoc] at this
    exact this
theorem filter_comb_left {A B : List (List Cell)} {c : Cell} (hB : ∀ b ∈ B, c ∉ b) : comb (A.filter fun r => decide (c ∈ r)) B = (comb A B).filter fun r => decide (c ∈ r) := by
  induction A with
  | nil => rfl
  | cons a A ih =>
    rw [comb_cons, List.filter_append, ← ih, List.filter_cons]
    by_cases h : c ∈ a
    · rw [if_pos (decide_eq_true h), comb_cons]
      congr 1
      rw [List.filter_eq_self.mpr]
      intro x hx
      obtain ⟨b, _, rfl⟩ := List.mem_map.mp hx
      exact decide_eq_true (List.mem_append.mpr (.inl h))
    · rw [if_neg (by simpa using h)]
      have e : (B.map fun b => a ++ b).filter (fun r => decide (c ∈ r)) = [] := List.filter_eq_nil_iff.mpr fun x hx => by
        obtain ⟨b, hb, rfl⟩ := List.mem_map.mp hx
        simp [h, hB b hb]
      rw [e]; rfl
theorem filter_comb_right {A B : List (List Cell)} {c : Cell} (hA : ∀ a ∈ A, c ∉ a) : comb A (B.filter fun r => decide (c ∈ r)) = (comb A B).filter fun r => decide (c ∈ r) := by
  induction A with
  | nil => rfl
  | cons a A ih =>
    rw [comb_cons, comb_cons, List.filter_append, ← ih fun x hx => hA x (by simp [hx])]
    congr 1
    rw [List.filter_map]
    congr 1
    apply List.filter_congr
    intro b _
    have := hA a (by simp)
    show decide (c ∈ b) = decide (c ∈ a ++ b)
    rw [decide_eq_decide, List.mem_append]
    exact ⟨.inr, fun z => z.elim (fun y => absurd y this) id⟩
theorem fold_no {c : Cell} : ∀ {fs : List Fac} {A : List (List Cell)}, (∀ f ∈ fs, FacOk f) → c ∉ (fs.map (·.1)).flatten → (fs.map (rowsC c)).foldl comb (A.filter fun r => decide (c ∈ r)) = ((fs.map (·.2)).foldl comb A).filter fun r => decide (c ∈ r)
  | [], A, _, _ => rfl
  | f :: fs, A, hf, hc => by
    rw [List.map_cons, List.flatten_cons, List.mem_append, not_or] at hc
    have e : rowsC c f = f.2 := if_neg hc.1
    rw [List.map_cons, List.map_cons, List.foldl_cons, List.foldl_cons, e, filter_comb_left fun b hb z => hc.1 ((hf f (by simp) b hb).subset z)]
    exact fold_no (fun g hg => hf g (by simp [hg])) hc.2
theorem fold_yes {c : Cell} : ∀ {fs : List Fac} {A : List (List Cell)}, (∀ f ∈ fs, FacOk f) → (fs.map (·.1)).flatten.Nodup → (∀ a ∈ A, c ∉ a) → c ∈ (fs.map (·.1)).flatten → (fs.map (rowsC c)).foldl comb A = ((fs.map (·.2)).foldl comb A).filter fun r => decide (c ∈ r)
  | [], A, _, _, _, hc => by cases hc
  | f :: fs, A, hf, nd, hA, hc => by
    rw [List.map_cons, List.flatten_cons] at hc nd
    obtain ⟨n1, n2, n3⟩ := List.nodup_append.mp nd
    rw [List.map_cons, List.map_cons, List.foldl_cons, List.foldl_cons]
    by_cases h : c ∈ f.1
    · have e : rowsC c f = f.2.filter fun r => decide (c ∈ r) := if_pos h
      rw [e, filter_comb_right hA]
      exact fold_no (fun g hg => hf g (by simp [hg])) fun z => n3 c h c z rfl
    · have e : rowsC c f = f.2 := if_neg h
      rw [e]
      refine fold_yes (fun g hg => hf g (by simp [hg])) n2 (fun x hx z => ?_) ((List.mem_append.mp hc).elim (fun z => absurd z h) id)
      obtain ⟨a, ha, b, hb, rfl⟩ := mem_comb.mp hx
      rcases List.mem_append.mp z with y | y
      · exact hA a ha y
      · exact h ((hf f (by simp) b hb).subset y)
theorem base_nil {rows : List Tx} : ∀ a ∈ base rows, a = [] := fun a ha => by
  unfold base at ha
  split at ha
  · exact List.mem_singleton.mp ha
  · cases ha
theorem all_some {rows : List Tx} (v : Vw rows) {c : Cell} (hc : c ∈ closedOf rows) : allL rows (some c) = (allL rows none).filter fun r => decide (c ∈ r) := by
  unfold allL
  rw [facs_some, facs_none]
  exact fold_yes facsP_ok (z_nd v) (fun a ha => by rw [base_nil a ha]; simp) ((mem_z v).mpr hc)
theorem all_sub {rows : List Tx} : ∀ x ∈ allL rows none, x.Sublist (zOf rows) := by
  unfold allL
  rw [facs_none]
  have := fold_sub (fs := facsP rows) (A := base rows) (z := []) facsP_ok fun a ha => by rw [base_nil a ha]; exact List.Sublist.refl _
  exact this
/-! counted twice -/
theorem sumF_const {α : Type} (t : Int) : ∀ l : List α, sumF l (fun _ => t) = l.length * t
  | [] => by rw [sumF_nil]; simp
  | x :: l => by rw [sumF_cons, sumF_const t l, List.length_cons]; push_cast; rw [Int.add_mul]; omega
theorem sum_in {cl x : List Cell} (nd : cl.Nodup) (xn : x.Nodup) (hs : ∀ y ∈ x, y ∈ cl) (t : Int) : sumF cl (fun c => if c ∈ x then t else 0) = x.length * t := by
  rw [sumF_filter (p := fun c => decide (c ∈ x)) fun c _ h => if_neg (of_decide_eq_false h)]
  rw [sumF_congr (h := fun _ => t) fun c hc => if_pos (of_decide_eq_true (List.mem_filter.mp hc).2), sumF_const]
  congr 2
  exact cnt_same (nd.sublist List.filter_sublist) xn fun y => by
    rw [List.mem_filter, decide_eq_true_iff]
    exact ⟨fun z => z.2, fun z => ⟨hs y z, z⟩⟩
theorem twice {cl : List Cell} (nd : cl.Nodup) (s : Int) : ∀ {X : List (List Cell)}, (∀ x ∈ X, x.Nodup ∧ ∀ y ∈ x, y ∈ cl) → sumF cl (fun c => cntLen (X.filter fun r => decide (c ∈ r)) s) = s * cntLen X s
  | [], _ => by rw [cnt_nil, Int.mul_zero]; exact sumF_zero fun _ _ => rfl
  | x :: X, h => by
    have ih := twice nd s (X := X) fun y hy => h y (by simp [hy])
    obtain ⟨xn, xs⟩ := h x (by simp)
    have e : ∀ c ∈ cl, cntLen ((x :: X).filter fun r => decide (c ∈ r)) s = (if c ∈ x then (if (x.length : Int) = s then 1 else 0) else 0) + cntLen (X.filter fun r => decide (c ∈ r)) s := fun c _ => by
      rw [List.filter_cons]
      by_cases hc : c ∈ x
      · rw [if_pos (decide_eq_true hc), cnt_cons, if_pos hc]
      · rw [if_neg (by simpa using hc), if_neg hc, Int.zero_add]
    rw [sumF_congr e, sumF_add, ih, sum_in nd xn xs, cnt_cons, Int.mul_add]
    congr 1
    by_cases hl : (x.length : Int) = s
    · rw [if_pos hl, hl]
    · rw [if_neg hl, Int.mul_zero, Int.mul_zero]
theorem closed_nd {rows : List Tx} (v : Vw rows) : (closedOf rows).Nodup := srt_nd (srt_filter (allCells_srt v.dim))
theorem all_ok {rows : List Tx} (v : Vw rows) : ∀ x ∈ allL rows none, x.Nodup ∧ ∀ y ∈ x, y ∈ closedOf rows := fun x hx =>
  ⟨(z_nd v).sublist (all_sub x hx), fun y hy => (mem_z v).mp ((all_sub x hx).subset hy)⟩
/-- all chances come to the count -/
theorem chances_sum {rows : List Tx} (v : Vw rows) (s : Int) : sumF (closedOf rows) (fun c => igI (bstones rows (some c)) s) = s * igI (bstones rows none) s := by
  rw [bst_cnt v none, ← twice (closed_nd v) s (all_ok v)]
  exact sumF_congr fun c hc => by rw [bst_cnt v, all_some v hc]
theorem cnt_filter_le (p : List Cell → Bool) (s : Int) : ∀ X : List (List Cell), cntLen (X.filter p) s ≤ cntLen X s
  | [] => Int.le_refl _
  | x :: X => by
    have ih := cnt_filter_le p s X
    rw [List.filter_cons, cnt_cons]
    split
    · rw [cnt_cons]; omega
    · split <;> omega
theorem chance_le {rows : List Tx} (v : Vw rows) {c : Cell} (hc : c ∈ closedOf rows) (s : Int) : 0 ≤ igI (bstones rows (some c)) s ∧ igI (bstones rows (some c)) s ≤ igI (bstones rows none) s := by
  rw [bst_cnt v, bst_cnt v, all_some v hc]
  exact ⟨cntLen_bd.1, cnt_filter_le _ _ _⟩
/-! what a count above 0 tells -/
theorem fold_nil : ∀ {Bs : List (List (List Cell))}, Bs.foldl comb [] = []
  | [] => rfl
  | B :: Bs => by rw [List.foldl_cons, comb_nil]; exact fold_nil
theorem fold_ne : ∀ {Bs : List (List (List Cell))} {A : List (List Cell)}, Bs.foldl comb A ≠ [] → A ≠ [] ∧ ∀ B ∈ Bs, B ≠ []
  | [], A, h => ⟨h, fun B hB => by cases hB⟩
  | B :: Bs, A, h => by
    obtain ⟨h1, h2⟩ := fold_ne (Bs := Bs) h
    refine ⟨fun e => h1 (by rw [e]; rfl), fun C hC => ?_⟩
    rcases List.mem_cons.mp hC with rfl | hC
    · intro e
      apply h1
      rw [e]
      unfold comb
      simp
    · exact h2 C hC
theorem can_of_count {rows : List Tx} (v : Vw rows) {s : Int} (h : 1 ≤ igI (bstones rows none) s) : canB rows = true := by
  rw [bst_cnt v] at h
  have hne : allL rows none ≠ [] := fun e => by rw [e, cnt_nil] at h; omega
  obtain ⟨h1, h2⟩ := fold_ne hne
  unfold canB
  rw [Bool.and_eq_true, List.all_eq_true]
  constructor
  · unfold base at h1
    split at h1
    · assumption
    · exact absurd rfl h1
  · intro p hp
    have := h2 (playings rows p) (List.mem_append.mpr (.inl (List.mem_map.mpr ⟨p, hp, rfl⟩)))
    cases e : playings rows p with
    | nil => exact absurd e this
    | cons => rfl
theorem sure_stone_count {rows : List Tx} (v : Vw rows) {c : Cell} (h : kindT (kindsOf rows c) = txStone) : bstones rows (some c) = bstones rows none ∨ igI (bstones rows (some c)) = igI (bstones rows none) := by
  right
  obtain ⟨p, hp, hcp, hall⟩ := (kind_stone v).mp h
  rw [bst_cnt v, bst_cnt v]
  congr 1
  unfold allL
  congr 1
  rw [facs_some, facs_none]
  apply List.map_congr_left
  intro f hf
  unfold rowsC
  split
  · rename_i hc
    rcases List.mem_append.mp hf with h | h
    · obtain ⟨q, hq, rfl⟩ := List.mem_map.mp h
      have := part_one v hp hq hcp hc
      subst this
      exact List.filter_eq_self.mpr fun r hr => decide_eq_true (hall r hr)
    · obtain ⟨c', hc', rfl⟩ := List.mem_map.mp h
      rw [← List.mem_singleton.mp hc] at hc'
      exact absurd hcp (far_part v hc' hp)
  · rfl
theorem sure_none_count {rows : List Tx} (v : Vw rows) {c : Cell} (h : kindT (kindsOf rows c) = txNone) (s : Int) : igI (bstones rows (some c)) s = 0 := by
  obtain ⟨p, hp, hcp, _, hall⟩ := (kind_none v).mp h
  rw [bst_cnt v]
  have : allL rows (some c) = [] := by
    by_cases e : allL rows (some c) = []
    · exact e
    · have := (fold_ne e).2 (partRows rows (some c) p) (List.mem_append.mpr (.inl (List.mem_map.mpr ⟨p, hp, rfl⟩)))
      exfalso
      apply this
      unfold partRows
      rw [if_pos (show inO (some c) p = true from decide_eq_true hcp)]
      exact List.filter_eq_nil_iff.mpr fun r hr z => hall r hr (of_decide_eq_true z)
  rw [this, cnt_nil]
end DF

namespace DF
open R (rp)
open Dt (toD)
/-! ### k13: the chances, added up as the law does it -/
theorem le_pow {i : Int} {a b : Nat} (h : i ≤ 2 ^ a) (hab : a < b) : i < 2 ^ b := by
  refine Int.lt_of_le_of_lt h ?_
  have : (2 : Nat) ^ a < 2 ^ b := Nat.pow_lt_pow_right (by decide) hab
  have h2 : (((2 : Nat) ^ a : Nat) : Int) < (((2 : Nat) ^ b : Nat) : Int) := Int.ofNat_lt.mpr this
  simpa using h2
def oneOf (b t : Int) : Int := b / gcdI b t
def twoOf (b t : Int) : Int := t / gcdI b t
theorem frac {b t : Int} (hb : 0 ≤ b) (hbt : b ≤ t) (ht : 0 < t) : oneOf b t * t = twoOf b t * b ∧ (0 ≤ oneOf b t ∧ oneOf b t ≤ twoOf b t) ∧ 0 < twoOf b t ∧ twoOf b t ≤ t := by
  obtain ⟨_, h2, h3, h4⟩ := gcd_low hb ht
  have g1 := gcd_pos (a := b) ht
  refine ⟨h2, ⟨h3, ?_⟩, h4, ?_⟩
  · have h : oneOf b t * t ≤ twoOf b t * t := by
      show b / gcdI b t * t ≤ t / gcdI b t * t
      rw [h2]
      exact Int.mul_le_mul_of_nonneg_left hbt (Int.le_of_lt h4)
    exact Int.le_of_mul_le_mul_right h ht
  · exact Int.ediv_le_self _ (Int.le_of_lt ht)
theorem gcd_self {t : Int} (ht : 0 < t) : gcdI t t = t := by
  unfold gcdI
  rw [Nat.gcd_self]; omega
theorem frac_all {t : Int} (ht : 0 < t) : oneOf t t = 1 ∧ twoOf t t = 1 := by
  unfold oneOf twoOf
  rw [gcd_self ht, Int.ediv_self (by omega)]
  exact ⟨rfl, rfl⟩
theorem frac_no {t : Int} (ht : 0 < t) : oneOf 0 t = 0 ∧ twoOf 0 t = 1 := by
  have e : gcdI 0 t = t := by
    unfold gcdI
    rw [show (0 : Int).toNat = 0 from rfl, Nat.gcd_zero_left]; omega
  unfold oneOf twoOf
  rw [e, Int.ediv_self (by omega), Int.zero_ediv]
  exact ⟨rfl, rfl⟩
structure Acc (t : Int) (B : Cell → Int) (done : List Cell) (top under : Int) : Prop where
  t0 : 0 ≤ top
  td : top ≤ done.length * under
  u0 : 0 < under
  ub : under ≤ 2 ^ (480 * done.length)
  eq : top * t = sumF done B * under
theorem Acc.start (t : Int) (B : Cell → Int) : Acc t B [] 0 1 := ⟨by omega, by simp, by omega, by simp, by rw [sumF_nil]; omega⟩
theorem Acc.step {t : Int} {B : Cell → Int} {done : List Cell} {top under : Int} (a : Acc t B done top under) {c : Cell} (hb : 0 ≤ B c) (hbt : B c ≤ t) (ht : 0 < t) (h480 : t < 2 ^ 480) :
    Acc t B (done ++ [c]) (top * twoOf (B c) t + oneOf (B c) t * under) (under * twoOf (B c) t) := by
  obtain ⟨f1, ⟨f2, f3⟩, f4, f5⟩ := frac hb hbt ht
  have hu := a.u0
  have e1 : ((done ++ [c]).length : Int) = done.length + 1 := by rw [List.length_append, List.length_singleton]; push_cast; rfl
  refine ⟨Int.add_nonneg (Int.mul_nonneg a.t0 (Int.le_of_lt f4)) (Int.mul_nonneg f2 (Int.le_of_lt hu)), ?_, Int.mul_pos hu f4, ?_, ?_⟩
  · rw [e1, Int.add_mul, Int.one_mul, ← Int.mul_assoc]
    refine Int.add_le_add (Int.mul_le_mul_of_nonneg_right a.td (Int.le_of_lt f4)) ?_
    rw [Int.mul_comm under]
    exact Int.mul_le_mul_of_nonneg_right f3 (Int.le_of_lt hu)
  · rw [List.length_append, List.length_singleton, Nat.mul_add, Nat.mul_one, Int.pow_add]
    exact Int.mul_le_mul a.ub (Int.le_trans f5 (Int.le_of_lt h480)) (Int.le_of_lt f4) (Int.le_of_lt (Int.pow_pos (by decide)))
  · rw [sumF_app, sumF_cons, sumF_nil, Int.add_zero, Int.add_mul, Int.add_mul]
    rw [show top * twoOf (B c) t * t = (top * t) * twoOf (B c) t by rw [Int.mul_assoc, Int.mul_comm (twoOf (B c) t), ← Int.mul_assoc], a.eq]
    rw [show oneOf (B c) t * under * t = (oneOf (B c) t * t) * under by rw [Int.mul_assoc, Int.mul_comm under, ← Int.mul_assoc], f1]
    congr 1
    · rw [Int.mul_assoc]
    · rw [Int.mul_comm under, ← Int.mul_assoc, Int.mul_comm (B c)]
theorem Acc.fin {t : Int} {B : Cell → Int} {done : List Cell} {top under k : Int} (a : Acc t B done top under) (ht : 0 < t) (h : sumF done B = k * t) : top = k * under := by
  have := a.eq
  rw [h] at this
  refine Int.eq_of_mul_eq_mul_right (a := t) (by omega) ?_
  rw [this, Int.mul_assoc, Int.mul_comm t, ← Int.mul_assoc]
theorem Acc.bits {t : Int} {B : Cell → Int} {done : List Cell} {top under : Int} (a : Acc t B done top under) (hl : done.length ≤ 36) : under.natAbs.log2 < 20000 ∧ top.natAbs.log2 < 20000 := by
  have h1 : under < 2 ^ 20000 := le_pow a.ub (by omega)
  refine ⟨log2_bd (Int.le_of_lt a.u0) h1 (by decide), log2_bd a.t0 ?_ (by decide)⟩
  have h2 : under < 2 ^ 17281 := le_pow a.ub (by omega)
  have h3 : top ≤ 36 * under := Int.le_trans a.td (Int.mul_le_mul_of_nonneg_right (by omega) (Int.le_of_lt a.u0))
  have h4 : (36 : Int) * under < 2 ^ 6 * 2 ^ 17281 := by
    have e : (2 : Int) ^ 6 = 64 := by decide
    rw [e]
    have := a.u0
    generalize (2 : Int) ^ 17281 = z at h2
    omega
  rw [← Int.pow_add] at h4
  exact Int.lt_trans (Int.lt_of_le_of_lt h3 h4) (le_pow (Int.le_refl _) (by decide))
end DF

namespace DF
open R (rp)
open Dt (toD)
/-! ### k14: the counts come to the product -/
theorem cnt_zero_of {X : List (List Cell)} {s : Int} (h : ∀ x ∈ X, (x.length : Int) ≠ s) : cntLen X s = 0 := by
  induction X with
  | nil => rfl
  | cons x X ih =>
    rw [cnt_cons, if_neg (h x (by simp)), ih fun y hy => h y (by simp [hy])]; rfl
theorem cnt_total {N : Nat} : ∀ {X : List (List Cell)}, (∀ x ∈ X, x.length ≤ N) → sumF (irange 0 (N + 1)) (cntLen X) = X.length
  | [], _ => sumF_zero fun _ _ => rfl
  | x :: X, h => by
    rw [sumF_congr (h := fun s => (if (x.length : Int) = s then 1 else 0) * 1 + cntLen X s) fun s _ => by rw [cnt_cons, Int.mul_one], sumF_add, cnt_total fun y hy => h y (by simp [hy])]
    rw [sum_delta (N := N) (k := (x.length : Int)) ⟨by omega, by have := h x (by simp); omega⟩ (fun _ => 1), List.length_cons]
    push_cast; omega
theorem fold_len : ∀ {Bs : List (List (List Cell))} {A : List (List Cell)}, (Bs.foldl comb A).length = Bs.foldl (fun d B => d * B.length) A.length
  | [], A => rfl
  | B :: Bs, A => by rw [List.foldl_cons, List.foldl_cons, fold_len, comb_len]
def mulP (rows : List Tx) (d : Int) (p : List Cell) : Int := d * ((playings rows p).length : Int)
def mulF (d : Int) (_ : Cell) : Int := d * 2
theorem foldl_int {α : Type} {f : Nat → α → Nat} {g : Int → α → Int} (h : ∀ d x, ((f d x : Nat) : Int) = g d x) : ∀ (l : List α) (d : Nat), ((l.foldl f d : Nat) : Int) = l.foldl g d
  | [], _ => rfl
  | x :: l, d => by rw [List.foldl_cons, List.foldl_cons, foldl_int h l, h]
theorem foldl_zero {α : Type} {g : Int → α → Int} (h : ∀ x, g 0 x = 0) : ∀ l : List α, l.foldl g 0 = 0
  | [] => rfl
  | x :: l => by rw [List.foldl_cons, h, foldl_zero h l]
def dueI (rows : List Tx) : Int := (farOf rows).foldl mulF ((partsOf rows).foldl (mulP rows) 1)
theorem all_len {rows : List Tx} : ((allL rows none).length : Int) = if idleB rows = true then dueI rows else 0 := by
  unfold allL facs
  rw [fold_len, List.foldl_append, List.foldl_map, List.foldl_map, foldl_int (g := mulF) (fun d x => by show ((d * (farRow none x).length : Nat) : Int) = d * 2; rw [show (farRow none x).length = 2 from rfl]; push_cast; rfl),
    foldl_int (g := mulP rows) (fun d p => by show ((d * (partRows rows none p).length : Nat) : Int) = d * _; rw [show partRows rows none p = playings rows p from rfl]; push_cast; rfl)]
  unfold base
  split
  · rfl
  · show List.foldl mulF (List.foldl (mulP rows) 0 (partsOf rows)) (farOf rows) = 0
    rw [foldl_zero (g := mulP rows) (fun p => by unfold mulP; rw [Int.zero_mul]), foldl_zero (g := mulF) (fun p => by unfold mulF; rw [Int.zero_mul])]
theorem all_short {rows : List Tx} (v : Vw rows) : ∀ x ∈ allL rows none, x.length ≤ (closedOf rows).length := fun x hx => nodup_le (all_ok v x hx).1 (all_ok v x hx).2
def cntsOf (rows : List Tx) : List Int := (irange 0 ((closedOf rows).length + 1)).map (igI (bstones rows none))
theorem some_len {rows : List Tx} : (cntsOf rows).length = (closedOf rows).length + 1 := by unfold cntsOf; rw [List.length_map, irange_len]
theorem some_sum {rows : List Tx} (v : Vw rows) : (cntsOf rows).sum = if idleB rows = true then dueI rows else 0 := by
  rw [← all_len, ← cnt_total (all_short v), ← bst_cnt v]
  rfl
theorem some_out {rows : List Tx} (v : Vw rows) {s : Int} (h : s < 0 ∨ ((closedOf rows).length : Int) < s) : igI (bstones rows none) s = 0 := by
  rw [bst_cnt v]
  exact cnt_zero_of fun x hx e => by have := all_short v x hx; omega
/-- a laying that keeps the view is one of them -/
theorem fold_mem {own : List Cell} : ∀ {fs : List Fac} {A : List (List Cell)} {a : List Cell}, a ∈ A → (∀ f ∈ fs, (f.1.filter fun x => decide (x ∈ own)) ∈ f.2) → a ++ ((fs.map (·.1)).flatten.filter fun x => decide (x ∈ own)) ∈ (fs.map (·.2)).foldl comb A
  | [], A, a, h, _ => by simpa using h
  | f :: fs, A, a, h, hf => by
    rw [List.map_cons, List.map_cons, List.flatten_cons, List.filter_append, ← List.append_assoc, List.foldl_cons]
    exact fold_mem (mem_comb.mpr ⟨a, h, _, hf f (by simp), rfl⟩) fun g hg => hf g (by simp [hg])
theorem own_mem {rows : List Tx} (v : Vw rows) {own : List Cell} (hs : ∀ x ∈ own, x ∈ closedOf rows) (hk : keepsB rows own = true) : ((zOf rows).filter fun x => decide (x ∈ own)) ∈ allL rows none := by
  obtain ⟨hi, hp⟩ := (keeps_iff v hs).mp hk
  unfold allL
  rw [facs_none]
  have hb : ([] : List Cell) ∈ base rows := by unfold base; rw [if_pos hi]; simp
  refine fold_mem hb fun f hf => ?_
  rcases List.mem_append.mp hf with h | h
  · obtain ⟨p, h1, rfl⟩ := List.mem_map.mp h
    exact hp p h1
  · obtain ⟨c, _, rfl⟩ := List.mem_map.mp h
    show (List.filter _ [c]) ∈ [[], [c]]
    by_cases hc : c ∈ own
    · rw [List.filter_cons, if_pos (decide_eq_true hc)]; simp
    · rw [List.filter_cons, if_neg (by simpa using hc)]; simp
theorem cnt_pos {X : List (List Cell)} {x : List Cell} (h : x ∈ X) : 0 < cntLen X x.length := by
  induction X with
  | nil => cases h
  | cons y X ih =>
    rw [cnt_cons]
    have := (cntLen_bd (rws := X) (s := (x.length : Int))).1
    rcases List.mem_cons.mp h with rfl | h
    · rw [if_pos rfl]; omega
    · have := ih h
      split <;> omega
theorem own_count {rows : List Tx} (v : Vw rows) {own : List Cell} (nd : own.Nodup) (hs : ∀ x ∈ own, x ∈ closedOf rows) (hk : keepsB rows own = true) : 0 < igI (bstones rows none) own.length := by
  have e : ((zOf rows).filter fun x => decide (x ∈ own)).length = own.length := cnt_same ((z_nd v).sublist List.filter_sublist) nd fun x => by
    rw [List.mem_filter, decide_eq_true_iff]
    exact ⟨fun z => z.2, fun z => ⟨(mem_z v).mpr (hs x z), z⟩⟩
  rw [bst_cnt v, ← e]
  exact cnt_pos (own_mem v hs hk)
/-! how great the product gets -/
theorem mul_bd {d m : Int} {a b : Nat} (h0 : 0 ≤ d) (h : d ≤ 2 ^ a) (m0 : 0 ≤ m) (hm : m ≤ 2 ^ b) : 0 ≤ d * m ∧ d * m ≤ 2 ^ (a + b) := by
  refine ⟨Int.mul_nonneg h0 m0, ?_⟩
  rw [Int.pow_add]
  exact Int.mul_le_mul h hm m0 (Int.le_of_lt (Int.pow_pos (by decide)))
theorem mulP_bd {rows : List Tx} {p : List Cell} {d : Int} {a : Nat} (hp : p.length ≤ 12) (h : 0 ≤ d ∧ d ≤ 2 ^ a) : 0 ≤ mulP rows d p ∧ mulP rows d p ≤ 2 ^ (a + 12) :=
  mul_bd h.1 h.2 (by omega) (by
    have := playings_len (rows := rows) hp
    have e : (2 : Int) ^ 12 = 4096 := by decide
    rw [e]; omega)
theorem mulF_bd {c : Cell} {d : Int} {a : Nat} (h : 0 ≤ d ∧ d ≤ 2 ^ a) : 0 ≤ mulF d c ∧ mulF d c ≤ 2 ^ (a + 1) := mul_bd h.1 h.2 (by decide) (by decide)
theorem sgn_ok {rows : List Tx} (v : Vw rows) (c : Cell) : sgn rows c < 1114112 := by
  unfold sgn
  rw [List.getD_eq_getElem?_getD, List.getD_eq_getElem?_getD]
  cases h : rows[c.1.toNat]? with
  | none => simp
  | some t =>
    show (t.cs[c.2.toNat]?).getD 0 < _
    cases h2 : t.cs[c.2.toNat]? with
    | none => simp
    | some k => exact vw_ok v t (List.mem_of_getElem? h) k (List.mem_of_getElem? h2)
/-! a view that the law makes is kept by its stones -/
theorem known_free {ns : List Int} {h w : Int} {st : List Cell} (d : Dim h w) : ∀ (ks : List Int) (kn : List Cell), (∀ k ∈ ks, 0 ≤ k) → (∀ x ∈ kn, inF h w x = true ∧ x ∉ st) → ∀ x ∈ ks.foldl (kstep ns h w st (freeOf h w st)) kn, inF h w x = true ∧ x ∉ st
  | [], kn, _, hk => hk
  | k :: ks, kn, h0, hk => by
    rw [List.foldl_cons]
    refine known_free d ks _ (fun j hj => h0 j (by simp [hj])) fun x hx => ?_
    unfold kstep at hx
    split at hx
    · rename_i hl
      generalize hL : (freeOf h w st).filter (fun x => !decide (x ∈ kn)) = L at hx hl
      rcases List.mem_append.mp hx with hx | hx
      · exact hk x hx
      · have hm := mix_bd (c := cellAt ns (11 + k)) (k := k) (m := (L.length : Int)) (by omega)
        have hmem : L.getD (mix (cellAt ns (11 + k)) k L.length).toNat (0, 0) ∈ L := by
          rw [List.getD_eq_getElem?_getD, List.getElem?_eq_getElem (show (mix (cellAt ns (11 + k)) k L.length).toNat < L.length by omega)]
          exact List.getElem_mem _
        have hf : L.getD (mix (cellAt ns (11 + k)) k L.length).toNat (0, 0) ∈ freeOf h w st := by
          rw [← hL] at hmem ⊢
          exact (List.mem_filter.mp hmem).1
        generalize L.getD (mix (cellAt ns (11 + k)) k L.length).toNat (0, 0) = c at hf hx
        refine lgo_ind (Pr := fun x => inF h w x = true ∧ x ∉ st) (fun c x _ hc hx _ => ⟨lnear_in hx, lgrow_zero hc hx⟩) 37 [c] 0 (fun y hy => ?_) x hx
        rw [List.mem_singleton.mp hy]
        exact freeOf_in hf
    · exact hk x hx
theorem viewBy_keeps {ns : List Int} {most steps : Int} (hm : 1 ≤ most ∧ most ≤ 6) : Srt (viewBy ns most steps).2 ∧ (∀ x ∈ (viewBy ns most steps).2, x ∈ closedOf (viewBy ns most steps).1) ∧ keepsB (viewBy ns most steps).1 (viewBy ns most steps).2 = true := by
  have d6 := fieldBy_dim (ns := ns) hm
  have d : Dim (fieldBy ns most).h (fieldBy ns most).w := by omega
  have hst : Srt (fieldBy ns most).stones := stonesOf_srt d
  have hsi : ∀ x ∈ (fieldBy ns most).stones, x ∈ allCells (fieldBy ns most).h (fieldBy ns most).w := stonesOf_sub
  unfold viewBy
  have hkn := known_free (ns := ns) (st := (fieldBy ns most).stones) d (irange 0 (cellAt ns 10 % steps).toNat) [] (fun k hk => (mem_irange.mp hk).1) (fun x hx => by cases hx)
  change ∀ x ∈ knownBy ns (fieldBy ns most).h (fieldBy ns most).w (fieldBy ns most).stones (cellAt ns 10 % steps), _ at hkn
  generalize knownBy ns (fieldBy ns most).h (fieldBy ns most).w (fieldBy ns most).stones (cellAt ns 10 % steps) = kn at hkn
  generalize fieldBy ns most = F at d6 d hst hsi hkn
  obtain ⟨h, w, st⟩ := F
  dsimp only at *
  have hkeys : keysOf ⟨0, h, w, st, ((allCells h w).filter fun x => decide (x ∈ kn)).map fun x => (x, true), false⟩ = (allCells h w).filter fun x => decide (x ∈ kn) := by
    unfold keysOf
    rw [List.map_map]
    exact List.map_id'' (fun _ => rfl) _
  have gi : GIn ⟨0, h, w, st, ((allCells h w).filter fun x => decide (x ∈ kn)).map fun x => (x, true), false⟩ := by
    refine ⟨by show 1 ≤ h ∧ h ≤ 6; omega, by show 1 ≤ w ∧ w ≤ 6; omega, hst, fun x hx => (inF_cells d).mpr (hsi x hx), ?_, ?_, ?_⟩
    · rw [hkeys]; exact (srt_nd (allCells_srt d)).sublist List.filter_sublist
    · rw [hkeys]; intro x hx; exact (hkn x (of_decide_eq_true (List.mem_filter.mp hx).2)).1
    · rw [hkeys]; intro x hx; exact (hkn x (of_decide_eq_true (List.mem_filter.mp hx).2)).2
  have e : lshown h w st kn = gview ⟨0, h, w, st, ((allCells h w).filter fun x => decide (x ∈ kn)).map fun x => (x, true), false⟩ := by
    unfold gview
    rw [hkeys]
    refine lshown_congr fun x => ?_
    rw [List.mem_filter, decide_eq_true_iff]
    exact ⟨fun z => ⟨(inF_cells d).mp (hkn x z).1, z⟩, fun z => z.2⟩
  rw [e]
  exact ⟨hst, stones_closed gi, stones_keep gi⟩
end DF

namespace DF
open R (rp)
open Dt (toD)
open PySem L2
/-! ### where the defs of the linked text stand -/
def top (i : Nat) : Stmt := PySem.Challenge.pw_dampfield_k14_whole_counts_together.main.body.getD i (.Pass ⟨0, 0, 0, 0⟩)
abbrev s_rising : Stmt := top 8
abbrev N_rising : List Str := ["cells", "k"]
theorem sc_rising : FnScope N_rising ["cells"] (defScope s_rising) := ⟨rfl, rfl, rfl, by decide +kernel, rfl, by decide +kernel, by decide +kernel⟩
abbrev s_all_cells : Stmt := top 9
abbrev N_all_cells : List Str := ["height", "width", "found", "r", "c"]
theorem sc_all_cells : FnScope N_all_cells ["height", "width"] (defScope s_all_cells) := ⟨rfl, rfl, rfl, by decide +kernel, rfl, by decide +kernel, by decide +kernel⟩
abbrev s_around : Stmt := top 10
abbrev N_around : List Str := ["height", "width", "cell", "found", "r", "c"]
theorem sc_around : FnScope N_around ["height", "width", "cell"] (defScope s_around) := ⟨rfl, rfl, rfl, by decide +kernel, rfl, by decide +kernel, by decide +kernel⟩
abbrev s_rows_right : Stmt := top 11
abbrev N_rows_right : List Str := ["rows", "row", "letter"]
theorem sc_rows_right : FnScope N_rows_right ["rows"] (defScope s_rows_right) := ⟨rfl, rfl, rfl, by decide +kernel, rfl, by decide +kernel, by decide +kernel⟩
abbrev s_closed : Stmt := top 13
abbrev N_closed : List Str := ["view", "cell"]
theorem sc_closed : FnScope N_closed ["view"] (defScope s_closed) := ⟨rfl, rfl, rfl, by decide +kernel, rfl, by decide +kernel, by decide +kernel⟩
abbrev s_is_edge : Stmt := top 14
abbrev N_is_edge : List Str := ["view", "cell", "other"]
theorem sc_is_edge : FnScope N_is_edge ["view", "cell"] (defScope s_is_edge) := ⟨rfl, rfl, rfl, by decide +kernel, rfl, by decide +kernel, by decide +kernel⟩
abbrev s_edge : Stmt := top 15
abbrev N_edge : List Str := ["view", "cell"]
theorem sc_edge : FnScope N_edge ["view"] (defScope s_edge) := ⟨rfl, rfl, rfl, by decide +kernel, rfl, by decide +kernel, by decide +kernel⟩
abbrev s_far : Stmt := top 16
abbrev N_far : List Str := ["view", "cell"]
theorem sc_far : FnScope N_far ["view"] (defScope s_far) := ⟨rfl, rfl, rfl, by decide +kernel, rfl, by decide +kernel, by decide +kernel⟩
abbrev s_keeps : Stmt := top 17
abbrev N_keeps : List Str := ["view", "laying", "hidden", "cell", "other"]
theorem sc_keeps : FnScope N_keeps ["view", "laying"] (defScope s_keeps) := ⟨rfl, rfl, rfl, by decide +kernel, rfl, by decide +kernel, by decide +kernel⟩
abbrev s_open_near : Stmt := top 20
abbrev N_open_near : List Str := ["view", "cells", "found", "cell", "other"]
theorem sc_open_near : FnScope N_open_near ["view", "cells"] (defScope s_open_near) := ⟨rfl, rfl, rfl, by decide +kernel, rfl, by decide +kernel, by decide +kernel⟩
abbrev s_parts : Stmt := top 21
abbrev N_parts : List Str := ["view", "left", "found", "part", "at", "other", "one", "cell"]
theorem sc_parts : FnScope N_parts ["view"] (defScope s_parts) := ⟨rfl, rfl, rfl, by decide +kernel, rfl, by decide +kernel, by decide +kernel⟩
abbrev s_part_of : Stmt := top 22
abbrev N_part_of : List Str := ["view", "cell", "part"]
theorem sc_part_of : FnScope N_part_of ["view", "cell"] (defScope s_part_of) := ⟨rfl, rfl, rfl, by decide +kernel, rfl, by decide +kernel, by decide +kernel⟩
abbrev s_check_size : Stmt := top 23
abbrev N_check_size : List Str := ["part"]
theorem sc_check_size : FnScope N_check_size ["part"] (defScope s_check_size) := ⟨rfl, rfl, rfl, by decide +kernel, rfl, by decide +kernel, by decide +kernel⟩
abbrev s_can_still : Stmt := top 24
abbrev N_can_still : List Str := ["view", "told", "chosen", "left", "cell", "beside", "many", "more", "one"]
theorem sc_can_still : FnScope N_can_still ["view", "told", "chosen", "left"] (defScope s_can_still) := ⟨rfl, rfl, rfl, by decide +kernel, rfl, by decide +kernel, by decide +kernel⟩
abbrev s_part_layings : Stmt := top 25
abbrev N_part_layings : List Str := ["view", "part", "told", "rows", "k", "cell", "longer", "row", "more"]
theorem sc_part_layings : FnScope N_part_layings ["view", "part"] (defScope s_part_layings) := ⟨rfl, rfl, rfl, by decide +kernel, rfl, by decide +kernel, by decide +kernel⟩
abbrev s_layings : Stmt := top 26
abbrev N_layings : List Str := ["view", "cell", "part"]
theorem sc_layings : FnScope N_layings ["view", "cell"] (defScope s_layings) := ⟨rfl, rfl, rfl, by decide +kernel, rfl, by decide +kernel, by decide +kernel⟩
abbrev s_idle_right : Stmt := top 28
abbrev N_idle_right : List Str := ["view", "told", "cell"]
theorem sc_idle_right : FnScope N_idle_right ["view"] (defScope s_idle_right) := ⟨rfl, rfl, rfl, by decide +kernel, rfl, by decide +kernel, by decide +kernel⟩
abbrev s_joined : Stmt := top 29
abbrev N_joined : List Str := ["one", "other", "found", "few", "more"]
theorem sc_joined : FnScope N_joined ["one", "other"] (defScope s_joined) := ⟨rfl, rfl, rfl, by decide +kernel, rfl, by decide +kernel, by decide +kernel⟩
abbrev s_choices : Stmt := top 30
abbrev N_choices : List Str := ["many", "found", "k"]
theorem sc_choices : FnScope N_choices ["many"] (defScope s_choices) := ⟨rfl, rfl, rfl, by decide +kernel, rfl, by decide +kernel, by decide +kernel⟩
abbrev s_by_stones : Stmt := top 31
abbrev N_by_stones : List Str := ["view", "wanted", "found", "part", "rows", "counts", "row", "free"]
theorem sc_by_stones : FnScope N_by_stones ["view", "wanted"] (defScope s_by_stones) := ⟨rfl, rfl, rfl, by decide +kernel, rfl, by decide +kernel, by decide +kernel⟩
abbrev s_count : Stmt := top 32
abbrev N_count : List Str := ["view", "stones"]
theorem sc_count : FnScope N_count ["view", "stones"] (defScope s_count) := ⟨rfl, rfl, rfl, by decide +kernel, rfl, by decide +kernel, by decide +kernel⟩
abbrev s__law_cell_at : Stmt := top 34
abbrev N__law_cell_at : List Str := ["script", "k"]
theorem sc__law_cell_at : FnScope N__law_cell_at ["script", "k"] (defScope s__law_cell_at) := ⟨rfl, rfl, rfl, by decide +kernel, rfl, by decide +kernel, by decide +kernel⟩
abbrev s__law_mix : Stmt := top 35
abbrev N__law_mix : List Str := ["cell", "k", "many", "some", "stir"]
theorem sc__law_mix : FnScope N__law_mix ["cell", "k", "many"] (defScope s__law_mix) := ⟨rfl, rfl, rfl, by decide +kernel, rfl, by decide +kernel, by decide +kernel⟩
abbrev s__law_near : Stmt := top 36
abbrev N__law_near : List Str := ["height", "width", "cell", "found", "dr", "dc", "one"]
theorem sc__law_near : FnScope N__law_near ["height", "width", "cell"] (defScope s__law_near) := ⟨rfl, rfl, rfl, by decide +kernel, rfl, by decide +kernel, by decide +kernel⟩
abbrev s__law_sizes : Stmt := top 37
abbrev N__law_sizes : List Str := ["rows"]
theorem sc__law_sizes : FnScope N__law_sizes ["rows"] (defScope s__law_sizes) := ⟨rfl, rfl, rfl, by decide +kernel, rfl, by decide +kernel, by decide +kernel⟩
abbrev s__law_cells : Stmt := top 38
abbrev N__law_cells : List Str := ["rows", "signs", "found", "r", "c"]
theorem sc__law_cells : FnScope N__law_cells ["rows", "signs"] (defScope s__law_cells) := ⟨rfl, rfl, rfl, by decide +kernel, rfl, by decide +kernel, by decide +kernel⟩
abbrev s__law_field_by : Stmt := top 39
abbrev N__law_field_by : List Str := ["script", "most", "cell", "height", "width", "thin", "stones", "r", "c"]
theorem sc__law_field_by : FnScope N__law_field_by ["script", "most"] (defScope s__law_field_by) := ⟨rfl, rfl, rfl, by decide +kernel, rfl, by decide +kernel, by decide +kernel⟩
abbrev s__law_figure : Stmt := top 40
abbrev N__law_figure : List Str := ["height", "width", "stones", "cell", "one"]
theorem sc__law_figure : FnScope N__law_figure ["height", "width", "stones", "cell"] (defScope s__law_figure) := ⟨rfl, rfl, rfl, by decide +kernel, rfl, by decide +kernel, by decide +kernel⟩
abbrev s__law_shown : Stmt := top 41
abbrev N__law_shown : List Str := ["height", "width", "stones", "known", "rows", "r", "row", "c"]
theorem sc__law_shown : FnScope N__law_shown ["height", "width", "stones", "known"] (defScope s__law_shown) := ⟨rfl, rfl, rfl, by decide +kernel, rfl, by decide +kernel, by decide +kernel⟩
abbrev s__law_opened : Stmt := top 42
abbrev N__law_opened : List Str := ["height", "width", "stones", "known", "cell", "found", "at", "x"]
theorem sc__law_opened : FnScope N__law_opened ["height", "width", "stones", "known", "cell"] (defScope s__law_opened) := ⟨rfl, rfl, rfl, by decide +kernel, rfl, by decide +kernel, by decide +kernel⟩
abbrev s__law_view_by : Stmt := top 43
abbrev N__law_view_by : List Str := ["script", "most", "steps", "height", "width", "stones", "known", "free", "r", "k", "left", "cell", "c", "one"]
theorem sc__law_view_by : FnScope N__law_view_by ["script", "most", "steps"] (defScope s__law_view_by) := ⟨rfl, rfl, rfl, by decide +kernel, rfl, by decide +kernel, by decide +kernel⟩
abbrev s__law_wrong_by : Stmt := top 44
abbrev N__law_wrong_by : List Str := ["script", "rows", "cell", "r", "c", "sign", "line"]
theorem sc__law_wrong_by : FnScope N__law_wrong_by ["script", "rows"] (defScope s__law_wrong_by) := ⟨rfl, rfl, rfl, by decide +kernel, rfl, by decide +kernel, by decide +kernel⟩
abbrev s__law_total : Stmt := top 45
abbrev N__law_total : List Str := ["view", "stones"]
theorem sc__law_total : FnScope N__law_total ["view"] (defScope s__law_total) := ⟨rfl, rfl, rfl, by decide +kernel, rfl, by decide +kernel, by decide +kernel⟩
abbrev s_law : Stmt := top 46
abbrev N_law : List Str := ["script", "rows", "stones", "view", "some", "due", "part", "cell", "height", "width", "r", "c", "own", "x", "y"]
theorem sc_law : FnScope N_law ["script"] (defScope s_law) := ⟨rfl, rfl, rfl, by decide +kernel, rfl, by decide +kernel, by decide +kernel⟩
abbrev s_View___init__ : Stmt := inClass (top 12) 0
abbrev N_View___init__ : List Str := ["self", "rows"]
theorem sc_View___init__ : FnScope N_View___init__ ["self", "rows"] (defScope s_View___init__) := ⟨rfl, rfl, rfl, by decide +kernel, rfl, by decide +kernel, by decide +kernel⟩
abbrev s_View_cells : Stmt := inClass (top 12) 1
abbrev N_View_cells : List Str := ["self"]
theorem sc_View_cells : FnScope N_View_cells ["self"] (defScope s_View_cells) := ⟨rfl, rfl, rfl, by decide +kernel, rfl, by decide +kernel, by decide +kernel⟩
abbrev s_View_beside : Stmt := inClass (top 12) 2
abbrev N_View_beside : List Str := ["self", "cell"]
theorem sc_View_beside : FnScope N_View_beside ["self", "cell"] (defScope s_View_beside) := ⟨rfl, rfl, rfl, by decide +kernel, rfl, by decide +kernel, by decide +kernel⟩
abbrev s_View_hidden : Stmt := inClass (top 12) 3
abbrev N_View_hidden : List Str := ["self", "cell"]
theorem sc_View_hidden : FnScope N_View_hidden ["self", "cell"] (defScope s_View_hidden) := ⟨rfl, rfl, rfl, by decide +kernel, rfl, by decide +kernel, by decide +kernel⟩
abbrev s_View_figure : Stmt := inClass (top 12) 4
abbrev N_View_figure : List Str := ["self", "cell"]
theorem sc_View_figure : FnScope N_View_figure ["self", "cell"] (defScope s_View_figure) := ⟨rfl, rfl, rfl, by decide +kernel, rfl, by decide +kernel, by decide +kernel⟩
structure Facts (K : PySem.W.Frag) (mg : Str → Option Value) (C : Cs) : Prop where
  bl : Bl mg
  d_rising : DefAt K mg "rising" s_rising ["cells"]
  d_all_cells : DefAt K mg "all_cells" s_all_cells ["height", "width"]
  d_around : DefAt K mg "around" s_around ["height", "width", "cell"]
  d_rows_right : DefAt K mg "rows_right" s_rows_right ["rows"]
  d_closed : DefAt K mg "closed" s_closed ["view"]
  d_is_edge : DefAt K mg "is_edge" s_is_edge ["view", "cell"]
  d_edge : DefAt K mg "edge" s_edge ["view"]
  d_far : DefAt K mg "far" s_far ["view"]
  d_keeps : DefAt K mg "keeps" s_keeps ["view", "laying"]
  d_open_near : DefAt K mg "open_near" s_open_near ["view", "cells"]
  d_parts : DefAt K mg "parts" s_parts ["view"]
  d_part_of : DefAt K mg "part_of" s_part_of ["view", "cell"]
  d_check_size : DefAt K mg "check_size" s_check_size ["part"]
  d_can_still : DefAt K mg "can_still" s_can_still ["view", "told", "chosen", "left"]
  d_part_layings : DefAt K mg "part_layings" s_part_layings ["view", "part"]
  d_layings : DefAt K mg "layings" s_layings ["view", "cell"]
  d_idle_right : DefAt K mg "idle_right" s_idle_right ["view"]
  d_joined : DefAt K mg "joined" s_joined ["one", "other"]
  d_choices : DefAt K mg "choices" s_choices ["many"]
  d_by_stones : DefAt K mg "by_stones" s_by_stones ["view", "wanted"]
  d_count : DefAt K mg "count" s_count ["view", "stones"]
  d__law_cell_at : DefAt K mg "_law_cell_at" s__law_cell_at ["script", "k"]
  d__law_mix : DefAt K mg "_law_mix" s__law_mix ["cell", "k", "many"]
  d__law_near : DefAt K mg "_law_near" s__law_near ["height", "width", "cell"]
  d__law_sizes : DefAt K mg "_law_sizes" s__law_sizes ["rows"]
  d__law_cells : DefAt K mg "_law_cells" s__law_cells ["rows", "signs"]
  d__law_field_by : DefAt K mg "_law_field_by" s__law_field_by ["script", "most"]
  d__law_figure : DefAt K mg "_law_figure" s__law_figure ["height", "width", "stones", "cell"]
  d__law_shown : DefAt K mg "_law_shown" s__law_shown ["height", "width", "stones", "known"]
  d__law_opened : DefAt K mg "_law_opened" s__law_opened ["height", "width", "stones", "known", "cell"]
  d__law_view_by : DefAt K mg "_law_view_by" s__law_view_by ["script", "most", "steps"]
  d__law_wrong_by : DefAt K mg "_law_wrong_by" s__law_wrong_by ["script", "rows"]
  d__law_total : DefAt K mg "_law_total" s__law_total ["view"]
  d_law : DefAt K mg "law" s_law ["script"]
  k_View : ClsAt K mg "View" C.View
  y_View : ClsY K C.View
  na_View_rows : NoAttr K C.View "rows"
  na_View_height : NoAttr K C.View "height"
  na_View_width : NoAttr K C.View "width"
  m_View___init__ : MethAt K C.View "__init__" "View.__init__" s_View___init__ ["self", "rows"]
  m_View_cells : MethAt K C.View "cells" "View.cells" s_View_cells ["self"]
  m_View_beside : MethAt K C.View "beside" "View.beside" s_View_beside ["self", "cell"]
  m_View_hidden : MethAt K C.View "hidden" "View.hidden" s_View_hidden ["self", "cell"]
  m_View_figure : MethAt K C.View "figure" "View.figure" s_View_figure ["self", "cell"]
  e_FieldError : Err K mg "FieldError" C.FieldError
  x_FieldError : ExcC K C.FieldError
  e_BadView : Err K mg "BadView" C.BadView
  x_BadView : ExcC K C.BadView
  e_BadLaying : Err K mg "BadLaying" C.BadLaying
  x_BadLaying : ExcC K C.BadLaying
  e_NoCell : Err K mg "NoCell" C.NoCell
  x_NoCell : ExcC K C.NoCell
  e_TooGreat : Err K mg "TooGreat" C.TooGreat
  x_TooGreat : ExcC K C.TooGreat
  u_FieldError_FieldError : PySem.W.subIn K (.ref C.FieldError) (.ref C.FieldError) = some true
  u_FieldError_BadView : PySem.W.subIn K (.ref C.FieldError) (.ref C.BadView) = some false
  u_FieldError_BadLaying : PySem.W.subIn K (.ref C.FieldError) (.ref C.BadLaying) = some false
  u_FieldError_NoCell : PySem.W.subIn K (.ref C.FieldError) (.ref C.NoCell) = some false
  u_FieldError_TooGreat : PySem.W.subIn K (.ref C.FieldError) (.ref C.TooGreat) = some false
  u_BadView_FieldError : PySem.W.subIn K (.ref C.BadView) (.ref C.FieldError) = some true
  u_BadView_BadView : PySem.W.subIn K (.ref C.BadView) (.ref C.BadView) = some true
  u_BadView_BadLaying : PySem.W.subIn K (.ref C.BadView) (.ref C.BadLaying) = some false
  u_BadView_NoCell : PySem.W.subIn K (.ref C.BadView) (.ref C.NoCell) = some false
  u_BadView_TooGreat : PySem.W.subIn K (.ref C.BadView) (.ref C.TooGreat) = some false
  u_BadLaying_FieldError : PySem.W.subIn K (.ref C.BadLaying) (.ref C.FieldError) = some true
  u_BadLaying_BadView : PySem.W.subIn K (.ref C.BadLaying) (.ref C.BadView) = some false
  u_BadLaying_BadLaying : PySem.W.subIn K (.ref C.BadLaying) (.ref C.BadLaying) = some true
  u_BadLaying_NoCell : PySem.W.subIn K (.ref C.BadLaying) (.ref C.NoCell) = some false
  u_BadLaying_TooGreat : PySem.W.subIn K (.ref C.BadLaying) (.ref C.TooGreat) = some false
  u_NoCell_FieldError : PySem.W.subIn K (.ref C.NoCell) (.ref C.FieldError) = some true
  u_NoCell_BadView : PySem.W.subIn K (.ref C.NoCell) (.ref C.BadView) = some false
  u_NoCell_BadLaying : PySem.W.subIn K (.ref C.NoCell) (.ref C.BadLaying) = some false
  u_NoCell_NoCell : PySem.W.subIn K (.ref C.NoCell) (.ref C.NoCell) = some true
  u_NoCell_TooGreat : PySem.W.subIn K (.ref C.NoCell) (.ref C.TooGreat) = some false
  u_TooGreat_FieldError : PySem.W.subIn K (.ref C.TooGreat) (.ref C.FieldError) = some true
  u_TooGreat_BadView : PySem.W.subIn K (.ref C.TooGreat) (.ref C.BadView) = some false
  u_TooGreat_BadLaying : PySem.W.subIn K (.ref C.TooGreat) (.ref C.BadLaying) = some false
  u_TooGreat_NoCell : PySem.W.subIn K (.ref C.TooGreat) (.ref C.NoCell) = some false
  u_TooGreat_TooGreat : PySem.W.subIn K (.ref C.TooGreat) (.ref C.TooGreat) = some true
  v_FieldError : PySem.W.subIn K (.ref C.FieldError) (.type "ValueError") = some true
  i_FieldError : PySem.W.isClsIn K C.FieldError = true
  v_BadView : PySem.W.subIn K (.ref C.BadView) (.type "ValueError") = some true
  i_BadView : PySem.W.isClsIn K C.BadView = true
  v_BadLaying : PySem.W.subIn K (.ref C.BadLaying) (.type "ValueError") = some true
  i_BadLaying : PySem.W.isClsIn K C.BadLaying = true
  v_NoCell : PySem.W.subIn K (.ref C.NoCell) (.type "ValueError") = some true
  i_NoCell : PySem.W.isClsIn K C.NoCell = true
  v_TooGreat : PySem.W.subIn K (.ref C.TooGreat) (.type "ValueError") = some true
  i_TooGreat : PySem.W.isClsIn K C.TooGreat = true
  g_MOST : ∃ t, mg "MOST" = some (.int 6 t)
  g_MOST_CELLS : ∃ t, mg "MOST_CELLS" = some (.int 12 t)
end DF
namespace DF
open R (rp)
open Dt (toD)
open PySem L2
section
variable {P : Program} {Wd : World} {K : PySem.W.Frag} {mg : Str → Option Value} {base : Heap} {C : Cs}
/-! _law_cell_at -/
def pm_law_cell_at_pre (ns : List Int) (k : Int) : Prop := 0 ≤ k
def pm_law_cell_at_ret (ns : List Int) (k : Int) : Hp → Hp → VK → XK → Prop := retV (rp (cellAt ns k))
def pm_law_cell_at (K : PySem.W.Frag) : Pm ((List Int) × (Int)) := ⟨fun i => [scrM K i.1, rp i.2], fun i => pm_law_cell_at_pre i.1 i.2, fun i => pm_law_cell_at_ret i.1 i.2⟩
theorem f_law_cell_at (T : Facts K mg C) : Cal P Wd K mg base "_law_cell_at" 1 (spOf (pm_law_cell_at K)) := by
  refine cal_go T.d__law_cell_at sc__law_cell_at (fun _ => rfl) fun f cdv A outer s H H0 Q E i hr hp hret hs => ?_
  obtain ⟨ns, k⟩ := i
  have hu := hr.units
  have hu1 : (fX P Wd K mg base N__law_cell_at "_law_cell_at" s__law_cell_at f cdv A outer s H E).A.units + 65 < cLine := by have := hr.un; omega
  replace hp : 0 ≤ k := hp
  replace hret : (retV (rp (cellAt ns k))) H H0 Q E := hret
  show Go _ _ _ ([some (scrM K ns), some (rp k)] ++ List.replicate (N__law_cell_at.length - 2) none) [] _ _
  simp only [List.length_cons, List.length_nil, Nat.reduceAdd, Nat.reduceSub, List.replicate, List.cons_append, List.nil_append]
  refine go_if (et_lt (V 1) (ev_lenScr T.bl rfl (V 0))) (fun h => ?_) (fun h => ?_)
  · have h := of_decide_eq_true h
    exact go_ret (P := rp (cellAt ns k)) (ev_ixScr (V 0) (V 1) (atI_getD 0 hp h)) (rt_of hret)
  · have h := of_decide_eq_false h
    refine go_fall (go_ret (P := rp (cellAt ns k)) (ev_int.cast ?_) (rt_of hret))
    congr 1
    unfold cellAt
    rw [List.getD_eq_getElem?_getD, List.getElem?_eq_none (by omega)]; rfl
theorem c_law_cell_at {X : Cx} {ρ : En} {ω : Ow} {e : Expr} {es : List Expr} {p pos : Pos} {l : Nat} {ns : List Int} {k : Int} (G : Cal X.prog X.w X.K X.mg X.base "_law_cell_at" 1 (spOf (pm_law_cell_at X.K))) (hr : Room l X.A) (ha : EvA X ρ ω (e :: es) [scrM X.K ns, rp k]) (hk : 0 ≤ k) (hl : 1 ≤ l := by decide) (hg : Gl X "_law_cell_at" := by rfl)
    (he : starEach (e :: es) X.env = (false, eval e X.env) :: starEach es X.env := by exact se_cons rfl) (hpl : (backTo pos (starEach es X.env)).any (·.1) = false := by exact se_any rfl) : Ev X ρ ω (.Call (.Name "_law_cell_at" p) (e :: es) [] pos) (rp (cellAt ns k)) :=
  ev_call G (ns, k) (hr.mono hl) hg (by decide +kernel) ha hk (fun _ _ _ q => q) he hpl
/-! _law_mix -/
def pm_law_mix_pre (cell : Int) (k : Int) (many : Int) : Prop := 0 < many
def pm_law_mix_ret (cell : Int) (k : Int) (many : Int) : Hp → Hp → VK → XK → Prop := retV (rp (mix cell k many))
def pm_law_mix : Pm ((Int) × (Int) × (Int)) := ⟨fun i => [rp i.1, rp i.2.1, rp i.2.2], fun i => pm_law_mix_pre i.1 i.2.1 i.2.2, fun i => pm_law_mix_ret i.1 i.2.1 i.2.2⟩
theorem f_law_mix (T : Facts K mg C) : Cal P Wd K mg base "_law_mix" 1 (spOf pm_law_mix) := by
  refine cal_go T.d__law_mix sc__law_mix (fun _ => rfl) fun f cdv A outer s H H0 Q E i hr hp hret hs => ?_
  obtain ⟨cell, k, many⟩ := i
  have hu := hr.units
  have hu1 : (fX P Wd K mg base N__law_mix "_law_mix" s__law_mix f cdv A outer s H E).A.units + 65 < cLine := by have := hr.un; omega
  replace hp : 0 < many := hp
  replace hret : (retV (rp (mix cell k many))) H H0 Q E := hret
  show Go _ _ _ ([some (rp cell), some (rp k), some (rp many)] ++ List.replicate (N__law_mix.length - 3) none) [] _ _
  simp only [List.length_cons, List.length_nil, Nat.reduceAdd, Nat.reduceSub, List.replicate, List.cons_append, List.nil_append]
  refine G_asgN sc__law_mix.nd 3 (evn_disp (i_cons ev_int (i_cons ev_int (i_cons ev_int (i_cons ev_int (i_cons ev_int (i_cons ev_int (i_cons ev_int (i_cons ev_int (i_cons ev_int (i_cons ev_int (i_cons ev_int (i_cons ev_int (i_cons ev_int i_nil))))))))))))) (by decide)) fun a_some => ?_
  refine G_asg sc__law_mix.nd 4 (ev_add (ev_add (ev_mul (ev_add (ev_mod (V 0) ev_int (by decide)) ev_int) (ev_ixL (VO 3) (ev_mod (V 1) ev_int (by decide)) (atI_getD 0 ?_ ?_)) ?_) (ev_mul ev_int (V 1) (.inl (by decide)))) (ev_mul ev_int (ev_fdiv (V 1) ev_int ⟨by decide, by decide⟩) (.inl (by decide)))) ?_
  · exact Int.emod_nonneg _ (by decide)
  · exact Int.emod_lt_of_pos _ (by decide)
  · right
    have := tab_le (k % 13).toNat
    show -(2 ^ 64) < tab.getD (k % 13).toNat 0 ∧ tab.getD (k % 13).toNat 0 < 2 ^ 64
    omega
  refine G_asg sc__law_mix.nd 4 (ev_mod (V 4) ev_int (by decide)) ?_
  refine go_ret (ev_mod (ev_fdiv (ev_mod (ev_add (ev_mul (V 4) (V 4) ?_) (ev_mul ev_int (V 1) (.inl (by decide)))) ev_int (by decide)) ev_int ⟨by decide, by decide⟩) (V 2) hp) (rt_of hret)
  left
  have := stir_bd cell k
  show -(2 ^ 64) < stirOf cell k ∧ stirOf cell k < 2 ^ 64
  omega
theorem c_law_mix {X : Cx} {ρ : En} {ω : Ow} {e : Expr} {es : List Expr} {p pos : Pos} {l : Nat} {cell : Int} {k : Int} {many : Int} (G : Cal X.prog X.w X.K X.mg X.base "_law_mix" 1 (spOf pm_law_mix)) (hr : Room l X.A) (ha : EvA X ρ ω (e :: es) [rp cell, rp k, rp many]) (hk : 0 < many) (hl : 1 ≤ l := by decide) (hg : Gl X "_law_mix" := by rfl)
    (he : starEach (e :: es) X.env = (false, eval e X.env) :: starEach es X.env := by exact se_cons rfl) (hpl : (backTo pos (starEach es X.env)).any (·.1) = false := by exact se_any rfl) : Ev X ρ ω (.Call (.Name "_law_mix" p) (e :: es) [] pos) (rp (mix cell k many)) :=
  ev_call G (cell, k, many) (hr.mono hl) hg (by decide +kernel) ha hk (fun _ _ _ q => q) he hpl
/-! all_cells -/
def pm_all_cells_pre (h : Int) (w : Int) : Prop := Dim h w
def pm_all_cells_ret (h : Int) (w : Int) : Hp → Hp → VK → XK → Prop := retN (lsO (allCells h w))
def pm_all_cells : Pm ((Int) × (Int)) := ⟨fun i => [rp i.1, rp i.2], fun i => pm_all_cells_pre i.1 i.2, fun i => pm_all_cells_ret i.1 i.2⟩
theorem f_all_cells (T : Facts K mg C) : Cal P Wd K mg base "all_cells" 1 (spOf pm_all_cells) := by
  refine cal_go T.d_all_cells sc_all_cells (fun _ => rfl) fun f cdv A outer s H H0 Q E i hr hp hret hs => ?_
  obtain ⟨h, w⟩ := i
  have hu := hr.units
  have hu1 : (fX P Wd K mg base N_all_cells "all_cells" s_all_cells f cdv A outer s H E).A.units + 65 < cLine := by have := hr.un; omega
  replace hp : Dim h w := hp
  replace hret : (retN (lsO (allCells h w))) H H0 Q E := hret
  show Go _ _ _ ([some (rp h), some (rp w)] ++ List.replicate (N_all_cells.length - 2) none) [] _ _
  simp only [List.length_cons, List.length_nil, Nat.reduceAdd, Nat.reduceSub, List.replicate, List.cons_append, List.nil_append]
  refine G_asgN sc_all_cells.nd 2 (evn_nil (α := Cell)) fun a => ?_
  refine go_for (fun (s : List Cell) => [some (rp h), some (rp w), some (atM a), none, none]) (fun s => [(a, lsO s)]) (fun ys s => s ++ ys.flatMap (rowOf w) = allCells h w) (fun x s => _) fX_passes rfl (it_range1 T.bl rfl (V 0) (by omega) (by omega)) (PN sc_all_cells.nd 3) (fun _ _ => gj_name (vs := [3]) (by decide)) [] rfl (Le.of (by repeat (first | exact Lsl.nil | apply Lsl.keep | apply Lsl.drop)) (by first | exact List.Sublist.refl _ | exact List.Sublist.cons _ (List.Sublist.refl _) | exact List.nil_sublist _)) ?_ ?_
  · rintro B1 u x ys s hI
    have hl : (s ++ rowOf w x).length ≤ 36 := by
      have := congrArg List.length hI
      have h36 := allCells_len hp
      simp only [List.flatMap_cons, List.length_append] at this ⊢
      omega
    refine G_ext 0 2 (EvN.evc (evn_lcL0 (own := [("c", 4)]) rfl sc_all_cells.nd (Itr.toC (it_range1 T.bl rfl (V 1) (by omega) (by omega))) (by rw [irange_len]; omega) (blkOk_by (by rfl)) (fun _ _ _ _ _ => PN sc_all_cells.nd 4) (fun _ => gj_name (by decide)) (fun _ _ _ _ _ x hx => (ev_pair (V 3) (V 4))))) (by rw [List.length_append] at hl; exact Nat.lt_of_le_of_lt hl (by decide)) ?_
    refine go_end (s ++ rowOf w x) ?_ (Le.of (by repeat (first | exact Lsl.nil | apply Lsl.keep | apply Lsl.drop)) (by first | exact List.Sublist.refl _ | exact List.Sublist.cons _ (List.Sublist.refl _) | exact List.nil_sublist _)) Up.refl
    rw [← hI]; simp
  · rintro s hI
    have hI : s = allCells h w := by simpa using hI
    subst hI
    exact G_retO 2 (rtN_of hret)
theorem c_all_cells {X : Cx} {ρ : En} {ω : Ow} {e : Expr} {es : List Expr} {p pos : Pos} {l : Nat} {h : Int} {w : Int} (G : Cal X.prog X.w X.K X.mg X.base "all_cells" 1 (spOf pm_all_cells)) (hr : Room l X.A) (ha : EvA X ρ ω (e :: es) [rp h, rp w]) (hk : Dim h w) (hl : 1 ≤ l := by decide) (hg : Gl X "all_cells" := by rfl)
    (he : starEach (e :: es) X.env = (false, eval e X.env) :: starEach es X.env := by exact se_cons rfl) (hpl : (backTo pos (starEach es X.env)).any (·.1) = false := by exact se_any rfl) : EvN X ρ ω (.Call (.Name "all_cells" p) (e :: es) [] pos) (lsO (allCells h w)) :=
  evn_call G (h, w) (hr.mono hl) hg (by decide +kernel) ha hk (fun _ _ _ q => q) he hpl
/-! around -/
def pm_around_pre (h : Int) (w : Int) (c : Cell) : Prop := Dim h w
def pm_around_ret (h : Int) (w : Int) (c : Cell) : Hp → Hp → VK → XK → Prop := retN (lsO (around h w c))
def pm_around : Pm ((Int) × (Int) × (Cell)) := ⟨fun i => [rp i.1, rp i.2.1, rp i.2.2], fun i => pm_around_pre i.1 i.2.1 i.2.2, fun i => pm_around_ret i.1 i.2.1 i.2.2⟩
theorem f_around (T : Facts K mg C) : Cal P Wd K mg base "around" 2 (spOf pm_around) := by
  refine cal_go T.d_around sc_around (fun _ => rfl) fun f cdv A outer s H H0 Q E i hr hp hret hs => ?_
  obtain ⟨h, w, c⟩ := i
  have hu := hr.units
  have hu1 : (fX P Wd K mg base N_around "around" s_around f cdv A outer s H E).A.units + 65 < cLine := by have := hr.un; omega
  replace hp : Dim h w := hp
  replace hret : (retN (lsO (around h w c))) H H0 Q E := hret
  show Go _ _ _ ([some (rp h), some (rp w), some (rp c)] ++ List.replicate (N_around.length - 3) none) [] _ _
  simp only [List.length_cons, List.length_nil, Nat.reduceAdd, Nat.reduceSub, List.replicate, List.cons_append, List.nil_append]
  refine G_asgN sc_around.nd 3 (evn_nil (α := Cell)) fun a => ?_
  refine go_for (fun (s : List Cell) => [some (rp h), some (rp w), some (rp c), some (atM a), none, none]) (fun s => [(a, lsO s)]) (fun ys s => s ++ ys.filter (nearB c) = around h w c) (fun x s => _) fX_passes rfl (it_listL (EvN.evl (c_all_cells (f_all_cells T) hr (eva_cons (V 0) (eva_cons (V 1) eva_nil)) hp))) (PT2 sc_around.nd rfl 4 5) (fun _ _ => gj_pairL (vs := [4, 5]) (by decide) (by decide)) [] rfl (Le.of (by repeat (first | exact Lsl.nil | apply Lsl.keep | apply Lsl.drop)) (by first | exact List.Sublist.refl _ | exact List.Sublist.cons _ (List.Sublist.refl _) | exact List.nil_sublist _)) ?_ ?_
  · rintro B1 u x ys s hI
    have hl : s.length ≤ 36 := by
      have := congrArg List.length hI
      have h36 := around_len hp c
      simp only [List.length_append] at this
      omega
    refine go_if (et_w (ew_and (et_le (ev_abs T.bl rfl (ev_sub (V 4) (ev_fst (V 2)))) ev_int) fun _ => (ew_and (et_le (ev_abs T.bl rfl (ev_sub (V 5) (ev_snd (V 2)))) ev_int) fun _ => (ew_and1 (et_ne (α := Cell) (Ev.evd (ev_pair (V 4) (V 5))) (Ev.evd (V 2)) hu ⟨trivial, trivial⟩ ⟨trivial, trivial⟩ (by decide)))))) (fun h => ?_) (fun h => ?_)
    · have h : nearB c x = true := h
      refine G_app 0 3 (ev_pair (V 4) (V 5)) ?_ ?_
      · omega
      refine go_fall (go_end (s ++ [x]) ?_ (Le.of (by repeat (first | exact Lsl.nil | apply Lsl.keep | apply Lsl.drop)) (by first | exact List.Sublist.refl _ | exact List.Sublist.cons _ (List.Sublist.refl _) | exact List.nil_sublist _)) Up.refl)
      rw [← hI]; simp [List.filter_cons, h]
    · have h : nearB c x = false := h
      refine go_fall (go_end s ?_ (Le.of (by repeat (first | exact Lsl.nil | apply Lsl.keep | apply Lsl.drop)) (by first | exact List.Sublist.refl _ | exact List.Sublist.cons _ (List.Sublist.refl _) | exact List.nil_sublist _)) Up.refl)
      rw [← hI]; simp [List.filter_cons, h]
  · rintro s hI
    have hI : s = around h w c := by simpa using hI
    subst hI
    exact G_retO 3 (rtN_of hret)
theorem c_around {X : Cx} {ρ : En} {ω : Ow} {e : Expr} {es : List Expr} {p pos : Pos} {l : Nat} {h : Int} {w : Int} {c : Cell} (G : Cal X.prog X.w X.K X.mg X.base "around" 2 (spOf pm_around)) (hr : Room l X.A) (ha : EvA X ρ ω (e :: es) [rp h, rp w, rp c]) (hk : Dim h w) (hl : 2 ≤ l := by decide) (hg : Gl X "around" := by rfl)
    (he : starEach (e :: es) X.env = (false, eval e X.env) :: starEach es X.env := by exact se_cons rfl) (hpl : (backTo pos (starEach es X.env)).any (·.1) = false := by exact se_any rfl) : EvN X ρ ω (.Call (.Name "around" p) (e :: es) [] pos) (lsO (around h w c)) :=
  evn_call G (h, w, c) (hr.mono hl) hg (by decide +kernel) ha hk (fun _ _ _ q => q) he hpl
/-! _law_near -/
def pm_law_near_pre (h : Int) (w : Int) (c : Cell) : Prop := True
def pm_law_near_ret (h : Int) (w : Int) (c : Cell) : Hp → Hp → VK → XK → Prop := retN (lsO (lnear h w c))
def pm_law_near : Pm ((Int) × (Int) × (Cell)) := ⟨fun i => [rp i.1, rp i.2.1, rp i.2.2], fun i => pm_law_near_pre i.1 i.2.1 i.2.2, fun i => pm_law_near_ret i.1 i.2.1 i.2.2⟩
theorem f_law_near (T : Facts K mg C) : Cal P Wd K mg base "_law_near" 1 (spOf pm_law_near) := by
  refine cal_go T.d__law_near sc__law_near (fun _ => rfl) fun f cdv A outer s H H0 Q E i hr hp hret hs => ?_
  obtain ⟨h, w, c⟩ := i
  have hu := hr.units
  have hu1 : (fX P Wd K mg base N__law_near "_law_near" s__law_near f cdv A outer s H E).A.units + 65 < cLine := by have := hr.un; omega
  replace hp : True := hp
  replace hret : (retN (lsO (lnear h w c))) H H0 Q E := hret
  show Go _ _ _ ([some (rp h), some (rp w), some (rp c)] ++ List.replicate (N__law_near.length - 3) none) [] _ _
  simp only [List.length_cons, List.length_nil, Nat.reduceAdd, Nat.reduceSub, List.replicate, List.cons_append, List.nil_append]
  refine G_asgN sc__law_near.nd 3 (evn_nil (α := Cell)) fun a => ?_
  refine go_for (xs := offs) (fun (s : List Cell) => [some (rp h), some (rp w), some (rp c), some (atM a), none, none, none]) (fun s => [(a, lsO s)]) (fun ys s => s ++ (ys.map fun d => (c.1 + d.1, c.2 + d.2)).filter (inF h w) = lnear h w c) (fun x s => _) fX_passes rfl (it_listL (EvN.evl (evn_disp (i_cons (ev_pair (ev_neg ev_int) (ev_neg ev_int)) (i_cons (ev_pair (ev_neg ev_int) ev_int) (i_cons (ev_pair (ev_neg ev_int) ev_int) (i_cons (ev_pair ev_int (ev_neg ev_int)) (i_cons (ev_pair ev_int ev_int) (i_cons (ev_pair ev_int (ev_neg ev_int)) (i_cons (ev_pair ev_int ev_int) (i_cons (ev_pair ev_int ev_int) i_nil)))))))) (by decide)))) (PT2 sc__law_near.nd rfl 4 5) (fun _ _ => gj_pairL (vs := [4, 5]) (by decide) (by decide)) [] rfl (Le.of (by repeat (first | exact Lsl.nil | apply Lsl.keep | apply Lsl.drop)) (by first | exact List.Sublist.refl _ | exact List.Sublist.cons _ (List.Sublist.refl _) | exact List.nil_sublist _)) ?_ ?_
  · rintro B1 u x ys s hI
    have hl : s.length ≤ 8 := by
      have := congrArg List.length hI
      have h36 := lnear_len h w c
      simp only [List.length_append] at this
      omega
    refine G_asg sc__law_near.nd 6 (ev_pair (ev_add (ev_fst (V 2)) (V 4)) (ev_add (ev_snd (V 2)) (V 5))) ?_
    refine go_if (et_w (ew_and (ev_chain op_le op_lt ev_int (ev_fst (V 6)) (fun _ => (V 0))) fun _ => (ew_and1 (ev_chain op_le op_lt ev_int (ev_snd (V 6)) (fun _ => (V 1)))))) (fun h' => ?_) (fun h' => ?_)
    · have h' : inF h w (c.1 + x.1, c.2 + x.2) = true := h'
      refine G_app 0 3 (V 6) ?_ ?_
      · omega
      refine go_fall (go_end (s ++ [(c.1 + x.1, c.2 + x.2)]) ?_ (Le.of (by repeat (first | exact Lsl.nil | apply Lsl.keep | apply Lsl.drop)) (by first | exact List.Sublist.refl _ | exact List.Sublist.cons _ (List.Sublist.refl _) | exact List.nil_sublist _)) Up.refl)
      rw [← hI]; simp [List.filter_cons, h']
    · have h' : inF h w (c.1 + x.1, c.2 + x.2) = false := h'
      refine go_fall (go_end s ?_ (Le.of (by repeat (first | exact Lsl.nil | apply Lsl.keep | apply Lsl.drop)) (by first | exact List.Sublist.refl _ | exact List.Sublist.cons _ (List.Sublist.refl _) | exact List.nil_sublist _)) Up.refl)
      rw [← hI]; simp [List.filter_cons, h']
  · rintro s hI
    have hI : s = lnear h w c := by simpa using hI
    subst hI
    exact G_retO 3 (rtN_of hret)
theorem c_law_near {X : Cx} {ρ : En} {ω : Ow} {e : Expr} {es : List Expr} {p pos : Pos} {l : Nat} {h : Int} {w : Int} {c : Cell} (G : Cal X.prog X.w X.K X.mg X.base "_law_near" 1 (spOf pm_law_near)) (hr : Room l X.A) (ha : EvA X ρ ω (e :: es) [rp h, rp w, rp c]) (hl : 1 ≤ l := by decide) (hg : Gl X "_law_near" := by rfl)
    (he : starEach (e :: es) X.env = (false, eval e X.env) :: starEach es X.env := by exact se_cons rfl) (hpl : (backTo pos (starEach es X.env)).any (·.1) = false := by exact se_any rfl) : EvN X ρ ω (.Call (.Name "_law_near" p) (e :: es) [] pos) (lsO (lnear h w c)) :=
  evn_call G (h, w, c) (hr.mono hl) hg (by decide +kernel) ha trivial (fun _ _ _ q => q) he hpl

end
end DF
namespace DF
open R (rp)
open Dt (toD)
open PySem L2
section
variable {P : Program} {Wd : World} {K : PySem.W.Frag} {mg : Str → Option Value} {base : Heap} {C : Cs}
/-! _law_sizes -/
def pm_law_sizes_pre (rows : List Tx) : Prop := Vw rows
def pm_law_sizes_ret (rows : List Tx) : Hp → Hp → VK → XK → Prop := retV (rp (((rows.length : Int), (widthOf rows : Int)) : Int × Int))
def pm_law_sizes : Pm (List Tx) := ⟨fun i => [rp i], fun i => pm_law_sizes_pre i, fun i => pm_law_sizes_ret i⟩
theorem f_law_sizes (T : Facts K mg C) : Cal P Wd K mg base "_law_sizes" 1 (spOf pm_law_sizes) := by
  refine cal_go T.d__law_sizes sc__law_sizes (fun _ => rfl) fun f cdv A outer s H H0 Q E rows hr hp hret hs => ?_
  have hu := hr.units
  have hu1 : (fX P Wd K mg base N__law_sizes "_law_sizes" s__law_sizes f cdv A outer s H E).A.units + 65 < cLine := by have := hr.un; omega
  replace hp : Vw rows := hp
  replace hret : (retV (rp (((rows.length : Int), (widthOf rows : Int)) : Int × Int))) H H0 Q E := hret
  show Go _ _ _ ([some (rp rows)] ++ List.replicate (N__law_sizes.length - 1) none) [] _ _
  simp only [List.length_cons, List.length_nil, Nat.reduceAdd, Nat.reduceSub, List.replicate, List.cons_append, List.nil_append]
  obtain ⟨r0, rs, rfl⟩ : ∃ r0 rs, rows = r0 :: rs := by
    cases rows with
    | nil => have := hp.h1; simp at this
    | cons r0 rs => exact ⟨r0, rs, rfl⟩
  exact go_ret (ev_pair (ev_lenL T.bl rfl (Ev.evcl (V 0))) (t_len T.bl rfl (ev_ixL (y := r0) (Ev.evcl (V 0)) ev_int (atI_nat (j := 0) rfl)) (Nat.le_trans hp.w6 (by decide)))) (rt_of hret)
theorem c_law_sizes {X : Cx} {ρ : En} {ω : Ow} {e : Expr} {es : List Expr} {p pos : Pos} {l : Nat} {rows : List Tx} (G : Cal X.prog X.w X.K X.mg X.base "_law_sizes" 1 (spOf pm_law_sizes)) (hr : Room l X.A) (ha : EvA X ρ ω (e :: es) [rp rows]) (hk : Vw rows) (hl : 1 ≤ l := by decide) (hg : Gl X "_law_sizes" := by rfl)
    (he : starEach (e :: es) X.env = (false, eval e X.env) :: starEach es X.env := by exact se_cons rfl) (hpl : (backTo pos (starEach es X.env)).any (·.1) = false := by exact se_any rfl) : Ev X ρ ω (.Call (.Name "_law_sizes" p) (e :: es) [] pos) (rp (((rows.length : Int), (widthOf rows : Int)) : Int × Int)) :=
  ev_call G rows (hr.mono hl) hg (by decide +kernel) ha hk (fun _ _ _ q => q) he hpl
/-! _law_cells -/
def pm_law_cells_pre (rows : List Tx) (signs : Tx) : Prop := Vw rows
def pm_law_cells_ret (rows : List Tx) (signs : Tx) : Hp → Hp → VK → XK → Prop := retV (rp (lcells rows signs))
def pm_law_cells : Pm ((List Tx) × (Tx)) := ⟨fun i => [rp i.1, rp i.2], fun i => pm_law_cells_pre i.1 i.2, fun i => pm_law_cells_ret i.1 i.2⟩
theorem f_law_cells (T : Facts K mg C) : Cal P Wd K mg base "_law_cells" 1 (spOf pm_law_cells) := by
  refine cal_go T.d__law_cells sc__law_cells (fun _ => rfl) fun f cdv A outer s H H0 Q E i hr hp hret hs => ?_
  obtain ⟨rows, signs⟩ := i
  have hu := hr.units
  have hu1 : (fX P Wd K mg base N__law_cells "_law_cells" s__law_cells f cdv A outer s H E).A.units + 65 < cLine := by have := hr.un; omega
  replace hp : Vw rows := hp
  replace hret : (retV (rp (lcells rows signs))) H H0 Q E := hret
  show Go _ _ _ ([some (rp rows), some (rp signs)] ++ List.replicate (N__law_cells.length - 2) none) [] _ _
  simp only [List.length_cons, List.length_nil, Nat.reduceAdd, Nat.reduceSub, List.replicate, List.cons_append, List.nil_append]
  have hw6 := hp.w6
  have hh6 := hp.h6
  refine G_asg sc__law_cells.nd 2 (EvN.evl (evn_nil (α := Cell))) ?_
  refine go_for (fun (s : List Cell) => [some (rp rows), some (rp signs), some (rp s), none, none]) (fun s => []) (fun (ys : List Int) (s : List Cell) => (∀ y ∈ ys, 0 ≤ y ∧ y < rows.length) ∧ s ++ ys.flatMap (fun r => ((irange 0 (widthOf rows)).filter fun c => decide (sgn rows (r, c) ∈ signs.cs)).map fun c => (r, c)) = lcells rows signs ∧ s.length + ys.length * 6 ≤ 36) (fun x s => _) fX_passes rfl (it_range1 T.bl rfl (ev_lenL T.bl rfl (Ev.evcl (V 0))) (by omega) (by omega)) (PN sc__law_cells.nd 3) (fun _ _ => gj_name (vs := [3]) (by decide)) [] ⟨fun y hy => by have := mem_irange.mp hy; omega, by simp [lcells], by rw [irange_len]; simp; omega⟩ (Le.of (by repeat (first | exact Lsl.nil | apply Lsl.keep | apply Lsl.drop)) (by first | exact List.Sublist.refl _ | exact List.Sublist.cons _ (List.Sublist.refl _) | exact List.nil_sublist _)) ?_ ?_
  · rintro B1 u x ys s ⟨hin, hI, hl⟩
    obtain ⟨hx0, hx1⟩ := hin x (by simp)
    have hrow : rows[x.toNat]? = some (rows.getD x.toNat ⟨[]⟩) := by
      rw [List.getD_eq_getElem?_getD, List.getElem?_eq_getElem (show x.toNat < rows.length by omega)]; rfl
    have hmem : rows.getD x.toNat ⟨[]⟩ ∈ rows := List.mem_of_getElem? hrow
    have hrl := (hp.row _ hmem).1
    obtain ⟨r0, rs, er⟩ : ∃ r0 rs, rows = r0 :: rs := by
      cases rows with
      | nil => have := hp.h1; simp at this
      | cons r0 rs => exact ⟨r0, rs, rfl⟩
    have h0 : atI rows 0 = some r0 := by subst er; exact atI_nat (j := 0) rfl
    have hw0 : r0.cs.length = widthOf rows := by subst er; rfl
    refine G_asg sc__law_cells.nd 2 (EvN.evl (evn_catL (Ev.evcl (V 2)) (EvN.evc (evn_lcL1 (own := [("c", 4)]) (f := fun c => (x, c)) rfl sc__law_cells.nd (Itr.toC (it_range1 T.bl rfl (t_len (z := r0) T.bl rfl (ev_ixL (Ev.evcl (V 0)) ev_int h0) (by omega)) (by omega) (by omega))) (by rw [irange_len]; omega) (blkOk_by (by rfl)) (fun _ _ _ _ _ => PN sc__law_cells.nd 4) (fun _ => gj_name (by decide)) (fun _ _ _ _ _ c hc => (tt_in (t_ix (k := sgn rows (x, c)) (ev_ixL (Ev.evcl (V 0)) (V 3) (atI_getD ⟨[]⟩ hx0 hx1)) (V 4) (by omega) (atI_getD 0 (by have := mem_irange.mp hc; omega) (by have := mem_irange.mp hc; omega))) (V 1) (bm_plain rfl))) (fun _ _ _ _ _ c hc _ => (ev_pair (V 3) (V 4))))) ?_)) ?_
    · have h1 := List.length_filter_le (fun c => decide (sgn rows (x, c) ∈ signs.cs)) (irange 0 (r0.cs.length : Int).toNat)
      rw [irange_len] at h1
      rw [List.length_map]
      omega
    refine go_end _ ⟨fun y hy => hin y (by simp [hy]), ?_, ?_⟩ (Le.of (by repeat (first | exact Lsl.nil | apply Lsl.keep | apply Lsl.drop)) (by first | exact List.Sublist.refl _ | exact List.Sublist.cons _ (List.Sublist.refl _) | exact List.nil_sublist _)) Up.refl
    · rw [← hI, List.flatMap_cons, List.append_assoc, hw0, Int.toNat_natCast]
    · have h1 := List.length_filter_le (fun c => decide (sgn rows (x, c) ∈ signs.cs)) (irange 0 (r0.cs.length : Int).toNat)
      rw [irange_len] at h1
      simp only [List.length_append, List.length_map, List.length_cons, Nat.succ_mul] at hl ⊢
      omega
  · rintro s ⟨_, hI, _⟩
    have hI : s = lcells rows signs := by simpa using hI
    subst hI
    exact go_ret (V 2) (rt_of hret)
theorem c_law_cells {X : Cx} {ρ : En} {ω : Ow} {e : Expr} {es : List Expr} {p pos : Pos} {l : Nat} {rows : List Tx} {signs : Tx} (G : Cal X.prog X.w X.K X.mg X.base "_law_cells" 1 (spOf pm_law_cells)) (hr : Room l X.A) (ha : EvA X ρ ω (e :: es) [rp rows, rp signs]) (hk : Vw rows) (hl : 1 ≤ l := by decide) (hg : Gl X "_law_cells" := by rfl)
    (he : starEach (e :: es) X.env = (false, eval e X.env) :: starEach es X.env := by exact se_cons rfl) (hpl : (backTo pos (starEach es X.env)).any (·.1) = false := by exact se_any rfl) : Ev X ρ ω (.Call (.Name "_law_cells" p) (e :: es) [] pos) (rp (lcells rows signs)) :=
  ev_call G (rows, signs) (hr.mono hl) hg (by decide +kernel) ha hk (fun _ _ _ q => q) he hpl
/-! _law_figure -/
def pm_law_figure_pre (h : Int) (w : Int) (st : List Cell) (c : Cell) : Prop := True
def pm_law_figure_ret (h : Int) (w : Int) (st : List Cell) (c : Cell) : Hp → Hp → VK → XK → Prop := retV (rp (lfigure h w st c : Int))
def pm_law_figure : Pm ((Int) × (Int) × (List Cell) × (Cell)) := ⟨fun i => [rp i.1, rp i.2.1, rp i.2.2.1, rp i.2.2.2], fun i => pm_law_figure_pre i.1 i.2.1 i.2.2.1 i.2.2.2, fun i => pm_law_figure_ret i.1 i.2.1 i.2.2.1 i.2.2.2⟩
theorem f_law_figure (T : Facts K mg C) : Cal P Wd K mg base "_law_figure" 2 (spOf pm_law_figure) := by
  refine cal_go T.d__law_figure sc__law_figure (fun _ => rfl) fun f cdv A outer s H H0 Q E i hr hp hret hs => ?_
  obtain ⟨h, w, st, c⟩ := i
  have hu := hr.units
  have hu1 : (fX P Wd K mg base N__law_figure "_law_figure" s__law_figure f cdv A outer s H E).A.units + 65 < cLine := by have := hr.un; omega
  replace hp : True := hp
  replace hret : (retV (rp (lfigure h w st c : Int))) H H0 Q E := hret
  show Go _ _ _ ([some (rp h), some (rp w), some (rp st), some (rp c)] ++ List.replicate (N__law_figure.length - 4) none) [] _ _
  simp only [List.length_cons, List.length_nil, Nat.reduceAdd, Nat.reduceSub, List.replicate, List.cons_append, List.nil_append]
  refine go_ret (Ev.cast (ev_lenL T.bl rfl (EvN.evc (evn_lcL1 (own := [("one", 4)]) (f := fun x => x) rfl sc__law_figure.nd (it_listC (EvN.evc (c_law_near (f_law_near T) hr (eva_cons (V 0) (eva_cons (V 1) (eva_cons (V 3) eva_nil)))))) ?_ (blkOk_by (by rfl)) (fun _ _ _ _ _ => PN sc__law_figure.nd 4) (fun _ => gj_name (by decide)) (fun _ _ _ _ _ x hx => (et_in (α := Cell) (Ev.evd (V 4)) (Ev.evd (V 2)) hu1 ⟨trivial, trivial⟩ (fun _ _ => ⟨trivial, trivial⟩) (by decide) (bm_plain rfl))) (fun _ _ _ _ _ x hx _ => (V 4))))) ?_) (rt_of hret)
  · have := lnear_len h w c; omega
  · rw [List.length_map]; rfl
theorem c_law_figure {X : Cx} {ρ : En} {ω : Ow} {e : Expr} {es : List Expr} {p pos : Pos} {l : Nat} {h : Int} {w : Int} {st : List Cell} {c : Cell} (G : Cal X.prog X.w X.K X.mg X.base "_law_figure" 2 (spOf pm_law_figure)) (hr : Room l X.A) (ha : EvA X ρ ω (e :: es) [rp h, rp w, rp st, rp c]) (hl : 2 ≤ l := by decide) (hg : Gl X "_law_figure" := by rfl)
    (he : starEach (e :: es) X.env = (false, eval e X.env) :: starEach es X.env := by exact se_cons rfl) (hpl : (backTo pos (starEach es X.env)).any (·.1) = false := by exact se_any rfl) : Ev X ρ ω (.Call (.Name "_law_figure" p) (e :: es) [] pos) (rp (lfigure h w st c : Int)) :=
  ev_call G (h, w, st, c) (hr.mono hl) hg (by decide +kernel) ha trivial (fun _ _ _ q => q) he hpl

end
end DF
namespace DF
open R (rp)
open Dt (toD)
open PySem L2
section
variable {P : Program} {Wd : World} {K : PySem.W.Frag} {mg : Str → Option Value} {base : Heap} {C : Cs}
/-! _law_field_by -/
def pm_law_field_by_pre (ns : List Int) (most : Int) : Prop := 1 ≤ most ∧ most ≤ 6
def pm_law_field_by_ret (ns : List Int) (most : Int) : Hp → Hp → VK → XK → Prop := retV (rp (fieldBy ns most))
def pm_law_field_by (K : PySem.W.Frag) : Pm ((List Int) × (Int)) := ⟨fun i => [scrM K i.1, rp i.2], fun i => pm_law_field_by_pre i.1 i.2, fun i => pm_law_field_by_ret i.1 i.2⟩
theorem f_law_field_by (T : Facts K mg C) : Cal P Wd K mg base "_law_field_by" 2 (spOf (pm_law_field_by K)) := by
  refine cal_go T.d__law_field_by sc__law_field_by (fun _ => rfl) fun f cdv A outer s H H0 Q E i hr hp hret hs => ?_
  obtain ⟨ns, most⟩ := i
  have hu := hr.units
  have hu1 : (fX P Wd K mg base N__law_field_by "_law_field_by" s__law_field_by f cdv A outer s H E).A.units + 65 < cLine := by have := hr.un; omega
  replace hp : 1 ≤ most ∧ most ≤ 6 := hp
  replace hret : (retV (rp (fieldBy ns most))) H H0 Q E := hret
  show Go _ _ _ ([some (scrM K ns), some (rp most)] ++ List.replicate (N__law_field_by.length - 2) none) [] _ _
  simp only [List.length_cons, List.length_nil, Nat.reduceAdd, Nat.reduceSub, List.replicate, List.cons_append, List.nil_append]
  have hd := fieldBy_dim (ns := ns) hp
  have hdim : Dim (fieldBy ns most).h (fieldBy ns most).w := by omega
  have e1 : (fieldBy ns most).h = 1 + mix (cellAt ns 0) 1 most := rfl
  have e2 : (fieldBy ns most).w = 1 + mix (cellAt ns 0) 2 most := rfl
  have ht := mix_bd (c := cellAt ns 0) (k := 3) (m := 3) (by omega)
  refine G_asg sc__law_field_by.nd 2 (c_law_cell_at (f_law_cell_at T) hr (eva_cons (V 0) (eva_cons ev_int eva_nil)) (by decide)) ?_
  refine G_par sc__law_field_by.nd rfl 3 4 (P1 := rp (fieldBy ns most).h) (P2 := rp (fieldBy ns most).w) (ev_add ev_int (c_law_mix (f_law_mix T) hr (eva_cons (V 2) (eva_cons ev_int (eva_cons (V 1) eva_nil))) (by omega))) (ev_add ev_int (c_law_mix (f_law_mix T) hr (eva_cons (V 2) (eva_cons ev_int (eva_cons (V 1) eva_nil))) (by omega))) ?_
  refine G_asg sc__law_field_by.nd 5 (P := rp (thinOf ns)) (ev_ixL (EvN.evc (evn_disp (i_cons ev_int (i_cons ev_int (i_cons ev_int i_nil))) (by decide))) (c_law_mix (f_law_mix T) hr (eva_cons (V 2) (eva_cons ev_int (eva_cons ev_int eva_nil))) (by decide)) (atI_getD 0 ht.1 (by exact ht.2))) ?_
  refine G_asgN sc__law_field_by.nd 6 (evn_nil (α := Cell)) fun a => ?_
  refine go_for (fun (s : List Cell) => [some (scrM K ns), none, none, some (rp (fieldBy ns most).h), some (rp (fieldBy ns most).w), some (rp (thinOf ns)), some (atM a), none, none]) (fun s => [(a, lsO s)]) (fun (ys : List Int) (s : List Cell) => (∀ y ∈ ys, 0 ≤ y) ∧ s ++ ys.flatMap (fun r => (rowOf (fieldBy ns most).w r).filter (stoneB ns (thinOf ns))) = (fieldBy ns most).stones) (fun x s => _) fX_passes rfl (it_range1 T.bl rfl (V 3) (by omega) (by omega)) (PN sc__law_field_by.nd 7) (fun _ _ => gj_name (vs := [7]) (by decide)) [] ⟨fun y hy => (mem_irange.mp hy).1, rfl⟩ (Le.of (by repeat (first | exact Lsl.nil | apply Lsl.keep | apply Lsl.drop)) (by first | exact List.Sublist.refl _ | exact List.Sublist.cons _ (List.Sublist.refl _) | exact List.nil_sublist _)) ?_ ?_
  · rintro B1 u x ys s ⟨hy0, hI⟩
    have hx0 := hy0 x (by simp)
    refine go_for (fun (s : List Cell) => [some (scrM K ns), none, none, some (rp (fieldBy ns most).h), some (rp (fieldBy ns most).w), some (rp (thinOf ns)), some (atM a), some (rp x), none]) (fun s => [(a, lsO s)]) (fun (zs : List Int) (t : List Cell) => t ++ ((zs.map fun c => (x, c)).filter (stoneB ns (thinOf ns)) ++ ys.flatMap (fun r => (rowOf (fieldBy ns most).w r).filter (stoneB ns (thinOf ns)))) = (fieldBy ns most).stones) (fun x s => _) fX_passes rfl (it_range1 T.bl rfl (V 4) (by omega) (by omega)) (PN sc__law_field_by.nd 8) (fun _ _ => gj_name (vs := [8]) (by decide)) s hI (Le.of (by repeat (first | exact Lsl.nil | apply Lsl.keep | apply Lsl.drop)) (by first | exact List.Sublist.refl _ | exact List.Sublist.cons _ (List.Sublist.refl _) | exact List.nil_sublist _)) ?_ ?_
    · rintro B2 u2 c zs t hI2
      have hl : t.length ≤ 36 := by
        have := congrArg List.length hI2
        have h36 := stonesOf_len (ns := ns) (thin := thinOf ns) hdim
        have h36 : (fieldBy ns most).stones.length ≤ 36 := h36
        simp only [List.length_append] at this
        omega
      refine go_if (et_eqI (c_law_mix (f_law_mix T) hr (eva_cons (c_law_cell_at (f_law_cell_at T) hr (eva_cons (V 0) (eva_cons (ev_add ev_int (V 7)) eva_nil)) (by omega)) (eva_cons (V 8) (eva_cons (V 5) eva_nil))) thin_pos) ev_int) (fun h => ?_) (fun h => ?_)
      · have h : stoneB ns (thinOf ns) (x, c) = true := h
        refine G_app 0 6 (ev_pair (V 7) (V 8)) ?_ ?_
        · omega
        refine go_fall (go_end (t ++ [(x, c)]) ?_ (Le.of (by repeat (first | exact Lsl.nil | apply Lsl.keep | apply Lsl.drop)) (by first | exact List.Sublist.refl _ | exact List.Sublist.cons _ (List.Sublist.refl _) | exact List.nil_sublist _)) Up.refl)
        rw [← hI2]; simp [List.filter_cons, h]
      · have h : stoneB ns (thinOf ns) (x, c) = false := h
        refine go_fall (go_end t ?_ (Le.of (by repeat (first | exact Lsl.nil | apply Lsl.keep | apply Lsl.drop)) (by first | exact List.Sublist.refl _ | exact List.Sublist.cons _ (List.Sublist.refl _) | exact List.nil_sublist _)) Up.refl)
        rw [← hI2]; simp [List.filter_cons, h]
    · rintro t hI2
      exact go_end t ⟨fun y hy => hy0 y (by simp [hy]), by simpa using hI2⟩ (Le.of (by repeat (first | exact Lsl.nil | apply Lsl.keep | apply Lsl.drop)) (by first | exact List.Sublist.refl _ | exact List.Sublist.cons _ (List.Sublist.refl _) | exact List.nil_sublist _)) Up.refl
  · rintro s ⟨_, hI⟩
    have hI : s = (fieldBy ns most).stones := by simpa using hI
    subst hI
    refine go_le_freeze 6 rfl ?_
    exact go_ret (ev_tup (eva_cons (V 3) (eva_cons (V 4) (eva_cons (V 6) eva_nil))) (by show 3 ≤ 100000; omega)) (rt_of hret)
theorem c_law_field_by {X : Cx} {ρ : En} {ω : Ow} {e : Expr} {es : List Expr} {p pos : Pos} {l : Nat} {ns : List Int} {most : Int} (G : Cal X.prog X.w X.K X.mg X.base "_law_field_by" 2 (spOf (pm_law_field_by X.K))) (hr : Room l X.A) (ha : EvA X ρ ω (e :: es) [scrM X.K ns, rp most]) (hk : 1 ≤ most ∧ most ≤ 6) (hl : 2 ≤ l := by decide) (hg : Gl X "_law_field_by" := by rfl)
    (he : starEach (e :: es) X.env = (false, eval e X.env) :: starEach es X.env := by exact se_cons rfl) (hpl : (backTo pos (starEach es X.env)).any (·.1) = false := by exact se_any rfl) : Ev X ρ ω (.Call (.Name "_law_field_by" p) (e :: es) [] pos) (rp (fieldBy ns most)) :=
  ev_call G (ns, most) (hr.mono hl) hg (by decide +kernel) ha hk (fun _ _ _ q => q) he hpl
/-! _law_shown -/
def pm_law_shown_pre (h : Int) (w : Int) (st : List Cell) (kn : List Cell) : Prop := Dim h w
def pm_law_shown_ret (h : Int) (w : Int) (st : List Cell) (kn : List Cell) : Hp → Hp → VK → XK → Prop := retN (lsO (lshown h w st kn))
def pm_law_shown : Pm ((Int) × (Int) × (List Cell) × (List Cell)) := ⟨fun i => [rp i.1, rp i.2.1, rp i.2.2.1, rp i.2.2.2], fun i => pm_law_shown_pre i.1 i.2.1 i.2.2.1 i.2.2.2, fun i => pm_law_shown_ret i.1 i.2.1 i.2.2.1 i.2.2.2⟩
theorem f_law_shown (T : Facts K mg C) : Cal P Wd K mg base "_law_shown" 3 (spOf pm_law_shown) := by
  refine cal_go T.d__law_shown sc__law_shown (fun _ => rfl) fun f cdv A outer s H H0 Q E i hr hp hret hs => ?_
  obtain ⟨h, w, st, kn⟩ := i
  have hu := hr.units
  have hu1 : (fX P Wd K mg base N__law_shown "_law_shown" s__law_shown f cdv A outer s H E).A.units + 65 < cLine := by have := hr.un; omega
  replace hp : Dim h w := hp
  replace hret : (retN (lsO (lshown h w st kn))) H H0 Q E := hret
  show Go _ _ _ ([some (rp h), some (rp w), some (rp st), some (rp kn)] ++ List.replicate (N__law_shown.length - 4) none) [] _ _
  simp only [List.length_cons, List.length_nil, Nat.reduceAdd, Nat.reduceSub, List.replicate, List.cons_append, List.nil_append]
  refine G_asgN sc__law_shown.nd 4 (evn_nil (α := Tx)) fun a => ?_
  refine go_for (fun (s : List Tx) => [some (rp h), some (rp w), some (rp st), some (rp kn), some (atM a), none, none, none]) (fun s => [(a, lsO s)]) (fun (ys : List Int) (s : List Tx) => s.length + ys.length ≤ 6 ∧ s ++ ys.map (fun r => (⟨(irange 0 w.toNat).map fun c => signAt h w st kn (r, c)⟩ : Tx)) = lshown h w st kn) (fun x s => _) fX_passes rfl (it_range1 T.bl rfl (V 0) (by omega) (by omega)) (PN sc__law_shown.nd 5) (fun _ _ => gj_name (vs := [5]) (by decide)) [] ⟨by rw [irange_len]; simp; omega, rfl⟩ (Le.of (by repeat (first | exact Lsl.nil | apply Lsl.keep | apply Lsl.drop)) (by first | exact List.Sublist.refl _ | exact List.Sublist.cons _ (List.Sublist.refl _) | exact List.nil_sublist _)) ?_ ?_
  · rintro B1 u x ys s ⟨hl, hI⟩
    refine G_asg sc__law_shown.nd 6 (t_str ⟨[]⟩) ?_
    refine go_for (fun (t : Tx) => [some (rp h), some (rp w), some (rp st), some (rp kn), some (atM a), some (rp x), some (rp t), none]) (fun t => [(a, lsO s)]) (fun (zs : List Int) (t : Tx) => t.cs.length + zs.length ≤ 6 ∧ t.cs ++ zs.map (fun c => signAt h w st kn (x, c)) = (irange 0 w.toNat).map fun c => signAt h w st kn (x, c)) (fun x s => _) fX_passes rfl (it_range1 T.bl rfl (V 1) (by omega) (by omega)) (PN sc__law_shown.nd 7) (fun _ _ => gj_name (vs := [7]) (by decide)) ⟨[]⟩ ⟨by rw [irange_len]; simp; omega, rfl⟩ (Le.of (by repeat (first | exact Lsl.nil | apply Lsl.keep | apply Lsl.drop)) (by first | exact List.Sublist.refl _ | exact List.Sublist.cons _ (List.Sublist.refl _) | exact List.nil_sublist _)) ?_ ?_
    · rintro B2 u2 c zs t ⟨hl2, hI2⟩
      have hf := lfigure_le h w st (x, c)
      simp only [List.length_cons] at hl2
      refine G_asg sc__law_shown.nd 6 (t_add (z := ⟨[signAt h w st kn (x, c)]⟩) (V 6) (ev_ixL (EvN.evc (evn_disp (α := Tx) (i_cons (t_str ⟨[35]⟩) (i_cons (t_strI T.bl rfl (c_law_figure (f_law_figure T) hr (eva_cons (V 0) (eva_cons (V 1) (eva_cons (V 2) (eva_cons (ev_pair (V 5) (V 7)) eva_nil))))) (by omega)) i_nil)) (by show 2 ≤ 1000; omega))) (ev_intB T.bl rfl (ev_in (α := Cell) (Ev.evd (ev_pair (V 5) (V 7))) (Ev.evd (V 3)) hu1 ⟨trivial, trivial⟩ (fun _ _ => ⟨trivial, trivial⟩) (by decide) (bm_plain rfl))) ?_) ?_) ?_
      · unfold signAt
        by_cases hk : (x, c) ∈ kn
        · simp only [hk, decide_true, if_true]
          exact atI_nat (j := 1) rfl
        · simp only [hk, decide_false, if_false, Bool.false_eq_true]
          exact atI_nat (j := 0) rfl
      · show t.cs.length + 1 ≤ 1000000
        omega
      refine go_end ⟨t.cs ++ [signAt h w st kn (x, c)]⟩ ⟨by simp; omega, ?_⟩ (Le.of (by repeat (first | exact Lsl.nil | apply Lsl.keep | apply Lsl.drop)) (by first | exact List.Sublist.refl _ | exact List.Sublist.cons _ (List.Sublist.refl _) | exact List.nil_sublist _)) Up.refl
      rw [← hI2]; simp
    · rintro t ⟨_, hI2⟩
      have et : t = ⟨(irange 0 w.toNat).map fun c => signAt h w st kn (x, c)⟩ := by
        cases t; simp only [List.map_nil, List.append_nil] at hI2; rw [hI2]
      simp only [List.length_cons] at hl
      refine G_app 0 4 (V 6) ?_ ?_
      · omega
      refine go_end (s ++ [t]) ⟨by simp; omega, ?_⟩ (Le.of (by repeat (first | exact Lsl.nil | apply Lsl.keep | apply Lsl.drop)) (by first | exact List.Sublist.refl _ | exact List.Sublist.cons _ (List.Sublist.refl _) | exact List.nil_sublist _)) Up.refl
      rw [← hI, et]; simp
  · rintro s ⟨_, hI⟩
    have hI : s = lshown h w st kn := by simpa using hI
    subst hI
    exact G_retO 4 (rtN_of hret)
theorem c_law_shown {X : Cx} {ρ : En} {ω : Ow} {e : Expr} {es : List Expr} {p pos : Pos} {l : Nat} {h : Int} {w : Int} {st : List Cell} {kn : List Cell} (G : Cal X.prog X.w X.K X.mg X.base "_law_shown" 3 (spOf pm_law_shown)) (hr : Room l X.A) (ha : EvA X ρ ω (e :: es) [rp h, rp w, rp st, rp kn]) (hk : Dim h w) (hl : 3 ≤ l := by decide) (hg : Gl X "_law_shown" := by rfl)
    (he : starEach (e :: es) X.env = (false, eval e X.env) :: starEach es X.env := by exact se_cons rfl) (hpl : (backTo pos (starEach es X.env)).any (·.1) = false := by exact se_any rfl) : EvN X ρ ω (.Call (.Name "_law_shown" p) (e :: es) [] pos) (lsO (lshown h w st kn)) :=
  evn_call G (h, w, st, kn) (hr.mono hl) hg (by decide +kernel) ha hk (fun _ _ _ q => q) he hpl
/-! _law_opened -/
def pm_law_opened_pre (h : Int) (w : Int) (st : List Cell) (kn : List Cell) (c : Cell) : Prop := Dim h w ∧ inF h w c = true
def pm_law_opened_ret (h : Int) (w : Int) (st : List Cell) (kn : List Cell) (c : Cell) : Hp → Hp → VK → XK → Prop := retV (rp (lopened h w st kn c))
def pm_law_opened : Pm ((Int) × (Int) × (List Cell) × (List Cell) × (Cell)) := ⟨fun i => [rp i.1, rp i.2.1, rp i.2.2.1, rp i.2.2.2.1, rp i.2.2.2.2], fun i => pm_law_opened_pre i.1 i.2.1 i.2.2.1 i.2.2.2.1 i.2.2.2.2, fun i => pm_law_opened_ret i.1 i.2.1 i.2.2.1 i.2.2.2.1 i.2.2.2.2⟩
theorem f_law_opened (T : Facts K mg C) : Cal P Wd K mg base "_law_opened" 3 (spOf pm_law_opened) := by
  refine cal_go T.d__law_opened sc__law_opened (fun _ => rfl) fun f cdv A outer s H H0 Q E i hr hp hret hs => ?_
  obtain ⟨h, w, st, kn, c⟩ := i
  have hu := hr.units
  have hu1 : (fX P Wd K mg base N__law_opened "_law_opened" s__law_opened f cdv A outer s H E).A.units + 65 < cLine := by have := hr.un; omega
  replace hp : Dim h w ∧ inF h w c = true := hp
  replace hret : (retV (rp (lopened h w st kn c))) H H0 Q E := hret
  show Go _ _ _ ([some (rp h), some (rp w), some (rp st), some (rp kn), some (rp c)] ++ List.replicate (N__law_opened.length - 5) none) [] _ _
  simp only [List.length_cons, List.length_nil, Nat.reduceAdd, Nat.reduceSub, List.replicate, List.cons_append, List.nil_append]
  obtain ⟨hd, hc⟩ := hp
  refine G_asg sc__law_opened.nd 5 (EvN.evl (evn_disp (i_cons (V 4) i_nil) (by show 1 ≤ 1000; omega))) ?_
  refine G_asg sc__law_opened.nd 6 ev_int ?_
  refine go_while (S := List Cell × Nat) (fun s => [some (rp h), some (rp w), some (rp st), some (rp kn), none, some (rp s.1), some (rp (s.2 : Int)), none]) (fun s => []) (fun s => s.2 ≤ s.1.length ∧ Fnd h w s.1 ∧ lgo h w st kn (37 - s.2) s.1 s.2 = lopened h w st kn c) (fun s => 37 - s.2) (fun s => decide ((s.2 : Int) < (s.1.length : Int))) fX_passes ([c], 0) ⟨by simp, ⟨by simp, fun x hx => by rw [List.mem_singleton.mp hx]; exact hc⟩, rfl⟩ (Le.of (by repeat (first | exact Lsl.nil | apply Lsl.keep | apply Lsl.drop)) (by first | exact List.Sublist.refl _ | exact List.Sublist.cons _ (List.Sublist.refl _) | exact List.nil_sublist _)) (fun s hI => (et_lt (V 6) (ev_lenL T.bl rfl (Ev.evcl (V 5))))) ?_ ?_
  · rintro ⟨found, k⟩ ⟨hk, hf, hI⟩ ht
    have ht : k < found.length := by have := of_decide_eq_true ht; simp only at this; omega
    simp only at hk hf hI
    have h36 := hf.len hd
    have e37 : 37 - k = (37 - (k + 1)) + 1 := by omega
    rw [e37] at hI
    unfold lgo at hI
    rw [if_pos ht] at hI
    have hat : atI found (k : Int) = some (found.getD k (0, 0)) := by
      refine atI_nat ?_
      rw [List.getD_eq_getElem?_getD, List.getElem?_eq_getElem ht]; rfl
    have hgl := (hf.grow (st := st) (known := kn) (c := found.getD k (0, 0))).len hd
    refine go_if (et_eqI (c_law_figure (f_law_figure T) hr (eva_cons (V 0) (eva_cons (V 1) (eva_cons (V 2) (eva_cons (ev_ixL (Ev.evcl (V 5)) (V 6) hat) eva_nil))))) ev_int) (fun h0 => ?_) (fun h0 => ?_)
    · have h0 : lfigure h w st (found.getD k (0, 0)) = 0 := by have := of_decide_eq_true h0; omega
      have eg : lgrow h w st kn found (found.getD k (0, 0)) = found ++ (lnear h w (found.getD k (0, 0))).filter (fun x => !decide (x ∈ kn) && !decide (x ∈ found)) := by unfold lgrow; rw [if_pos h0]
      rw [eg] at hI hgl
      refine G_asg sc__law_opened.nd 5 (EvN.evl (evn_catL (Ev.evcl (V 5)) (EvN.evc (evn_lcL1 (own := [("x", 7)]) (f := fun x => x) rfl sc__law_opened.nd (it_listC (EvN.evc (c_law_near (f_law_near T) hr (eva_cons (V 0) (eva_cons (V 1) (eva_cons (ev_ixL (Ev.evcl (V 5)) (V 6) hat) eva_nil)))))) ?_ (blkOk_by (by rfl)) (fun _ _ _ _ _ => PN sc__law_opened.nd 7) (fun _ => gj_name (by decide)) (fun _ _ _ _ _ x hx => (et_w (ew_and (et_ni (α := Cell) (Ev.evd (V 7)) (Ev.evd (V 3)) hu1 ⟨trivial, trivial⟩ (fun _ _ => ⟨trivial, trivial⟩) (by decide) (bm_plain rfl)) fun _ => (ew_and1 (et_ni (α := Cell) (Ev.evd (V 7)) (Ev.evd (V 5)) hu1 ⟨trivial, trivial⟩ (fun _ _ => ⟨trivial, trivial⟩) (by decide) (bm_plain rfl)))))) (fun _ _ _ _ _ x hx _ => (V 7)))) ?_)) ?_
      · have := lnear_len h w (found.getD k (0, 0)); omega
      · dsimp only; rw [List.map_id', ← List.length_append]; omega
      refine go_fall (G_asg sc__law_opened.nd 6 (ev_add (V 6) ev_int) ?_)
      refine go_nil fun B1 u σ H1 H01 S => ⟨(found ++ (lnear h w (found.getD k (0, 0))).filter (fun x => !decide (x ∈ kn) && !decide (x ∈ found)), k + 1), H01, ⟨?_, ?_, hI⟩, by simp only; omega, ?_⟩
      · simp only [List.length_append]; omega
      · rw [← eg]; exact hf.grow
      · have S := S.down u
        rw [List.map_id'] at S
        exact S.less (by repeat (first | exact Lsl.nil | apply Lsl.keep | apply Lsl.drop)) (List.Sublist.refl _)
    · have h0 : ¬ lfigure h w st (found.getD k (0, 0)) = 0 := by have := of_decide_eq_false h0; omega
      have eg : lgrow h w st kn found (found.getD k (0, 0)) = found := by unfold lgrow; rw [if_neg h0]
      rw [eg] at hI
      refine go_fall (G_asg sc__law_opened.nd 6 (ev_add (V 6) ev_int) ?_)
      refine go_nil fun B1 u σ H1 H01 S => ⟨(found, k + 1), H01, ⟨by simp only; omega, hf, hI⟩, by simp only; omega, ?_⟩
      exact (S.down u).less (by repeat (first | exact Lsl.nil | apply Lsl.keep | apply Lsl.drop)) (List.Sublist.refl _)
  · rintro ⟨found, k⟩ ⟨hk, hf, hI⟩ ht
    have ht : ¬ k < found.length := by have := of_decide_eq_false ht; simp only at this; omega
    have e : found = lopened h w st kn c := by
      rw [← hI]
      show found = lgo h w st kn (37 - k) found k
      cases e : 37 - k with
      | zero => rfl
      | succ n => unfold lgo; rw [if_neg ht]
    subst e
    exact go_ret (V 5) (rt_of hret)
theorem c_law_opened {X : Cx} {ρ : En} {ω : Ow} {e : Expr} {es : List Expr} {p pos : Pos} {l : Nat} {h : Int} {w : Int} {st : List Cell} {kn : List Cell} {c : Cell} (G : Cal X.prog X.w X.K X.mg X.base "_law_opened" 3 (spOf pm_law_opened)) (hr : Room l X.A) (ha : EvA X ρ ω (e :: es) [rp h, rp w, rp st, rp kn, rp c]) (hk : Dim h w ∧ inF h w c = true) (hl : 3 ≤ l := by decide) (hg : Gl X "_law_opened" := by rfl)
    (he : starEach (e :: es) X.env = (false, eval e X.env) :: starEach es X.env := by exact se_cons rfl) (hpl : (backTo pos (starEach es X.env)).any (·.1) = false := by exact se_any rfl) : Ev X ρ ω (.Call (.Name "_law_opened" p) (e :: es) [] pos) (rp (lopened h w st kn c)) :=
  ev_call G (h, w, st, kn, c) (hr.mono hl) hg (by decide +kernel) ha hk (fun _ _ _ q => q) he hpl

end
end DF
namespace DF
open R (rp)
open Dt (toD)
open PySem L2
section
variable {P : Program} {Wd : World} {K : PySem.W.Frag} {mg : Str → Option Value} {base : Heap} {C : Cs}
/-! _law_view_by -/
def pm_law_view_by_pre (ns : List Int) (most : Int) (steps : Int) : Prop := (1 ≤ most ∧ most ≤ 6) ∧ 0 < steps ∧ steps ≤ 100
def pm_law_view_by_ret (ns : List Int) (most : Int) (steps : Int) : Hp → Hp → VK → XK → Prop := retV (rp (viewBy ns most steps))
def pm_law_view_by (K : PySem.W.Frag) : Pm ((List Int) × (Int) × (Int)) := ⟨fun i => [scrM K i.1, rp i.2.1, rp i.2.2], fun i => pm_law_view_by_pre i.1 i.2.1 i.2.2, fun i => pm_law_view_by_ret i.1 i.2.1 i.2.2⟩
theorem f_law_view_by (T : Facts K mg C) : Cal P Wd K mg base "_law_view_by" 4 (spOf (pm_law_view_by K)) := by
  refine cal_go T.d__law_view_by sc__law_view_by (fun _ => rfl) fun f cdv A outer s H H0 Q E i hr hp hret hs => ?_
  obtain ⟨ns, most, steps⟩ := i
  have hu := hr.units
  have hu1 : (fX P Wd K mg base N__law_view_by "_law_view_by" s__law_view_by f cdv A outer s H E).A.units + 65 < cLine := by have := hr.un; omega
  replace hp : (1 ≤ most ∧ most ≤ 6) ∧ 0 < steps ∧ steps ≤ 100 := hp
  replace hret : (retV (rp (viewBy ns most steps))) H H0 Q E := hret
  show Go _ _ _ ([some (scrM K ns), some (rp most), some (rp steps)] ++ List.replicate (N__law_view_by.length - 3) none) [] _ _
  simp only [List.length_cons, List.length_nil, Nat.reduceAdd, Nat.reduceSub, List.replicate, List.cons_append, List.nil_append]
  have hd := fieldBy_dim (ns := ns) hp.1
  have hdim : Dim (fieldBy ns most).h (fieldBy ns most).w := by omega
  have hst : (fieldBy ns most).stones.length ≤ 36 := stonesOf_len hdim
  have hn0 : 0 ≤ cellAt ns 10 % steps := Int.emod_nonneg _ (by omega)
  have hn1 : cellAt ns 10 % steps < steps := Int.emod_lt_of_pos _ (by omega)
  generalize hF : fieldBy ns most = F at hd hdim hst
  refine G_asgT (P := tupM [rp F.h, rp F.w, rp F.stones]) (by rw [← hF]; exact c_law_field_by (f_law_field_by T) hr (eva_cons (V 0) (eva_cons (V 1) eva_nil)) hp.1) (PT3 sc__law_view_by.nd rfl 3 4 5) (gj_trip (vs := [3, 4, 5]) (by decide) (by decide) (by decide)) ?_
  refine G_asg sc__law_view_by.nd 6 (EvN.evl (evn_nil (α := Cell))) ?_
  refine G_asg sc__law_view_by.nd 7 (EvN.evl (evn_nil (α := Cell))) ?_
  refine go_for (fun (s : List Cell) => [some (scrM K ns), none, some (rp steps), some (rp F.h), some (rp F.w), some (rp F.stones), some (rp ([] : List Cell)), some (rp s), none, none, none, none, none, none]) (fun s => []) (fun (ys : List Int) (s : List Cell) => s.length + ys.length * 6 ≤ 36 ∧ s ++ ys.flatMap (freeRow F.w F.stones) = freeOf F.h F.w F.stones) (fun x s => _) fX_passes rfl (it_range1 T.bl rfl (V 3) (by omega) (by omega)) (PN sc__law_view_by.nd 8) (fun _ _ => gj_name (vs := [8]) (by decide)) [] ⟨by rw [irange_len]; simp; omega, rfl⟩ (Le.of (by repeat (first | exact Lsl.nil | apply Lsl.keep | apply Lsl.drop)) (by first | exact List.Sublist.refl _ | exact List.Sublist.cons _ (List.Sublist.refl _) | exact List.nil_sublist _)) ?_ ?_
  · rintro B1 u x ys s ⟨hl, hI⟩
    have hfr : (freeRow F.w F.stones x).length ≤ 6 := by
      unfold freeRow
      rw [List.length_map]
      have := List.length_filter_le (fun c => !decide ((x, c) ∈ F.stones)) (irange 0 F.w.toNat)
      rw [irange_len] at this
      omega
    simp only [List.length_cons, Nat.succ_mul] at hl
    refine G_asg sc__law_view_by.nd 7 (P := rp (s ++ freeRow F.w F.stones x)) (EvN.evl (evn_catL (Ev.evcl (V 7)) (EvN.evc (evn_lcL1 (own := [("c", 12)]) (f := fun c => (x, c)) rfl sc__law_view_by.nd (Itr.toC (it_range1 T.bl rfl (V 4) (by omega) (by omega))) ?_ (blkOk_by (by rfl)) (fun _ _ _ _ _ => PN sc__law_view_by.nd 12) (fun _ => gj_name (by decide)) (fun _ _ _ _ _ x hx => (et_ni (α := Cell) (Ev.evd (ev_pair (V 8) (V 12))) (Ev.evd (V 5)) hu1 ⟨trivial, trivial⟩ (fun _ _ => ⟨trivial, trivial⟩) (by decide) (bm_plain rfl))) (fun _ _ _ _ _ x hx _ => (ev_pair (V 8) (V 12))))) ?_)) ?_
    · rw [irange_len]; omega
    · show s.length + (freeRow F.w F.stones x).length ≤ 1000000; omega
    refine go_end (s ++ freeRow F.w F.stones x) ⟨by simp; omega, ?_⟩ (Le.of (by repeat (first | exact Lsl.nil | apply Lsl.keep | apply Lsl.drop)) (by first | exact List.Sublist.refl _ | exact List.Sublist.cons _ (List.Sublist.refl _) | exact List.nil_sublist _)) Up.refl
    rw [← hI]; simp
  · rintro s ⟨hl, hI⟩
    have hI : s = freeOf F.h F.w F.stones := by simpa using hI
    subst hI
    simp only [List.length_nil, Nat.zero_mul, Nat.add_zero] at hl
    refine go_for (fun (kn : List Cell) => [some (scrM K ns), none, none, some (rp F.h), some (rp F.w), some (rp F.stones), some (rp kn), some (rp (freeOf F.h F.w F.stones)), none, none, none, none, none, none]) (fun s => []) (fun (ys : List Int) (kn : List Cell) => (∀ y ∈ ys, 0 ≤ y) ∧ kn.length + ys.length * 36 ≤ 3600 ∧ ys.foldl (kstep ns F.h F.w F.stones (freeOf F.h F.w F.stones)) kn = knownBy ns F.h F.w F.stones (cellAt ns 10 % steps)) (fun x s => _) fX_passes rfl (it_range1 T.bl rfl (ev_mod (c_law_cell_at (f_law_cell_at T) hr (eva_cons (V 0) (eva_cons ev_int eva_nil)) (by decide)) (V 2) hp.2.1) (by omega) (by omega)) (PN sc__law_view_by.nd 9) (fun _ _ => gj_name (vs := [9]) (by decide)) [] ⟨fun y hy => (mem_irange.mp hy).1, by rw [irange_len]; simp; omega, rfl⟩ (Le.of (by repeat (first | exact Lsl.nil | apply Lsl.keep | apply Lsl.drop)) (by first | exact List.Sublist.refl _ | exact List.Sublist.cons _ (List.Sublist.refl _) | exact List.nil_sublist _)) ?_ ?_
    · rintro B1 u k ys kn ⟨hy, hl2, hI2⟩
      have hk0 := hy k (by simp)
      simp only [List.length_cons, Nat.succ_mul] at hl2
      have hleft := List.length_filter_le (fun x => !decide (x ∈ kn)) (freeOf F.h F.w F.stones)
      refine G_lc1 sc__law_view_by.nd 10 (own := [("one", 13)]) (f := fun x => x) (keep := fun x => !decide (x ∈ kn)) rfl (it_listC (Ev.evcl (V 7))) (by omega) (blkOk_by (by rfl)) (fun _ _ _ _ _ => PN sc__law_view_by.nd 13) (fun _ => gj_name (by decide)) (fun _ _ _ _ _ x hx => (et_ni (α := Cell) (Ev.evd (V 13)) (Ev.evd (V 6)) hu1 ⟨trivial, trivial⟩ (fun _ _ => ⟨trivial, trivial⟩) (by decide) (bm_plain rfl))) (fun _ _ _ _ _ x hx _ => (V 13)) ?_
      rw [List.map_id']
      generalize hL : (freeOf F.h F.w F.stones).filter (fun x => !decide (x ∈ kn)) = L at hleft
      have hks : kstep ns F.h F.w F.stones (freeOf F.h F.w F.stones) kn k = if 0 < L.length then kn ++ lopened F.h F.w F.stones kn (L.getD (mix (cellAt ns (11 + k)) k L.length).toNat (0, 0)) else kn := by unfold kstep; rw [hL]
      refine go_if (et_gt (ev_lenL T.bl rfl (Ev.evcl (V 10))) ev_int) (fun h => ?_) (fun h => ?_)
      · have h : 0 < L.length := by have := of_decide_eq_true h; omega
        have hm := mix_bd (c := cellAt ns (11 + k)) (k := k) (m := (L.length : Int)) (by omega)
        have hmem : L.getD (mix (cellAt ns (11 + k)) k L.length).toNat (0, 0) ∈ L := by
          rw [List.getD_eq_getElem?_getD, List.getElem?_eq_getElem (show (mix (cellAt ns (11 + k)) k L.length).toNat < L.length by omega)]
          exact List.getElem_mem _
        have hin : inF F.h F.w (L.getD (mix (cellAt ns (11 + k)) k L.length).toNat (0, 0)) = true := by
          rw [← hL] at hmem
          have := (List.mem_filter.mp hmem).1
          rw [hL] at this
          exact (freeOf_in this).1
        have hop := (lopened_fnd (st := F.stones) (known := kn) hin).len hdim
        rw [if_pos h] at hks
        refine G_asg sc__law_view_by.nd 11 (ev_ixL (Ev.evcl (V 10)) (c_law_mix (f_law_mix T) hr (eva_cons (c_law_cell_at (f_law_cell_at T) hr (eva_cons (V 0) (eva_cons (ev_add ev_int (V 9)) eva_nil)) (by omega)) (eva_cons (V 9) (eva_cons (ev_lenL T.bl rfl (Ev.evcl (V 10))) eva_nil))) (by omega)) (atI_getD (0, 0) hm.1 hm.2)) ?_
        refine G_asg sc__law_view_by.nd 6 (EvN.evl (evn_catL (Ev.evcl (V 6)) (Ev.evcl (c_law_opened (f_law_opened T) hr (eva_cons (V 3) (eva_cons (V 4) (eva_cons (V 5) (eva_cons (V 6) (eva_cons (V 11) eva_nil))))) ⟨hdim, hin⟩)) ?_)) ?_
        · omega
        refine go_fall (go_end _ ⟨fun y hy' => hy y (by simp [hy']), ?_, ?_⟩ (Le.of (by repeat (first | exact Lsl.nil | apply Lsl.keep | apply Lsl.drop)) (by first | exact List.Sublist.refl _ | exact List.Sublist.cons _ (List.Sublist.refl _) | exact List.nil_sublist _)) Up.refl)
        · rw [List.length_append]; omega
        · rw [← hI2, List.foldl_cons, hks]
      · have h : ¬ 0 < L.length := by have := of_decide_eq_false h; omega
        rw [if_neg h] at hks
        refine go_fall (go_end kn ⟨fun y hy' => hy y (by simp [hy']), by omega, ?_⟩ (Le.of (by repeat (first | exact Lsl.nil | apply Lsl.keep | apply Lsl.drop)) (by first | exact List.Sublist.refl _ | exact List.Sublist.cons _ (List.Sublist.refl _) | exact List.nil_sublist _)) Up.refl)
        rw [← hI2, List.foldl_cons, hks]
    · rintro kn ⟨_, hl2, hI2⟩
      have hI2 : kn = knownBy ns F.h F.w F.stones (cellAt ns 10 % steps) := by simpa using hI2
      have ev : viewBy ns most steps = (lshown F.h F.w F.stones kn, F.stones) := by unfold viewBy; rw [hF, hI2]
      rw [ev] at hret
      exact go_ret (ev_pair (EvN.evl (c_law_shown (f_law_shown T) hr (eva_cons (V 3) (eva_cons (V 4) (eva_cons (V 5) (eva_cons (V 6) eva_nil)))) hdim)) (V 5)) (rt_of hret)
theorem c_law_view_by {X : Cx} {ρ : En} {ω : Ow} {e : Expr} {es : List Expr} {p pos : Pos} {l : Nat} {ns : List Int} {most : Int} {steps : Int} (G : Cal X.prog X.w X.K X.mg X.base "_law_view_by" 4 (spOf (pm_law_view_by X.K))) (hr : Room l X.A) (ha : EvA X ρ ω (e :: es) [scrM X.K ns, rp most, rp steps]) (hk : (1 ≤ most ∧ most ≤ 6) ∧ 0 < steps ∧ steps ≤ 100) (hl : 4 ≤ l := by decide) (hg : Gl X "_law_view_by" := by rfl)
    (he : starEach (e :: es) X.env = (false, eval e X.env) :: starEach es X.env := by exact se_cons rfl) (hpl : (backTo pos (starEach es X.env)).any (·.1) = false := by exact se_any rfl) : Ev X ρ ω (.Call (.Name "_law_view_by" p) (e :: es) [] pos) (rp (viewBy ns most steps)) :=
  ev_call G (ns, most, steps) (hr.mono hl) hg (by decide +kernel) ha hk (fun _ _ _ q => q) he hpl
/-! _law_wrong_by -/
def pm_law_wrong_by_pre (ns : List Int) (rows : List Tx) : Prop := Vw rows
def pm_law_wrong_by_ret (ns : List Int) (rows : List Tx) : Hp → Hp → VK → XK → Prop := retV (rp (wrongBy ns rows))
def pm_law_wrong_by (K : PySem.W.Frag) : Pm ((List Int) × (List Tx)) := ⟨fun i => [scrM K i.1, rp i.2], fun i => pm_law_wrong_by_pre i.1 i.2, fun i => pm_law_wrong_by_ret i.1 i.2⟩
theorem f_law_wrong_by (T : Facts K mg C) : Cal P Wd K mg base "_law_wrong_by" 2 (spOf (pm_law_wrong_by K)) := by
  refine cal_go T.d__law_wrong_by sc__law_wrong_by (fun _ => rfl) fun f cdv A outer s H H0 Q E i hr hp hret hs => ?_
  obtain ⟨ns, rows⟩ := i
  have hu := hr.units
  have hu1 : (fX P Wd K mg base N__law_wrong_by "_law_wrong_by" s__law_wrong_by f cdv A outer s H E).A.units + 65 < cLine := by have := hr.un; omega
  replace hp : Vw rows := hp
  replace hret : (retV (rp (wrongBy ns rows))) H H0 Q E := hret
  show Go _ _ _ ([some (scrM K ns), some (rp rows)] ++ List.replicate (N__law_wrong_by.length - 2) none) [] _ _
  simp only [List.length_cons, List.length_nil, Nat.reduceAdd, Nat.reduceSub, List.replicate, List.cons_append, List.nil_append]
  have hw1 := hp.w1
  have hh1 := hp.h1
  have hw6 := hp.w6
  have hh6 := hp.h6
  obtain ⟨r0, rs, er⟩ : ∃ r0 rs, rows = r0 :: rs := by
    cases rows with
    | nil => simp at hh1
    | cons r0 rs => exact ⟨r0, rs, rfl⟩
  have h0 : atI rows 0 = some r0 := by subst er; exact atI_nat (j := 0) rfl
  have hw0 : r0.cs.length = widthOf rows := by subst er; rfl
  have m1 := mix_bd (c := cellAt ns 18) (k := 1) (m := (rows.length : Int)) (by omega)
  have m2 := mix_bd (c := cellAt ns 18) (k := 2) (m := (widthOf rows : Int)) (by omega)
  have m3 := mix_bd (c := cellAt ns 18) (k := 3) (m := 5) (by omega)
  refine G_asg sc__law_wrong_by.nd 2 (c_law_cell_at (f_law_cell_at T) hr (eva_cons (V 0) (eva_cons ev_int eva_nil)) (by decide)) ?_
  refine G_par sc__law_wrong_by.nd rfl 3 4 (c_law_mix (f_law_mix T) hr (eva_cons (V 2) (eva_cons ev_int (eva_cons (ev_lenL T.bl rfl (Ev.evcl (V 1))) eva_nil))) (by omega)) (c_law_mix (many := (widthOf rows : Int)) (f_law_mix T) hr (eva_cons (V 2) (eva_cons ev_int (eva_cons (by rw [← hw0]; exact t_len T.bl rfl (ev_ixL (Ev.evcl (V 1)) ev_int h0) (by omega)) eva_nil))) (by omega)) ?_
  refine G_asg sc__law_wrong_by.nd 5 (t_ix (k := ([35, 48, 49, 50, 51] : List Nat).getD (mix (cellAt ns 18) 3 5).toNat 0) (t_str ⟨[35, 48, 49, 50, 51]⟩) (c_law_mix (f_law_mix T) hr (eva_cons (V 2) (eva_cons ev_int (eva_cons ev_int eva_nil))) (by decide)) (by show 5 ≤ 1000000; omega) (atI_getD 0 m3.1 (by show _ < (5 : Int); omega))) ?_
  generalize hr' : mix (cellAt ns 18) 1 rows.length = r at m1
  generalize hc' : mix (cellAt ns 18) 2 (widthOf rows) = c at m2
  generalize hs' : ([35, 48, 49, 50, 51] : List Nat).getD (mix (cellAt ns 18) 3 5).toNat 0 = sg
  have hrow : rows.getD r.toNat ⟨[]⟩ ∈ rows := by
    rw [List.getD_eq_getElem?_getD, List.getElem?_eq_getElem (show r.toNat < rows.length by omega)]
    exact List.getElem_mem _
  have hrl := (hp.row _ hrow).1
  generalize hR : rows.getD r.toNat ⟨[]⟩ = R at hrow hrl
  have hat : atI rows r = some R := by rw [← hR]; exact atI_getD ⟨[]⟩ m1.1 m1.2
  refine go_if (et_neI (ev_mod (V 2) ev_int (by decide)) ev_int) (fun h => ?_) (fun h => ?_)
  · have h : ¬ cellAt ns 18 % 3 = 1 := by simpa using h
    have e : wrongBy ns rows = rows := by unfold wrongBy; rw [if_neg h]
    rw [e] at hret
    exact go_ret (V 1) (rt_of hret)
  · have h : cellAt ns 18 % 3 = 1 := by simpa using h
    have e : wrongBy ns rows = rows.set r.toNat ⟨R.cs.set c.toNat sg⟩ := by unfold wrongBy; rw [if_pos h, hr', hc', hs']; unfold putSign; rw [hR]
    rw [e] at hret
    have hcut1 : (cutL R.cs none (some c)).length = c.toNat := by rw [cutL_to m2.1 (by omega), List.length_take]; omega
    have hcut2 : (cutL R.cs (some (c + 1)) none).length ≤ 6 := by rw [cutL_from (by omega) (by omega), List.length_drop]; omega
    refine go_fall (G_asg sc__law_wrong_by.nd 6 (P := rp (⟨R.cs.set c.toNat sg⟩ : Tx)) (Ev.cast (t_add (t_add (t_slice (ev_ixL (Ev.evcl (V 1)) (V 3) hat) eo_none (eo_some (V 4)) (by omega)) (V 5) (by simp only [List.length_cons, List.length_nil]; omega)) (t_slice (ev_ixL (Ev.evcl (V 1)) (V 3) hat) (eo_some (ev_add (V 4) ev_int)) eo_none (by omega)) (by simp only [List.length_append, List.length_cons, List.length_nil]; omega)) ?_) ?_)
    · rw [← set_of_cut m2.1 (by omega)]
    refine go_ret (Ev.cast (EvN.evl (evn_catL (EvN.evc (evn_catL (EvN.evc (evn_sliceL (Ev.evcl (V 1)) eo_none (eo_some (V 3)))) (EvN.evc (evn_disp (i_cons (V 6) i_nil) (by show 1 ≤ 1000; omega))) (by rw [cutL_to m1.1 (by omega), List.length_take]; simp only [List.length_cons, List.length_nil]; omega))) (EvN.evc (evn_sliceL (Ev.evcl (V 1)) (eo_some (ev_add (V 3) ev_int)) eo_none)) (by rw [cutL_to m1.1 (by omega), cutL_from (by omega) (by omega), List.length_append, List.length_take, List.length_drop]; simp only [List.length_cons, List.length_nil]; omega))) ?_) (rt_of hret)
    rw [set_of_cut m1.1 m1.2]
theorem c_law_wrong_by {X : Cx} {ρ : En} {ω : Ow} {e : Expr} {es : List Expr} {p pos : Pos} {l : Nat} {ns : List Int} {rows : List Tx} (G : Cal X.prog X.w X.K X.mg X.base "_law_wrong_by" 2 (spOf (pm_law_wrong_by X.K))) (hr : Room l X.A) (ha : EvA X ρ ω (e :: es) [scrM X.K ns, rp rows]) (hk : Vw rows) (hl : 2 ≤ l := by decide) (hg : Gl X "_law_wrong_by" := by rfl)
    (he : starEach (e :: es) X.env = (false, eval e X.env) :: starEach es X.env := by exact se_cons rfl) (hpl : (backTo pos (starEach es X.env)).any (·.1) = false := by exact se_any rfl) : Ev X ρ ω (.Call (.Name "_law_wrong_by" p) (e :: es) [] pos) (rp (wrongBy ns rows)) :=
  ev_call G (ns, rows) (hr.mono hl) hg (by decide +kernel) ha hk (fun _ _ _ q => q) he hpl

end
end DF
namespace DF
open R (rp)
open Dt (toD)
open PySem L2
section
variable {P : Program} {Wd : World} {K : PySem.W.Frag} {mg : Str → Option Value} {base : Heap} {C : Cs}
/-! rows_right -/
def pm_rows_right_pre (rows : List Tx) : Prop := ∀ row ∈ rows, row.cs.length ≤ 1000
def pm_rows_right_ret (rows : List Tx) : Hp → Hp → VK → XK → Prop := retV (rp (rowsRight rows))
def pm_rows_right : Pm (List Tx) := ⟨fun i => [rp i], fun i => pm_rows_right_pre i, fun i => pm_rows_right_ret i⟩
theorem f_rows_right (T : Facts K mg C) : Cal P Wd K mg base "rows_right" 1 (spOf pm_rows_right) := by
  refine cal_go T.d_rows_right sc_rows_right (fun _ => rfl) fun f cdv A outer s H H0 Q E rows hr hp hret hs => ?_
  have hu := hr.units
  have hu1 : (fX P Wd K mg base N_rows_right "rows_right" s_rows_right f cdv A outer s H E).A.units + 65 < cLine := by have := hr.un; omega
  replace hp : ∀ row ∈ rows, row.cs.length ≤ 1000 := hp
  replace hret : (retV (rp (rowsRight rows))) H H0 Q E := hret
  show Go _ _ _ ([some (rp rows)] ++ List.replicate (N_rows_right.length - 1) none) [] _ _
  simp only [List.length_cons, List.length_nil, Nat.reduceAdd, Nat.reduceSub, List.replicate, List.cons_append, List.nil_append]
  obtain ⟨tM, hM⟩ := T.g_MOST
  rcases rows with _ | ⟨r0, rs⟩
  · refine go_if (et_w (ew_or (l := true) (et_not (ev_chain op_le op_le ev_int (ev_lenL T.bl rfl (Ev.evcl (V 0))) (fun _ => (ev_globI rfl hM)))) fun h => absurd h (by decide))) (fun h => ?_) (fun h => absurd h (by decide))
    exact go_ret (P := rp (rowsRight [])) ev_bl (rt_of hret)
  · have h0 : atI (r0 :: rs) 0 = some r0 := atI_nat (j := 0) rfl
    have hl0 : r0.cs.length ≤ 1000 := hp r0 (by simp)
    have hw : widthOf (r0 :: rs) = r0.cs.length := rfl
    generalize hR : r0 :: rs = rows at *
    refine go_if (et_w (ew_or (et_not (ev_chain op_le op_le ev_int (ev_lenL T.bl rfl (Ev.evcl (V 0))) (fun _ => (ev_globI rfl hM)))) fun _ => (ew_or1 (et_not (ev_chain op_le op_le ev_int (t_len T.bl rfl (ev_ixL (Ev.evcl (V 0)) ev_int h0) (by omega)) (fun _ => (ev_globI rfl hM))))))) (fun h => ?_) (fun h => ?_)
    · refine go_ret (P := rp (rowsRight rows)) (Ev.cast ev_bl ?_) (rt_of hret)
      congr 1
      unfold rowsRight
      rw [hw]
      simp only [Bool.or_eq_true, Bool.not_eq_true', Bool.and_eq_false_iff, decide_eq_false_iff_not] at h
      symm
      rw [Bool.and_eq_false_iff]
      left
      rw [Bool.and_eq_false_iff, decide_eq_false_iff_not, decide_eq_false_iff_not]
      omega
    · simp only [Bool.or_eq_false_iff, Bool.not_eq_false', Bool.and_eq_true, decide_eq_true_eq] at h
      have e1 : rowsRight rows = rows.all (goodRow (widthOf rows)) := by
        unfold rowsRight
        rw [hw, decide_eq_true (by omega : 1 ≤ rows.length ∧ rows.length ≤ 6), decide_eq_true (by omega : 1 ≤ r0.cs.length ∧ r0.cs.length ≤ 6)]
        simp
      refine go_fall (go_for (S := Unit) (fun s => [some (rp rows), none, none]) (fun s => []) (fun (ys : List Tx) s => (∀ y ∈ ys, y.cs.length ≤ 1000) ∧ rowsRight rows = ys.all (goodRow (widthOf rows))) (fun x s => _) fX_passes rfl (it_listL (V 0)) (PN sc_rows_right.nd 1) (fun _ _ => gj_name (vs := [1]) (by decide)) () ⟨hp, e1⟩ (Le.of (by repeat (first | exact Lsl.nil | apply Lsl.keep | apply Lsl.drop)) (by first | exact List.Sublist.refl _ | exact List.Sublist.cons _ (List.Sublist.refl _) | exact List.nil_sublist _)) ?_ ?_)
      · rintro B1 u x ys s ⟨hy, hI⟩
        have hx := hy x (by simp)
        refine go_if (et_w (ew_or (et_neI (t_len T.bl rfl (V 1) (by omega)) (t_len T.bl rfl (ev_ixL (Ev.evcl (V 0)) ev_int h0) (by omega))) fun _ => (ew_or1 (et_not (et_val (ev_all T.bl rfl rfl (EvN.evc (evn_lcL0 (own := [("letter", 2)]) (f := fun (t : Tx) => decide (t.cs.headD 0 ∈ vsigns)) rfl sc_rows_right.nd (Itr.toC (it_strT (V 1))) ?_ (blkOk_by (by rfl)) (fun _ _ _ _ _ => PN sc_rows_right.nd 2) (fun _ => gj_name (by decide)) (fun _ _ _ _ _ t ht => ?_))))))))) (fun h => ?_) (fun h => ?_)
        · rw [List.length_map]; omega
        · obtain ⟨c, hc, rfl⟩ := List.mem_map.mp ht
          exact t_in (z := ⟨vsigns⟩) (V 2) (t_str ⟨vsigns⟩) (bm_plain rfl)
        · refine go_ret (P := rp (rowsRight rows)) (Ev.cast ev_bl ?_) (rt_up u hret)
          congr 1
          rw [hI, List.all_cons]
          have hg : goodRow (widthOf rows) x = false := by
            unfold goodRow
            rw [hw]
            rw [all_map, List.all_map] at h
            simp only [Bool.or_eq_true, Bool.not_eq_true', decide_eq_false_iff_not, Int.natCast_inj] at h
            rw [Bool.and_eq_false_iff, decide_eq_false_iff_not]
            exact h
          rw [hg]; rfl
        · refine go_fall (go_end () ⟨fun y hy' => hy y (by simp [hy']), ?_⟩ (Le.of (by repeat (first | exact Lsl.nil | apply Lsl.keep | apply Lsl.drop)) (by first | exact List.Sublist.refl _ | exact List.Sublist.cons _ (List.Sublist.refl _) | exact List.nil_sublist _)) Up.refl)
          have hg : goodRow (widthOf rows) x = true := by
            unfold goodRow
            rw [hw]
            rw [all_map, List.all_map] at h
            simp only [Bool.or_eq_false_iff, Bool.not_eq_false', decide_eq_true_eq, Int.natCast_inj] at h
            rw [Bool.and_eq_true, decide_eq_true_eq]
            exact h
          rw [hI, List.all_cons, hg, Bool.true_and]
      · rintro s ⟨_, hI⟩
        have hI : rowsRight rows = true := by simpa using hI
        rw [hI] at hret
        exact go_ret ev_bl (rt_of hret)
theorem c_rows_right {X : Cx} {ρ : En} {ω : Ow} {e : Expr} {es : List Expr} {p pos : Pos} {l : Nat} {rows : List Tx} (G : Cal X.prog X.w X.K X.mg X.base "rows_right" 1 (spOf pm_rows_right)) (hr : Room l X.A) (ha : EvA X ρ ω (e :: es) [rp rows]) (hk : ∀ row ∈ rows, row.cs.length ≤ 1000) (hl : 1 ≤ l := by decide) (hg : Gl X "rows_right" := by rfl)
    (he : starEach (e :: es) X.env = (false, eval e X.env) :: starEach es X.env := by exact se_cons rfl) (hpl : (backTo pos (starEach es X.env)).any (·.1) = false := by exact se_any rfl) : Ev X ρ ω (.Call (.Name "rows_right" p) (e :: es) [] pos) (rp (rowsRight rows)) :=
  ev_call G rows (hr.mono hl) hg (by decide +kernel) ha hk (fun _ _ _ q => q) he hpl
theorem putM_len {f : Str} {P : MP} : ∀ {fl : List (Str × MP)}, (putM f P fl).length ≤ fl.length + 1
  | [] => Nat.le_refl _
  | (g, Q) :: r => by
    unfold putM
    split
    · exact Nat.le_succ _
    · exact Nat.succ_le_succ putM_len
/-- what View.__init__ keeps -/
def iniView (C : Cs) : Ini (List Tx) where
  args rows := [rp rows]
  pre rows := ∀ row ∈ rows, row.cs.length ≤ 1000
  bad rows := if rowsRight rows then none else some C.BadView
  ret rows q Hb H' := ∃ l ob, Hb l = none ∧ l ≠ q ∧ H' l = some (.lst (rows.map fun t => L2.V.str (tx t.cs))) ∧ H' q = some ob ∧ ∀ H2, (insM C.View (viewF (atM l) (hOf rows) (wOf rows))).f H2 ob
theorem txs_of {H : Hp} : ∀ {vs : List L2.V} {ts : List Tx}, All2 H vs (ts.map rp) → vs = ts.map fun t => L2.V.str (tx t.cs)
  | _, [], h => by cases h; rfl
  | _, t :: ts, h => by
    cases h with
    | cons h1 h2 =>
      have h1 : _ = L2.V.str (tx t.cs) := h1
      rw [h1, txs_of h2, List.map_cons]
theorem of_txs {H : Hp} : ∀ {ts : List Tx}, All2 H (ts.map fun t => L2.V.str (tx t.cs)) (ts.map rp)
  | [] => .nil
  | t :: ts => .cons rfl of_txs
theorem insM_flat {C : Addr} {H H2 : Hp} {l : Addr} {h w : Int} {ob : HO} (f : (insM C (viewF (atM l) h w)).f H ob) : (insM C (viewF (atM l) h w)).f H2 ob := by
  obtain ⟨dx, vs, e1, e2, e3⟩ := f
  refine ⟨dx, vs, e1, e2, ?_⟩
  cases e3 with
  | cons a1 e3 =>
    cases e3 with
    | cons a2 e3 =>
      cases e3 with
      | cons a3 e3 =>
        cases e3
        exact .cons a1 (.cons a2 (.cons a3 .nil))
theorem f_View (T : Facts K mg C) : CalC P Wd K mg base "View" C.View 2 (spIni C.View (iniView C)) := by
  refine ini_go (m := iniView C) T.k_View T.m_View___init__ sc_View___init__ (fun _ => rfl) fun f cdv A outer s H Hb Q E rows q hr hp hq r1 r2 => ?_
  have hu := hr.units
  replace hp : ∀ row ∈ rows, row.cs.length ≤ 1000 := hp
  show Go _ _ _ [some (atM q), some (rp rows)] _ _ _
  refine go_if (et_not (et_val (c_rows_right (f_rows_right T) hr (eva_cons (V 1) eva_nil) hp))) (fun h => ?_) (fun h => ?_)
  · have h : rowsRight rows = false := by simpa using h
    exact go_raise (W := fun cls d _ H => E cls d H) T.e_BadView rfl fX_takes rfl (by decide) fun B1 u σ H' H0' S => r2 _ (by show (if rowsRight rows = true then _ else _) = _; rw [h]; rfl) H' S.nx.a
  · have h : rowsRight rows = true := by simpa using h
    have vw := rowsRight_iff.mp h
    obtain ⟨r0, rs, er⟩ : ∃ r0 rs, rows = r0 :: rs := by
      cases rows with
      | nil => have := vw.h1; simp at this
      | cons r0 rs => exact ⟨r0, rs, rfl⟩
    have h0 : atI rows 0 = some r0 := by subst er; exact atI_nat (j := 0) rfl
    have hw0 : r0.cs.length = widthOf rows := by subst er; rfl
    have hw6 := vw.w6
    refine go_fall (go_setfN (n := 0) 0 rfl rfl T.k_View.cl T.na_View_rows (evn_list T.bl rfl (Ev.evcl (V 1))) (by decide) rfl (.inl rfl) (by decide) (by decide) fun z => ?_)
    refine go_setf (n := 0) 1 rfl rfl T.k_View.cl T.na_View_height (ev_lenL T.bl rfl (Ev.evcl (V 1))) (Nat.lt_of_le_of_lt putM_len (by decide)) rfl (.inl rfl) (by decide) (by decide) ?_
    refine go_setf (n := 0) 1 rfl rfl T.k_View.cl T.na_View_width (t_len T.bl rfl (ev_ixL (Ev.evcl (V 1)) ev_int h0) (by omega)) (Nat.lt_of_le_of_lt putM_len (Nat.lt_of_le_of_lt (Nat.succ_le_succ putM_len) (by decide))) rfl (.inl rfl) (by decide) (by decide) ?_
    rw [hw0]
    refine go_nil fun B1 u σ H1 H01 S => r1 (by show (if rowsRight rows = true then _ else _) = _; rw [h]; rfl) H1 S.nx.a ?_
    obtain ⟨b1, b2, o1, b3, vs, b4, b5⟩ := S.ow z (lsO rows) (List.mem_of_getElem? (i := 0) rfl)
    obtain ⟨d1, d2, o2, d3, d4⟩ := S.ow q (insM C.View (viewF (atM z) (hOf rows) (wOf rows))) (List.mem_of_getElem? (i := 1) rfl)
    have hne : z ≠ q := by
      have := S.nd
      intro e
      subst e
      exact absurd this (by simp)
    subst b4
    refine ⟨z, o2, b1, hne, by rw [b3, txs_of b5], d3, fun H2 => insM_flat d4⟩
/-- View(e) -/
theorem c_ViewK {X : Cx} {ρ : En} {ω : Ow} {e : Expr} {p pos : Pos} {l : Nat} {rows : List Tx} (G : CalC X.prog X.w X.K X.mg X.base "View" C.View 2 (spIni C.View (iniView C))) (hr : Room l X.A) (ha : EvC X ρ ω e (lsO rows)) (vw : Vw rows) (hl : 3 ≤ l := by decide) (hg : Gl X "View" := by rfl)
    (he : starEach [e] X.env = (false, eval e X.env) :: starEach [] X.env := by exact se_cons rfl) (hpl : (backTo pos (starEach [] X.env)).any (·.1) = false := by exact se_any rfl) : EvK X ρ ω (.Call (.Name "View" p) [e] [] pos) (viewO ⟨C.View, rows⟩) :=
  evk_make G rows (hr.mono hl) hg (by decide +kernel) (eac_consC ha eac_nil he) (fun row h => by have := (vw.row row h).1; have := vw.w6; omega) (by show (if rowsRight rows = true then _ else _) = _; rw [rowsRight_iff.mpr vw]; rfl) (fun q Hb H' hq sH ⟨z, ob, h1, h2, h3, h4, h5⟩ => by
    refine ⟨upd (fun _ => none) z (.lst (rows.map fun t => L2.V.str (tx t.cs))), ob, fun b u e => ?_, ?_, h4, ?_, fun H2 s2 _ => ?_⟩
    · by_cases hb : b = z
      · subst hb; rw [upd_same] at e; cases e; exact ⟨h1, h3⟩
      · rw [upd_ne hb] at e; cases e
    · rw [upd_ne (Ne.symm h2)]
    · intro vs z
      obtain ⟨dx, vs2, e1, _⟩ := h5 H'
      rw [e1] at z
      cases z
    · obtain ⟨dx, vs, e1, e2, e3⟩ := h5 H2
      refine ⟨dx, vs, e1, e2, ?_⟩
      cases e3 with
      | cons a1 e3 =>
        exact .cons ⟨a1.1, z, _, a1.2, s2 _ _ upd_same, _, rfl, of_txs⟩ e3) he hpl
theorem c_View {X : Cx} {ρ : En} {ω : Ow} {e : Expr} {p pos : Pos} {l : Nat} {rows : List Tx} (G : CalC X.prog X.w X.K X.mg X.base "View" C.View 2 (spIni C.View (iniView C))) (hr : Room l X.A) (ha : EvC X ρ ω e (lsO rows)) (vw : Vw rows) (hl : 3 ≤ l := by decide) (hg : Gl X "View" := by rfl)
    (he : starEach [e] X.env = (false, eval e X.env) :: starEach [] X.env := by exact se_cons rfl) (hpl : (backTo pos (starEach [] X.env)).any (·.1) = false := by exact se_any rfl) : EvN X ρ ω (.Call (.Name "View" p) [e] [] pos) (viewO ⟨C.View, rows⟩) := (c_ViewK G hr ha vw hl hg he hpl).evn
theorem c_View_rz {X : Cx} {W : WX} {ρ : En} {ω : Ow} {e : Expr} {p pos : Pos} {l : Nat} {rows : List Tx} (G : CalC X.prog X.w X.K X.mg X.base "View" C.View 2 (spIni C.View (iniView C))) (hr : Room l X.A) (ha : EvC X ρ ω e (lsO rows)) (hlen : ∀ row ∈ rows, row.cs.length ≤ 1000) (hbad : rowsRight rows = false) (hl : 3 ≤ l := by decide) (hg : Gl X "View" := by rfl)
    (he : starEach [e] X.env = (false, eval e X.env) :: starEach [] X.env := by exact se_cons rfl) (hpl : (backTo pos (starEach [] X.env)).any (·.1) = false := by exact se_any rfl) : Rz X W ρ ω (.Call (.Name "View" p) [e] [] pos) C.BadView :=
  rz_make G rows (hr.mono hl) hg (by decide +kernel) (eac_consC ha eac_nil he) hlen (by show (if rowsRight rows = true then _ else _) = _; rw [hbad]; rfl) he hpl

end
end DF
namespace DF
open R (rp)
open Dt (toD)
open PySem L2
section
variable {P : Program} {Wd : World} {K : PySem.W.Frag} {mg : Str → Option Value} {base : Heap} {C : Cs}
/-! View_cells -/
def pm_m_cells_pre (C : Cs)(v : VW) : Prop := v.C = C.View ∧ Vw v.rows
def pm_m_cells_ret (C : Cs)(v : VW) : Hp → Hp → VK → XK → Prop := retN (lsO (allCells (hOf v.rows) (wOf v.rows)))
def pm_m_cells (C : Cs): Pm (VW) := ⟨fun i => [rp i], fun i => pm_m_cells_pre C i, fun i => pm_m_cells_ret C i⟩
theorem f_m_cells (T : Facts K mg C) : CalM P Wd K mg base C.View "cells" 2 (spOf (pm_m_cells C)) := by
  refine calM_go T.k_View T.m_View_cells sc_View_cells (fun _ => rfl) fun f cdv A outer s H H0 Q E v hr hp hret hs => ?_
  have hu := hr.units
  have hu1 : (fX P Wd K mg base N_View_cells "View.cells" s_View_cells f cdv A outer s H E).A.units + 65 < cLine := by have := hr.un; omega
  replace hp : v.C = C.View ∧ Vw v.rows := hp
  replace hret : (retN (lsO (allCells (hOf v.rows) (wOf v.rows)))) H H0 Q E := hret
  show Go _ _ _ ([some (rp v)] ++ List.replicate (N_View_cells.length - 1) none) [] _ _
  simp only [List.length_cons, List.length_nil, Nat.reduceAdd, Nat.reduceSub, List.replicate, List.cons_append, List.nil_append]
  obtain ⟨VC, rows⟩ := v
  obtain ⟨hC, vw⟩ := hp
  have hC : VC = C.View := hC
  subst hC
  exact go_retN ((c_all_cells (f_all_cells T) hr (eva_cons (ev_vh rows (V 0) T.k_View.cl T.na_View_height) (eva_cons (ev_vw rows (V 0) T.k_View.cl T.na_View_width) eva_nil)) vw.dim)) (rtN_of hret)
theorem c_m_cells {X : Cx} {ρ : En} {ω : Ow} {o : Expr} {apos pos : Pos} {l : Nat} {v : VW} (G : CalM X.prog X.w X.K X.mg X.base v.C "cells" 2 (spOf (pm_m_cells C))) (hr : Room l X.A) (ho : Ev X ρ ω o (rp v)) (hk : v.C = C.View ∧ Vw v.rows) (hl : 2 ≤ l := by decide)
    (ht : eval (.Call (.Attribute o "cells" apos) [] [] pos) X.env = (do
      let ov ← eval o X.env
      standAt apos.atName
      let (f, first) ← holding [ov] (getMethod ov "cells" (plM o X.env))
      callWith pos f first (backTo pos (starEach [] X.env)) (backToKw pos (keywordEach [] X.env))) := by exact ev_attr rfl rfl (by decide) rfl) : EvN X ρ ω (.Call (.Attribute o "cells" apos) [] [] pos) (lsO (allCells (hOf v.rows) (wOf v.rows))) :=
  evn_meth0 (fl := viewF (rp v.rows) (v.rows.length : Int) (v.w : Int)) G v (hr.mono hl) ho (vlook (by decide +kernel)) rfl hk (fun _ _ _ q => q) (ht := ht)
/-! View_beside -/
def pm_m_beside_pre (C : Cs)(v : VW) (c : Cell) : Prop := v.C = C.View ∧ Vw v.rows
def pm_m_beside_ret (C : Cs)(v : VW) (c : Cell) : Hp → Hp → VK → XK → Prop := retN (lsO (around (hOf v.rows) (wOf v.rows) c))
def pm_m_beside (C : Cs): Pm ((VW) × (Cell)) := ⟨fun i => [rp i.1, rp i.2], fun i => pm_m_beside_pre C i.1 i.2, fun i => pm_m_beside_ret C i.1 i.2⟩
theorem f_m_beside (T : Facts K mg C) : CalM P Wd K mg base C.View "beside" 3 (spOf (pm_m_beside C)) := by
  refine calM_go T.k_View T.m_View_beside sc_View_beside (fun _ => rfl) fun f cdv A outer s H H0 Q E i hr hp hret hs => ?_
  obtain ⟨v, c⟩ := i
  have hu := hr.units
  have hu1 : (fX P Wd K mg base N_View_beside "View.beside" s_View_beside f cdv A outer s H E).A.units + 65 < cLine := by have := hr.un; omega
  replace hp : v.C = C.View ∧ Vw v.rows := hp
  replace hret : (retN (lsO (around (hOf v.rows) (wOf v.rows) c))) H H0 Q E := hret
  show Go _ _ _ ([some (rp v), some (rp c)] ++ List.replicate (N_View_beside.length - 2) none) [] _ _
  simp only [List.length_cons, List.length_nil, Nat.reduceAdd, Nat.reduceSub, List.replicate, List.cons_append, List.nil_append]
  obtain ⟨VC, rows⟩ := v
  obtain ⟨hC, vw⟩ := hp
  have hC : VC = C.View := hC
  subst hC
  exact go_retN ((c_around (f_around T) hr (eva_cons (ev_vh rows (V 0) T.k_View.cl T.na_View_height) (eva_cons (ev_vw rows (V 0) T.k_View.cl T.na_View_width) (eva_cons (V 1) eva_nil))) vw.dim)) (rtN_of hret)
theorem c_m_beside {X : Cx} {ρ : En} {ω : Ow} {o : Expr} {e : Expr} {es : List Expr} {apos pos : Pos} {l : Nat} {v : VW} {c : Cell} (G : CalM X.prog X.w X.K X.mg X.base v.C "beside" 3 (spOf (pm_m_beside C))) (hr : Room l X.A) (ho : Ev X ρ ω o (rp v)) (ha : EvA X ρ ω (e :: es) [rp c]) (hk : v.C = C.View ∧ Vw v.rows) (hl : 3 ≤ l := by decide)
    (he : starEach (e :: es) X.env = (false, eval e X.env) :: starEach es X.env := by exact se_cons rfl) (hpl : (backTo pos (starEach es X.env)).any (·.1) = false := by exact se_any rfl) (ht : eval (.Call (.Attribute o "beside" apos) (e :: es) [] pos) X.env = (do
      let ov ← eval o X.env
      standAt apos.atName
      let (f, first) ← holding [ov] (getMethod ov "beside" (plM o X.env))
      callWith pos f first (backTo pos (starEach (e :: es) X.env)) (backToKw pos (keywordEach [] X.env))) := by exact ev_attr rfl rfl (by decide) rfl) : EvN X ρ ω (.Call (.Attribute o "beside" apos) (e :: es) [] pos) (lsO (around (hOf v.rows) (wOf v.rows) c)) :=
  evn_meth (fl := viewF (rp v.rows) (v.rows.length : Int) (v.w : Int)) G (v, c) (hr.mono hl) ho (vlook (by decide +kernel)) ha rfl hk (fun _ _ _ q => q) (hst := he) (hpl := hpl) (ht := ht)
/-! View_hidden -/
def pm_m_hidden_pre (C : Cs)(v : VW) (c : Cell) : Prop := v.C = C.View ∧ Vw v.rows ∧ inF (hOf v.rows) (wOf v.rows) c = true
def pm_m_hidden_ret (C : Cs)(v : VW) (c : Cell) : Hp → Hp → VK → XK → Prop := retV (rp (hid v.rows c))
def pm_m_hidden (C : Cs): Pm ((VW) × (Cell)) := ⟨fun i => [rp i.1, rp i.2], fun i => pm_m_hidden_pre C i.1 i.2, fun i => pm_m_hidden_ret C i.1 i.2⟩
theorem f_m_hidden (T : Facts K mg C) : CalM P Wd K mg base C.View "hidden" 1 (spOf (pm_m_hidden C)) := by
  refine calM_go T.k_View T.m_View_hidden sc_View_hidden (fun _ => rfl) fun f cdv A outer s H H0 Q E i hr hp hret hs => ?_
  obtain ⟨v, c⟩ := i
  have hu := hr.units
  have hu1 : (fX P Wd K mg base N_View_hidden "View.hidden" s_View_hidden f cdv A outer s H E).A.units + 65 < cLine := by have := hr.un; omega
  replace hp : v.C = C.View ∧ Vw v.rows ∧ inF (hOf v.rows) (wOf v.rows) c = true := hp
  replace hret : (retV (rp (hid v.rows c))) H H0 Q E := hret
  show Go _ _ _ ([some (rp v), some (rp c)] ++ List.replicate (N_View_hidden.length - 2) none) [] _ _
  simp only [List.length_cons, List.length_nil, Nat.reduceAdd, Nat.reduceSub, List.replicate, List.cons_append, List.nil_append]
  obtain ⟨VC, rows⟩ := v
  obtain ⟨hC, vw, hin⟩ := hp
  have hC : VC = C.View := hC
  subst hC
  replace vw : Vw rows := vw
  have hin := inF_iff.mp hin
  simp only [hOf, wOf] at hin
  have hrow : rows[c.1.toNat]? = some (rows.getD c.1.toNat ⟨[]⟩) := by
    rw [List.getD_eq_getElem?_getD, List.getElem?_eq_getElem (show c.1.toNat < rows.length by omega)]; rfl
  have hrl := (vw.row _ (List.mem_of_getElem? hrow)).1
  have hw6 := vw.w6
  refine go_ret (Ev.cast (t_eq (t_ix (k := sgn rows c) (ev_ixL (Ev.evcl (ev_vr rows (V 0) T.k_View.cl T.na_View_rows)) (ev_fst (V 1)) (atI_getD ⟨[]⟩ hin.1.1 hin.1.2)) (ev_snd (V 1)) (by omega) (atI_getD 0 hin.2.1 (by omega))) (t_str ⟨[35]⟩)) ?_) (rt_of hret)
  unfold hid
  simp
theorem c_m_hidden {X : Cx} {ρ : En} {ω : Ow} {o : Expr} {e : Expr} {es : List Expr} {apos pos : Pos} {l : Nat} {v : VW} {c : Cell} (G : CalM X.prog X.w X.K X.mg X.base v.C "hidden" 1 (spOf (pm_m_hidden C))) (hr : Room l X.A) (ho : Ev X ρ ω o (rp v)) (ha : EvA X ρ ω (e :: es) [rp c]) (hk : v.C = C.View ∧ Vw v.rows ∧ inF (hOf v.rows) (wOf v.rows) c = true) (hl : 1 ≤ l := by decide)
    (he : starEach (e :: es) X.env = (false, eval e X.env) :: starEach es X.env := by exact se_cons rfl) (hpl : (backTo pos (starEach es X.env)).any (·.1) = false := by exact se_any rfl) (ht : eval (.Call (.Attribute o "hidden" apos) (e :: es) [] pos) X.env = (do
      let ov ← eval o X.env
      standAt apos.atName
      let (f, first) ← holding [ov] (getMethod ov "hidden" (plM o X.env))
      callWith pos f first (backTo pos (starEach (e :: es) X.env)) (backToKw pos (keywordEach [] X.env))) := by exact ev_attr rfl rfl (by decide) rfl) : Ev X ρ ω (.Call (.Attribute o "hidden" apos) (e :: es) [] pos) (rp (hid v.rows c)) :=
  ev_meth (fl := viewF (rp v.rows) (v.rows.length : Int) (v.w : Int)) G (v, c) (hr.mono hl) ho (vlook (by decide +kernel)) ha rfl hk (fun _ _ _ q => q) (hst := he) (hpl := hpl) (ht := ht)
/-! closed -/
def pm_closed_pre (C : Cs)(v : VW) : Prop := v.C = C.View ∧ Vw v.rows
def pm_closed_ret (C : Cs)(v : VW) : Hp → Hp → VK → XK → Prop := retN (lsO (closedOf v.rows))
def pm_closed (C : Cs): Pm (VW) := ⟨fun i => [rp i], fun i => pm_closed_pre C i, fun i => pm_closed_ret C i⟩
theorem f_closed (T : Facts K mg C) : Cal P Wd K mg base "closed" 3 (spOf (pm_closed C)) := by
  refine cal_go T.d_closed sc_closed (fun _ => rfl) fun f cdv A outer s H H0 Q E v hr hp hret hs => ?_
  have hu := hr.units
  have hu1 : (fX P Wd K mg base N_closed "closed" s_closed f cdv A outer s H E).A.units + 65 < cLine := by have := hr.un; omega
  replace hp : v.C = C.View ∧ Vw v.rows := hp
  replace hret : (retN (lsO (closedOf v.rows))) H H0 Q E := hret
  show Go _ _ _ ([some (rp v)] ++ List.replicate (N_closed.length - 1) none) [] _ _
  simp only [List.length_cons, List.length_nil, Nat.reduceAdd, Nat.reduceSub, List.replicate, List.cons_append, List.nil_append]
  obtain ⟨VC, rows⟩ := v
  obtain ⟨hC, vw⟩ := hp
  have hC : VC = C.View := hC
  subst hC
  replace vw : Vw rows := vw
  refine go_retN (EvN.cast (evn_lcL1 (own := [("cell", 1)]) (f := fun x => x) (keep := hid rows) rfl sc_closed.nd (it_listC (EvN.evc ((c_m_cells (v := ⟨C.View, rows⟩) (f_m_cells T) hr (V 0) ⟨rfl, vw⟩)))) ?_ (blkOk_by (by rfl)) (fun _ _ _ _ _ => PN sc_closed.nd 1) (fun _ => gj_name (by decide)) (fun _ _ _ _ _ x hx => (et_val (c_m_hidden (v := ⟨C.View, rows⟩) (f_m_hidden T) hr (V 0) (eva_cons (V 1) eva_nil) ⟨rfl, vw, (inF_cells vw.dim).mpr hx⟩))) (fun _ _ _ _ _ x hx _ => (V 1))) ?_) (rtN_of hret)
  · exact Nat.lt_of_le_of_lt (allCells_len vw.dim) (by decide)
  · rw [List.map_id']; rfl
theorem c_closed {X : Cx} {ρ : En} {ω : Ow} {e : Expr} {es : List Expr} {p pos : Pos} {l : Nat} {v : VW} (G : Cal X.prog X.w X.K X.mg X.base "closed" 3 (spOf (pm_closed C))) (hr : Room l X.A) (ha : EvA X ρ ω (e :: es) [rp v]) (hk : v.C = C.View ∧ Vw v.rows) (hl : 3 ≤ l := by decide) (hg : Gl X "closed" := by rfl)
    (he : starEach (e :: es) X.env = (false, eval e X.env) :: starEach es X.env := by exact se_cons rfl) (hpl : (backTo pos (starEach es X.env)).any (·.1) = false := by exact se_any rfl) : EvN X ρ ω (.Call (.Name "closed" p) (e :: es) [] pos) (lsO (closedOf v.rows)) :=
  evn_call G v (hr.mono hl) hg (by decide +kernel) ha hk (fun _ _ _ q => q) he hpl
/-! is_edge -/
def pm_is_edge_pre (C : Cs)(v : VW) (c : Cell) : Prop := v.C = C.View ∧ Vw v.rows
def pm_is_edge_ret (C : Cs)(v : VW) (c : Cell) : Hp → Hp → VK → XK → Prop := retV (rp (isEdge v.rows c))
def pm_is_edge (C : Cs): Pm ((VW) × (Cell)) := ⟨fun i => [rp i.1, rp i.2], fun i => pm_is_edge_pre C i.1 i.2, fun i => pm_is_edge_ret C i.1 i.2⟩
theorem f_is_edge (T : Facts K mg C) : Cal P Wd K mg base "is_edge" 4 (spOf (pm_is_edge C)) := by
  refine cal_go T.d_is_edge sc_is_edge (fun _ => rfl) fun f cdv A outer s H H0 Q E i hr hp hret hs => ?_
  obtain ⟨v, c⟩ := i
  have hu := hr.units
  have hu1 : (fX P Wd K mg base N_is_edge "is_edge" s_is_edge f cdv A outer s H E).A.units + 65 < cLine := by have := hr.un; omega
  replace hp : v.C = C.View ∧ Vw v.rows := hp
  replace hret : (retV (rp (isEdge v.rows c))) H H0 Q E := hret
  show Go _ _ _ ([some (rp v), some (rp c)] ++ List.replicate (N_is_edge.length - 2) none) [] _ _
  simp only [List.length_cons, List.length_nil, Nat.reduceAdd, Nat.reduceSub, List.replicate, List.cons_append, List.nil_append]
  obtain ⟨VC, rows⟩ := v
  obtain ⟨hC, vw⟩ := hp
  have hC : VC = C.View := hC
  subst hC
  replace vw : Vw rows := vw
  refine go_ret (Ev.cast (ev_not (ev_all T.bl rfl rfl (EvN.evc (evn_lcL0 (own := [("other", 2)]) (f := hid rows) rfl sc_is_edge.nd (it_listC (EvN.evc ((c_m_beside (v := ⟨C.View, rows⟩) (f_m_beside T) hr (V 0) (eva_cons (V 1) eva_nil) ⟨rfl, vw⟩)))) ?_ (blkOk_by (by rfl)) (fun _ _ _ _ _ => PN sc_is_edge.nd 2) (fun _ => gj_name (by decide)) (fun _ _ _ _ _ x hx => (c_m_hidden (v := ⟨C.View, rows⟩) (f_m_hidden T) hr (V 0) (eva_cons (V 2) eva_nil) ⟨rfl, vw, (inF_cells vw.dim).mpr (List.mem_filter.mp hx).1⟩)))))) ?_) (rt_of hret)
  · exact Nat.lt_of_le_of_lt (around_len vw.dim c) (by decide)
  · rw [all_map]; rfl
theorem c_is_edge {X : Cx} {ρ : En} {ω : Ow} {e : Expr} {es : List Expr} {p pos : Pos} {l : Nat} {v : VW} {c : Cell} (G : Cal X.prog X.w X.K X.mg X.base "is_edge" 4 (spOf (pm_is_edge C))) (hr : Room l X.A) (ha : EvA X ρ ω (e :: es) [rp v, rp c]) (hk : v.C = C.View ∧ Vw v.rows) (hl : 4 ≤ l := by decide) (hg : Gl X "is_edge" := by rfl)
    (he : starEach (e :: es) X.env = (false, eval e X.env) :: starEach es X.env := by exact se_cons rfl) (hpl : (backTo pos (starEach es X.env)).any (·.1) = false := by exact se_any rfl) : Ev X ρ ω (.Call (.Name "is_edge" p) (e :: es) [] pos) (rp (isEdge v.rows c)) :=
  ev_call G (v, c) (hr.mono hl) hg (by decide +kernel) ha hk (fun _ _ _ q => q) he hpl
/-! edge -/
def pm_edge_pre (C : Cs)(v : VW) : Prop := v.C = C.View ∧ Vw v.rows
def pm_edge_ret (C : Cs)(v : VW) : Hp → Hp → VK → XK → Prop := retN (lsO (edgeOf v.rows))
def pm_edge (C : Cs): Pm (VW) := ⟨fun i => [rp i], fun i => pm_edge_pre C i, fun i => pm_edge_ret C i⟩
theorem f_edge (T : Facts K mg C) : Cal P Wd K mg base "edge" 5 (spOf (pm_edge C)) := by
  refine cal_go T.d_edge sc_edge (fun _ => rfl) fun f cdv A outer s H H0 Q E v hr hp hret hs => ?_
  have hu := hr.units
  have hu1 : (fX P Wd K mg base N_edge "edge" s_edge f cdv A outer s H E).A.units + 65 < cLine := by have := hr.un; omega
  replace hp : v.C = C.View ∧ Vw v.rows := hp
  replace hret : (retN (lsO (edgeOf v.rows))) H H0 Q E := hret
  show Go _ _ _ ([some (rp v)] ++ List.replicate (N_edge.length - 1) none) [] _ _
  simp only [List.length_cons, List.length_nil, Nat.reduceAdd, Nat.reduceSub, List.replicate, List.cons_append, List.nil_append]
  obtain ⟨VC, rows⟩ := v
  obtain ⟨hC, vw⟩ := hp
  have hC : VC = C.View := hC
  subst hC
  replace vw : Vw rows := vw
  refine go_retN (EvN.cast (evn_lcL1 (own := [("cell", 1)]) (f := fun x => x) (keep := isEdge rows) rfl sc_edge.nd (it_listC (EvN.evc ((c_closed (v := ⟨C.View, rows⟩) (f_closed T) hr (eva_cons (V 0) eva_nil) ⟨rfl, vw⟩)))) ?_ (blkOk_by (by rfl)) (fun _ _ _ _ _ => PN sc_edge.nd 1) (fun _ => gj_name (by decide)) (fun _ _ _ _ _ x hx => (et_val (c_is_edge (v := ⟨C.View, rows⟩) (f_is_edge T) hr (eva_cons (V 0) (eva_cons (V 1) eva_nil)) ⟨rfl, vw⟩))) (fun _ _ _ _ _ x hx _ => (V 1))) ?_) (rtN_of hret)
  · exact Nat.lt_of_le_of_lt (closed_len vw) (by decide)
  · rw [List.map_id']; rfl
theorem c_edge {X : Cx} {ρ : En} {ω : Ow} {e : Expr} {es : List Expr} {p pos : Pos} {l : Nat} {v : VW} (G : Cal X.prog X.w X.K X.mg X.base "edge" 5 (spOf (pm_edge C))) (hr : Room l X.A) (ha : EvA X ρ ω (e :: es) [rp v]) (hk : v.C = C.View ∧ Vw v.rows) (hl : 5 ≤ l := by decide) (hg : Gl X "edge" := by rfl)
    (he : starEach (e :: es) X.env = (false, eval e X.env) :: starEach es X.env := by exact se_cons rfl) (hpl : (backTo pos (starEach es X.env)).any (·.1) = false := by exact se_any rfl) : EvN X ρ ω (.Call (.Name "edge" p) (e :: es) [] pos) (lsO (edgeOf v.rows)) :=
  evn_call G v (hr.mono hl) hg (by decide +kernel) ha hk (fun _ _ _ q => q) he hpl
/-! far -/
def pm_far_pre (C : Cs)(v : VW) : Prop := v.C = C.View ∧ Vw v.rows
def pm_far_ret (C : Cs)(v : VW) : Hp → Hp → VK → XK → Prop := retN (lsO (farOf v.rows))
def pm_far (C : Cs): Pm (VW) := ⟨fun i => [rp i], fun i => pm_far_pre C i, fun i => pm_far_ret C i⟩
theorem f_far (T : Facts K mg C) : Cal P Wd K mg base "far" 5 (spOf (pm_far C)) := by
  refine cal_go T.d_far sc_far (fun _ => rfl) fun f cdv A outer s H H0 Q E v hr hp hret hs => ?_
  have hu := hr.units
  have hu1 : (fX P Wd K mg base N_far "far" s_far f cdv A outer s H E).A.units + 65 < cLine := by have := hr.un; omega
  replace hp : v.C = C.View ∧ Vw v.rows := hp
  replace hret : (retN (lsO (farOf v.rows))) H H0 Q E := hret
  show Go _ _ _ ([some (rp v)] ++ List.replicate (N_far.length - 1) none) [] _ _
  simp only [List.length_cons, List.length_nil, Nat.reduceAdd, Nat.reduceSub, List.replicate, List.cons_append, List.nil_append]
  obtain ⟨VC, rows⟩ := v
  obtain ⟨hC, vw⟩ := hp
  have hC : VC = C.View := hC
  subst hC
  replace vw : Vw rows := vw
  refine go_retN (EvN.cast (evn_lcL1 (own := [("cell", 1)]) (f := fun x => x) (keep := fun x => !isEdge rows x) rfl sc_far.nd (it_listC (EvN.evc ((c_closed (v := ⟨C.View, rows⟩) (f_closed T) hr (eva_cons (V 0) eva_nil) ⟨rfl, vw⟩)))) ?_ (blkOk_by (by rfl)) (fun _ _ _ _ _ => PN sc_far.nd 1) (fun _ => gj_name (by decide)) (fun _ _ _ _ _ x hx => (et_not (et_val (c_is_edge (v := ⟨C.View, rows⟩) (f_is_edge T) hr (eva_cons (V 0) (eva_cons (V 1) eva_nil)) ⟨rfl, vw⟩)))) (fun _ _ _ _ _ x hx _ => (V 1))) ?_) (rtN_of hret)
  · exact Nat.lt_of_le_of_lt (closed_len vw) (by decide)
  · rw [List.map_id']; rfl
theorem c_far {X : Cx} {ρ : En} {ω : Ow} {e : Expr} {es : List Expr} {p pos : Pos} {l : Nat} {v : VW} (G : Cal X.prog X.w X.K X.mg X.base "far" 5 (spOf (pm_far C))) (hr : Room l X.A) (ha : EvA X ρ ω (e :: es) [rp v]) (hk : v.C = C.View ∧ Vw v.rows) (hl : 5 ≤ l := by decide) (hg : Gl X "far" := by rfl)
    (he : starEach (e :: es) X.env = (false, eval e X.env) :: starEach es X.env := by exact se_cons rfl) (hpl : (backTo pos (starEach es X.env)).any (·.1) = false := by exact se_any rfl) : EvN X ρ ω (.Call (.Name "far" p) (e :: es) [] pos) (lsO (farOf v.rows)) :=
  evn_call G v (hr.mono hl) hg (by decide +kernel) ha hk (fun _ _ _ q => q) he hpl

end
end DF
namespace DF
open R (rp)
open Dt (toD)
open PySem L2
section
variable {P : Program} {Wd : World} {K : PySem.W.Frag} {mg : Str → Option Value} {base : Heap} {C : Cs}

end
end DF
namespace DF
open R (rp)
open Dt (toD)
open PySem L2
section
variable {P : Program} {Wd : World} {K : PySem.W.Frag} {mg : Str → Option Value} {base : Heap} {C : Cs}
/-! rising -/
def pm_rising_pre (xs : List Cell) : Prop := xs.length ≤ 1000
def pm_rising_ret (xs : List Cell) : Hp → Hp → VK → XK → Prop := retV (rp (risingB xs))
def pm_rising : Pm (List Cell) := ⟨fun i => [rp i], fun i => pm_rising_pre i, fun i => pm_rising_ret i⟩
theorem f_rising (T : Facts K mg C) : Cal P Wd K mg base "rising" 1 (spOf pm_rising) := by
  refine cal_go T.d_rising sc_rising (fun _ => rfl) fun f cdv A outer s H H0 Q E xs hr hp hret hs => ?_
  have hu := hr.units
  have hu1 : (fX P Wd K mg base N_rising "rising" s_rising f cdv A outer s H E).A.units + 65 < cLine := by have := hr.un; omega
  replace hp : xs.length ≤ 1000 := hp
  replace hret : (retV (rp (risingB xs))) H H0 Q E := hret
  show Go _ _ _ ([some (rp xs)] ++ List.replicate (N_rising.length - 1) none) [] _ _
  simp only [List.length_cons, List.length_nil, Nat.reduceAdd, Nat.reduceSub, List.replicate, List.cons_append, List.nil_append]
  refine go_ret (Ev.cast (ev_all T.bl rfl rfl (EvN.evc (evn_lcL0 (own := [("k", 1)]) (f := fun k => clt (xs.getD (k - 1).toNat (0, 0)) (xs.getD k.toNat (0, 0))) rfl sc_rising.nd (Itr.toC (it_range2 T.bl rfl ev_int (ev_lenL T.bl rfl (Ev.evcl (V 0))) (by decide) (by omega))) ?_ (blkOk_by (by rfl)) (fun _ _ _ _ _ => PN sc_rising.nd 1) (fun _ => gj_name (by decide)) (fun _ _ _ _ _ x hx => (ev_ltC hu (ev_ixL (Ev.evcl (V 0)) (ev_sub (V 1) ev_int) (atI_getD (0, 0) ?_ ?_)) (ev_ixL (Ev.evcl (V 0)) (V 1) (atI_getD (0, 0) ?_ ?_))))))) ?_) (rt_of hret)
  · rw [irange_len]; omega
  · have := mem_irange.mp hx; omega
  · have := mem_irange.mp hx; omega
  · have := mem_irange.mp hx; omega
  · have := mem_irange.mp hx; omega
  · rw [all_map]; unfold risingB; rw [show ((xs.length : Int) - 1).toNat = xs.length - 1 by omega]
theorem c_rising {X : Cx} {ρ : En} {ω : Ow} {e : Expr} {es : List Expr} {p pos : Pos} {l : Nat} {xs : List Cell} (G : Cal X.prog X.w X.K X.mg X.base "rising" 1 (spOf pm_rising)) (hr : Room l X.A) (ha : EvA X ρ ω (e :: es) [rp xs]) (hk : xs.length ≤ 1000) (hl : 1 ≤ l := by decide) (hg : Gl X "rising" := by rfl)
    (he : starEach (e :: es) X.env = (false, eval e X.env) :: starEach es X.env := by exact se_cons rfl) (hpl : (backTo pos (starEach es X.env)).any (·.1) = false := by exact se_any rfl) : Ev X ρ ω (.Call (.Name "rising" p) (e :: es) [] pos) (rp (risingB xs)) :=
  ev_call G xs (hr.mono hl) hg (by decide +kernel) ha hk (fun _ _ _ q => q) he hpl
/-! View_figure -/
def pm_m_figure_pre (C : Cs)(v : VW) (c : Cell) : Prop := v.C = C.View ∧ Vw v.rows ∧ inF (hOf v.rows) (wOf v.rows) c = true ∧ hid v.rows c = false
def pm_m_figure_ret (C : Cs)(v : VW) (c : Cell) : Hp → Hp → VK → XK → Prop := retV (rp (figN v.rows c : Int))
def pm_m_figure (C : Cs): Pm ((VW) × (Cell)) := ⟨fun i => [rp i.1, rp i.2], fun i => pm_m_figure_pre C i.1 i.2, fun i => pm_m_figure_ret C i.1 i.2⟩
theorem f_m_figure (T : Facts K mg C) : CalM P Wd K mg base C.View "figure" 1 (spOf (pm_m_figure C)) := by
  refine calM_go T.k_View T.m_View_figure sc_View_figure (fun _ => rfl) fun f cdv A outer s H H0 Q E i hr hp hret hs => ?_
  obtain ⟨v, c⟩ := i
  have hu := hr.units
  have hu1 : (fX P Wd K mg base N_View_figure "View.figure" s_View_figure f cdv A outer s H E).A.units + 65 < cLine := by have := hr.un; omega
  replace hp : v.C = C.View ∧ Vw v.rows ∧ inF (hOf v.rows) (wOf v.rows) c = true ∧ hid v.rows c = false := hp
  replace hret : (retV (rp (figN v.rows c : Int))) H H0 Q E := hret
  show Go _ _ _ ([some (rp v), some (rp c)] ++ List.replicate (N_View_figure.length - 2) none) [] _ _
  simp only [List.length_cons, List.length_nil, Nat.reduceAdd, Nat.reduceSub, List.replicate, List.cons_append, List.nil_append]
  obtain ⟨VC, rows⟩ := v
  obtain ⟨hC, vw, hin0, hh⟩ := hp
  have hC : VC = C.View := hC
  subst hC
  replace vw : Vw rows := vw
  obtain ⟨hs1, hs2⟩ := open_fig vw hin0 hh
  have hin := inF_iff.mp hin0
  simp only [hOf, wOf] at hin
  have hrow : rows[c.1.toNat]? = some (rows.getD c.1.toNat ⟨[]⟩) := by
    rw [List.getD_eq_getElem?_getD, List.getElem?_eq_getElem (show c.1.toNat < rows.length by omega)]; rfl
  have hrl := (vw.row _ (List.mem_of_getElem? hrow)).1
  have hw6 := vw.w6
  refine go_ret (t_index (z := figs) (n := sgn rows c) (t_str figs) (t_ix (k := sgn rows c) (ev_ixL (Ev.evcl (ev_vr rows (V 0) T.k_View.cl T.na_View_rows)) (ev_fst (V 1)) (atI_getD ⟨[]⟩ hin.1.1 hin.1.2)) (ev_snd (V 1)) (by omega) (atI_getD 0 hin.2.1 (by omega))) ?_) (rt_of hret)
  rw [hs1]
  exact occ_figs hs2
theorem c_m_figure {X : Cx} {ρ : En} {ω : Ow} {o : Expr} {e : Expr} {es : List Expr} {apos pos : Pos} {l : Nat} {v : VW} {c : Cell} (G : CalM X.prog X.w X.K X.mg X.base v.C "figure" 1 (spOf (pm_m_figure C))) (hr : Room l X.A) (ho : Ev X ρ ω o (rp v)) (ha : EvA X ρ ω (e :: es) [rp c]) (hk : v.C = C.View ∧ Vw v.rows ∧ inF (hOf v.rows) (wOf v.rows) c = true ∧ hid v.rows c = false) (hl : 1 ≤ l := by decide)
    (he : starEach (e :: es) X.env = (false, eval e X.env) :: starEach es X.env := by exact se_cons rfl) (hpl : (backTo pos (starEach es X.env)).any (·.1) = false := by exact se_any rfl) (ht : eval (.Call (.Attribute o "figure" apos) (e :: es) [] pos) X.env = (do
      let ov ← eval o X.env
      standAt apos.atName
      let (f, first) ← holding [ov] (getMethod ov "figure" (plM o X.env))
      callWith pos f first (backTo pos (starEach (e :: es) X.env)) (backToKw pos (keywordEach [] X.env))) := by exact ev_attr rfl rfl (by decide) rfl) : Ev X ρ ω (.Call (.Attribute o "figure" apos) (e :: es) [] pos) (rp (figN v.rows c : Int)) :=
  ev_meth (fl := viewF (rp v.rows) (v.rows.length : Int) (v.w : Int)) G (v, c) (hr.mono hl) ho (vlook (by decide +kernel)) ha rfl hk (fun _ _ _ q => q) (hst := he) (hpl := hpl) (ht := ht)
/-! keeps -/
def pm_keeps_pre (C : Cs)(v : VW) (L : List Cell) : Prop := v.C = C.View ∧ Vw v.rows ∧ L.length ≤ 1000
def pm_keeps_ret (C : Cs)(v : VW) (L : List Cell) : Hp → Hp → VK → XK → Prop := (if isLay v.rows L then retV (rp (keepsB v.rows L)) else retX C.BadLaying)
def pm_keeps (C : Cs): Pm ((VW) × (List Cell)) := ⟨fun i => [rp i.1, rp i.2], fun i => pm_keeps_pre C i.1 i.2, fun i => pm_keeps_ret C i.1 i.2⟩
theorem f_keeps (T : Facts K mg C) : Cal P Wd K mg base "keeps" 4 (spOf (pm_keeps C)) := by
  refine cal_go T.d_keeps sc_keeps (fun _ => rfl) fun f cdv A outer s H H0 Q E i hr hp hret hs => ?_
  obtain ⟨v, L⟩ := i
  have hu := hr.units
  have hu1 : (fX P Wd K mg base N_keeps "keeps" s_keeps f cdv A outer s H E).A.units + 65 < cLine := by have := hr.un; omega
  replace hp : v.C = C.View ∧ Vw v.rows ∧ L.length ≤ 1000 := hp
  replace hret : ((if isLay v.rows L then retV (rp (keepsB v.rows L)) else retX C.BadLaying)) H H0 Q E := hret
  show Go _ _ _ ([some (rp v), some (rp L)] ++ List.replicate (N_keeps.length - 2) none) [] _ _
  simp only [List.length_cons, List.length_nil, Nat.reduceAdd, Nat.reduceSub, List.replicate, List.cons_append, List.nil_append]
  obtain ⟨VC, rows⟩ := v
  obtain ⟨hC, vw, hL⟩ := hp
  have hC : VC = C.View := hC
  subst hC
  replace vw : Vw rows := vw
  replace hret : (if isLay rows L = true then retV (rp (keepsB rows L)) else retX C.BadLaying) H H0 Q E := hret
  refine G_asg sc_keeps.nd 2 (P := rp (closedOf rows)) (EvN.evl ((c_closed (v := ⟨C.View, rows⟩) (f_closed T) hr (eva_cons (V 0) eva_nil) ⟨rfl, vw⟩))) ?_
  refine go_if (et_w (ew_or (et_not (et_val (c_rising (f_rising T) hr (eva_cons (V 1) eva_nil) hL))) fun _ => (ew_or1 (et_not (et_val (ev_all T.bl rfl rfl (EvN.evc (evn_lcL0 (own := [("cell", 3)]) (f := fun x => decide (x ∈ closedOf rows)) rfl sc_keeps.nd (it_listC (Ev.evcl (V 1))) ?_ (blkOk_by (by rfl)) (fun _ _ _ _ _ => PN sc_keeps.nd 3) (fun _ => gj_name (by decide)) (fun _ _ _ _ _ x hx => (ev_in (α := Cell) (Ev.evd (V 3)) (Ev.evd (V 2)) hu1 ⟨trivial, trivial⟩ (fun _ _ => ⟨trivial, trivial⟩) (by decide) (bm_plain rfl))))))))))) (fun h => ?_) (fun h => ?_)
  · exact Nat.lt_of_le_of_lt hL (by decide)
  · rw [all_map, ← Bool.not_and] at h
    have hn : ¬ isLay rows L = true := by unfold isLay; intro z; rw [z] at h; cases h
    rw [if_neg hn] at hret
    exact go_raise (W := fun cls d _ H => E cls d H) T.e_BadLaying rfl fX_takes rfl (by decide) fun B1 u σ H' H0' S => hret H' S.nx.a
  · rw [all_map, ← Bool.not_and] at h
    have hy : isLay rows L = true := by
      unfold isLay
      simpa using h
    rw [if_pos hy] at hret
    refine go_fall (go_for (S := Unit) (fun s => [some (rp (⟨C.View, rows⟩ : VW)), some (rp L), some (rp (closedOf rows)), none, none]) (fun s => []) (fun (ys : List Cell) s => (∀ y ∈ ys, y ∈ allCells (hOf rows) (wOf rows)) ∧ keepsB rows L = ys.all (fitB rows L)) (fun x s => _) fX_passes rfl (it_listL (EvN.evl ((c_m_cells (v := ⟨C.View, rows⟩) (f_m_cells T) hr (V 0) ⟨rfl, vw⟩)))) (PN sc_keeps.nd 3) (fun _ _ => gj_name (vs := [3]) (by decide)) () ⟨fun y hy => hy, rfl⟩ (Le.of (by repeat (first | exact Lsl.nil | apply Lsl.keep | apply Lsl.drop)) (by first | exact List.Sublist.refl _ | exact List.Sublist.cons _ (List.Sublist.refl _) | exact List.nil_sublist _)) ?_ ?_)
    · rintro B1 u x ys s ⟨hy, hI⟩
      have hx := (inF_cells vw.dim).mpr (hy x (by simp))
      refine go_if (et_ni (α := Cell) (Ev.evd (V 3)) (Ev.evd (V 2)) hu1 ⟨trivial, trivial⟩ (fun _ _ => ⟨trivial, trivial⟩) (by decide) (bm_plain rfl)) (fun h => ?_) (fun h => ?_)
      · have hnc : ¬ x ∈ closedOf rows := by simpa using h
        have hh : hid rows x = false := by
          cases hh : hid rows x with
          | false => rfl
          | true => exact absurd ((mem_closed vw).mpr ⟨hx, hh⟩) hnc
        refine go_if (EvT.cast (et_neI (ev_lenL T.bl rfl (EvN.evc (evn_lcL1 (own := [("other", 4)]) (f := fun x => x) (keep := fun y => decide (y ∈ L)) rfl sc_keeps.nd (it_listC (EvN.evc ((c_m_beside (v := ⟨C.View, rows⟩) (f_m_beside T) hr (V 0) (eva_cons (V 3) eva_nil) ⟨rfl, vw⟩)))) ?_ (blkOk_by (by rfl)) (fun _ _ _ _ _ => PN sc_keeps.nd 4) (fun _ => gj_name (by decide)) (fun _ _ _ _ _ x hx => (et_in (α := Cell) (Ev.evd (V 4)) (Ev.evd (V 1)) hu1 ⟨trivial, trivial⟩ (fun _ _ => ⟨trivial, trivial⟩) (by decide) (bm_plain rfl))) (fun _ _ _ _ _ x hx _ => (V 4))))) (c_m_figure (v := ⟨C.View, rows⟩) (f_m_figure T) hr (V 0) (eva_cons (V 3) eva_nil) ⟨rfl, vw, hx, hh⟩)) (c := !decide (nearIn rows L x = figN rows x)) ?_) (fun h2 => ?_) (fun h2 => ?_)
        · exact Nat.lt_of_le_of_lt (around_len vw.dim x) (by decide)
        · rw [List.map_id']
          congr 1
          rw [Bool.eq_iff_iff, decide_eq_true_iff, decide_eq_true_iff]
          exact Int.natCast_inj
        · have hf : fitB rows L x = false := by
            unfold fitB
            rw [decide_eq_false hnc]
            simpa using h2
          rw [List.all_cons, hf, Bool.false_and] at hI
          rw [hI] at hret
          exact go_ret ev_bl (rt_up u hret)
        · have hf : fitB rows L x = true := by
            unfold fitB
            rw [decide_eq_false hnc]
            simpa using h2
          rw [List.all_cons, hf, Bool.true_and] at hI
          exact go_fall (go_fall (go_end () ⟨fun y hy' => hy y (by simp [hy']), hI⟩ (Le.of (by repeat (first | exact Lsl.nil | apply Lsl.keep | apply Lsl.drop)) (by first | exact List.Sublist.refl _ | exact List.Sublist.cons _ (List.Sublist.refl _) | exact List.nil_sublist _)) Up.refl))
      · have hc : x ∈ closedOf rows := by simpa using h
        have hf : fitB rows L x = true := by unfold fitB; rw [decide_eq_true hc]; rfl
        rw [List.all_cons, hf, Bool.true_and] at hI
        exact go_fall (go_end () ⟨fun y hy' => hy y (by simp [hy']), hI⟩ (Le.of (by repeat (first | exact Lsl.nil | apply Lsl.keep | apply Lsl.drop)) (by first | exact List.Sublist.refl _ | exact List.Sublist.cons _ (List.Sublist.refl _) | exact List.nil_sublist _)) Up.refl)
    · rintro s ⟨_, hI⟩
      have hI : keepsB rows L = true := by simpa using hI
      rw [hI] at hret
      exact go_ret ev_bl (rt_of hret)

end
end DF
namespace DF
open R (rp)
open Dt (toD)
open PySem L2
section
variable {P : Program} {Wd : World} {K : PySem.W.Frag} {mg : Str → Option Value} {base : Heap} {C : Cs}
/-! open_near -/
def pm_open_near_pre (C : Cs)(v : VW) (cells : List Cell) : Prop := v.C = C.View ∧ Vw v.rows ∧ cells.length ≤ 1000
def pm_open_near_ret (C : Cs)(v : VW) (cells : List Cell) : Hp → Hp → VK → XK → Prop := retN (lsO (openN v.rows cells))
def pm_open_near (C : Cs): Pm ((VW) × (List Cell)) := ⟨fun i => [rp i.1, rp i.2], fun i => pm_open_near_pre C i.1 i.2, fun i => pm_open_near_ret C i.1 i.2⟩
theorem f_open_near (T : Facts K mg C) : Cal P Wd K mg base "open_near" 4 (spOf (pm_open_near C)) := by
  refine cal_go T.d_open_near sc_open_near (fun _ => rfl) fun f cdv A outer s H H0 Q E i hr hp hret hs => ?_
  obtain ⟨v, cells⟩ := i
  have hu := hr.units
  have hu1 : (fX P Wd K mg base N_open_near "open_near" s_open_near f cdv A outer s H E).A.units + 65 < cLine := by have := hr.un; omega
  replace hp : v.C = C.View ∧ Vw v.rows ∧ cells.length ≤ 1000 := hp
  replace hret : (retN (lsO (openN v.rows cells))) H H0 Q E := hret
  show Go _ _ _ ([some (rp v), some (rp cells)] ++ List.replicate (N_open_near.length - 2) none) [] _ _
  simp only [List.length_cons, List.length_nil, Nat.reduceAdd, Nat.reduceSub, List.replicate, List.cons_append, List.nil_append]
  obtain ⟨VC, rows⟩ := v
  obtain ⟨hC, vw, hL⟩ := hp
  have hC : VC = C.View := hC
  subst hC
  replace vw : Vw rows := vw
  refine G_asgN sc_open_near.nd 2 (evn_dnew (β := Bool)) fun a => ?_
  refine go_for (fun (s : List (Cell × Bool)) => [some (rp (⟨C.View, rows⟩ : VW)), some (rp cells), some (atM a), none, none]) (fun s => [(a, dcO s)]) (fun (ys : List Cell) (s : List (Cell × Bool)) => OpnI rows cells s (fun x => ∃ c ∈ ys, x ∈ around (hOf rows) (wOf rows) c ∧ hid rows x = false)) (fun x s => _) fX_passes rfl (it_listL (V 1)) (PN sc_open_near.nd 3) (fun _ _ => gj_name (vs := [3]) (by decide)) [] ⟨by simp, fun x => by rw [mem_openN vw]; simp⟩ (Le.of (by repeat (first | exact Lsl.nil | apply Lsl.keep | apply Lsl.drop)) (by first | exact List.Sublist.refl _ | exact List.Sublist.cons _ (List.Sublist.refl _) | exact List.nil_sublist _)) ?_ ?_
  · rintro B1 u c ys s hI
    refine go_for (fun (t : List (Cell × Bool)) => [some (rp (⟨C.View, rows⟩ : VW)), some (rp cells), some (atM a), some (rp c), none]) (fun t => [(a, dcO t)]) (fun (zs : List Cell) (t : List (Cell × Bool)) => (∀ z ∈ zs, z ∈ around (hOf rows) (wOf rows) c) ∧ OpnI rows cells t (fun x => (x ∈ zs ∧ hid rows x = false) ∨ ∃ c ∈ ys, x ∈ around (hOf rows) (wOf rows) c ∧ hid rows x = false)) (fun x s => _) fX_passes rfl (it_listL (EvN.evl ((c_m_beside (v := ⟨C.View, rows⟩) (f_m_beside T) hr (V 0) (eva_cons (V 3) eva_nil) ⟨rfl, vw⟩)))) (PN sc_open_near.nd 4) (fun _ _ => gj_name (vs := [4]) (by decide)) s ⟨fun z hz => hz, hI.nd, fun x => ?_⟩ (Le.of (by repeat (first | exact Lsl.nil | apply Lsl.keep | apply Lsl.drop)) (by first | exact List.Sublist.refl _ | exact List.Sublist.cons _ (List.Sublist.refl _) | exact List.nil_sublist _)) ?_ ?_
    · rw [← hI.all x]
      simp only [List.mem_cons, exists_eq_or_imp]
    · rintro B2 u2 z zs t ⟨hin, hO⟩
      have hz := (mem_around vw.dim).mp (hin z (by simp))
      have hlen := hO.len vw
      refine go_if (et_not (et_val (c_m_hidden (v := ⟨C.View, rows⟩) (f_m_hidden T) hr (V 0) (eva_cons (V 4) eva_nil) ⟨rfl, vw, hz.1⟩))) (fun h => ?_) (fun h => ?_)
      · have h : hid rows z = false := by simpa using h
        refine go_dput (v := true) hu 0 (V 2) rfl (V 4) ev_bl (by omega) ?_
        refine go_fall (go_end (dput t z true) ⟨fun y hy => hin y (by simp [hy]), dput_nd hO.nd, fun x => ?_⟩ (Le.of (by repeat (first | exact Lsl.nil | apply Lsl.keep | apply Lsl.drop)) (by first | exact List.Sublist.refl _ | exact List.Sublist.cons _ (List.Sublist.refl _) | exact List.nil_sublist _)) Up.refl)
        rw [mem_dput, ← hO.all x]
        constructor
        · rintro ((a1 | rfl) | a2 | a3)
          · exact .inl a1
          · exact .inr (.inl ⟨by simp, h⟩)
          · exact .inr (.inl ⟨by simp [a2.1], a2.2⟩)
          · exact .inr (.inr a3)
        · rintro (a1 | a2 | a3)
          · exact .inl (.inl a1)
          · rcases List.mem_cons.mp a2.1 with rfl | q
            · exact .inl (.inr rfl)
            · exact .inr (.inl ⟨q, a2.2⟩)
          · exact .inr (.inr a3)
      · have h : hid rows z = true := by simpa using h
        refine go_fall (go_end t ⟨fun y hy => hin y (by simp [hy]), hO.nd, fun x => ?_⟩ (Le.of (by repeat (first | exact Lsl.nil | apply Lsl.keep | apply Lsl.drop)) (by first | exact List.Sublist.refl _ | exact List.Sublist.cons _ (List.Sublist.refl _) | exact List.nil_sublist _)) Up.refl)
        rw [← hO.all x]
        constructor
        · rintro (a1 | a2 | a3)
          · exact .inl a1
          · exact .inr (.inl ⟨by simp [a2.1], a2.2⟩)
          · exact .inr (.inr a3)
        · rintro (a1 | a2 | a3)
          · exact .inl a1
          · rcases List.mem_cons.mp a2.1 with rfl | q
            · rw [h] at a2; exact absurd a2.2 (by decide)
            · exact .inr (.inl ⟨q, a2.2⟩)
          · exact .inr (.inr a3)
    · rintro t ⟨_, hO⟩
      refine go_end t ⟨hO.nd, fun x => ?_⟩ (Le.of (by repeat (first | exact Lsl.nil | apply Lsl.keep | apply Lsl.drop)) (by first | exact List.Sublist.refl _ | exact List.Sublist.cons _ (List.Sublist.refl _) | exact List.nil_sublist _)) Up.refl
      rw [← hO.all x]
      simp
  · rintro s hI
    have hlen := hI.len vw
    have e := hI.fin vw (fun x => by simp)
    refine go_retN (EvN.cast (evn_sortK T.bl rfl hu rfl (VO 2) (by omega)) ?_) (rtN_of hret)
    rw [e]
theorem c_open_near {X : Cx} {ρ : En} {ω : Ow} {e : Expr} {es : List Expr} {p pos : Pos} {l : Nat} {v : VW} {cells : List Cell} (G : Cal X.prog X.w X.K X.mg X.base "open_near" 4 (spOf (pm_open_near C))) (hr : Room l X.A) (ha : EvA X ρ ω (e :: es) [rp v, rp cells]) (hk : v.C = C.View ∧ Vw v.rows ∧ cells.length ≤ 1000) (hl : 4 ≤ l := by decide) (hg : Gl X "open_near" := by rfl)
    (he : starEach (e :: es) X.env = (false, eval e X.env) :: starEach es X.env := by exact se_cons rfl) (hpl : (backTo pos (starEach es X.env)).any (·.1) = false := by exact se_any rfl) : EvN X ρ ω (.Call (.Name "open_near" p) (e :: es) [] pos) (lsO (openN v.rows cells)) :=
  evn_call G (v, cells) (hr.mono hl) hg (by decide +kernel) ha hk (fun _ _ _ q => q) he hpl

end
end DF
namespace DF
open R (rp)
open Dt (toD)
open PySem L2
section
variable {P : Program} {Wd : World} {K : PySem.W.Frag} {mg : Str → Option Value} {base : Heap} {C : Cs}
/-! parts -/
def pm_parts_pre (C : Cs)(v : VW) : Prop := v.C = C.View ∧ Vw v.rows
def pm_parts_ret (C : Cs)(v : VW) : Hp → Hp → VK → XK → Prop := (retNL ((partsOf v.rows).map lsO))
def pm_parts (C : Cs): Pm (VW) := ⟨fun i => [rp i], fun i => pm_parts_pre C i, fun i => pm_parts_ret C i⟩
theorem f_parts (T : Facts K mg C) : Cal P Wd K mg base "parts" 6 (spOf (pm_parts C)) := by
  refine cal_go T.d_parts sc_parts (fun _ => rfl) fun f cdv A outer s H H0 Q E v hr hp hret hs => ?_
  have hu := hr.units
  have hu1 : (fX P Wd K mg base N_parts "parts" s_parts f cdv A outer s H E).A.units + 65 < cLine := by have := hr.un; omega
  replace hp : v.C = C.View ∧ Vw v.rows := hp
  replace hret : ((retNL ((partsOf v.rows).map lsO))) H H0 Q E := hret
  show Go _ _ _ ([some (rp v)] ++ List.replicate (N_parts.length - 1) none) [] _ _
  simp only [List.length_cons, List.length_nil, Nat.reduceAdd, Nat.reduceSub, List.replicate, List.cons_append, List.nil_append]
  obtain ⟨VC, rows⟩ := v
  obtain ⟨hC, vw⟩ := hp
  have hC : VC = C.View := hC
  subst hC
  replace vw : Vw rows := vw
  replace hret : GoodNL ((partsOf rows).map lsO) H H0 Q := hret
  refine G_asg sc_parts.nd 1 (P := rp (edgeOf rows)) (EvN.evl ((c_edge (v := ⟨C.View, rows⟩) (f_edge T) hr (eva_cons (V 0) eva_nil) ⟨rfl, vw⟩))) ?_
  refine G_asgN sc_parts.nd 2 (φ := lsM []) (EvN.cast (evn_nil (α := List Cell)) rfl) fun q => ?_
  refine go_while (S := List Cell × List (List Cell) × List Addr) (fun s => [some (rp (⟨C.View, rows⟩ : VW)), some (rp s.1), some (atM q), none, none, none, none, none]) (fun s => (q, lsM (s.2.2.map atM)) :: s.2.2.zip (s.2.1.map lsO)) (fun s => (∀ x ∈ s.1, x ∈ closedOf rows) ∧ s.2.2.length = s.2.1.length ∧ s.2.1.length + s.1.length ≤ 36 ∧ ∃ n, s.1.length < n ∧ pgo rows n s.1 s.2.1 = partsOf rows) (fun s => s.1.length) (fun s => decide ((0 : Int) < (s.1.length : Int))) fX_passes (edgeOf rows, [], []) ⟨edge_closed, rfl, by simpa using edge_len vw, 37, by have := edge_len vw; simp only; omega, rfl⟩ (Le.of (by repeat (first | exact Lsl.nil | apply Lsl.keep | apply Lsl.drop)) (by first | exact List.Sublist.refl _ | exact List.Sublist.cons _ (List.Sublist.refl _) | exact List.nil_sublist _)) (fun s hI => (et_gt (ev_lenL T.bl rfl (Ev.evcl (V 1))) ev_int)) ?_ ?_
  · rintro ⟨left, cs, ps⟩ ⟨hcl, hps, hlen, n, hn, hI⟩ ht
    simp only at hcl hps hlen hn hI
    obtain ⟨c, r, rfl⟩ : ∃ c r, left = c :: r := by
      cases left with
      | nil => exact absurd (of_decide_eq_true ht) (by simp)
      | cons c r => exact ⟨c, r, rfl⟩
    obtain ⟨n, rfl⟩ : ∃ m, n = m + 1 := ⟨n - 1, by simp only [List.length_cons] at hn; omega⟩
    have hc := hcl c (by simp)
    have hlt := rest_lt (rows := rows) (c := c) (r := r)
    have hI : pgo rows n ((c :: r).filter fun x => !decide (x ∈ bfs rows c)) (cs ++ [psort (bfs rows c)]) = partsOf rows := hI
    generalize hlf : c :: r = left at hcl hlen hn hI hlt
    have h0 : atI left 0 = some c := by subst hlf; exact atI_nat (j := 0) rfl
    refine G_asgN sc_parts.nd 3 (φ := lsO [c]) (evn_disp (i_cons (ev_ixL (Ev.evcl (V 1)) ev_int h0) i_nil) (by show 1 ≤ 1000; decide)) fun a => ?_
    refine G_asg sc_parts.nd 4 ev_int ?_
    refine go_while (S := List Cell × Nat) (fun s => [some (rp (⟨C.View, rows⟩ : VW)), some (rp left), some (atM q), some (atM a), some (rp (s.2 : Int)), none, none, none]) (fun s => (a, lsO s.1) :: (q, lsM (ps.map atM)) :: ps.zip (cs.map lsO)) (fun s => s.2 ≤ s.1.length ∧ Prt rows s.1 ∧ bgo rows (37 - s.2) s.1 s.2 = bfs rows c) (fun s => 37 - s.2) (fun s => decide ((s.2 : Int) < (s.1.length : Int))) fX_passes ([c], 0) ⟨by simp, ⟨by simp, fun x hx => by rw [List.mem_singleton.mp hx]; exact hc⟩, rfl⟩ (Le.of (by repeat (first | exact Lsl.nil | apply Lsl.keep | apply Lsl.drop)) (by first | exact List.Sublist.refl _ | exact List.Sublist.cons _ (List.Sublist.refl _) | exact List.nil_sublist _)) (fun s hI => (et_lt (V 4) (ev_lenL T.bl rfl (VO 3)))) ?_ ?_
    · rintro ⟨part, k⟩ ⟨hk, hp, hB⟩ ht
      have ht : k < part.length := by have := of_decide_eq_true ht; simp only at this; omega
      simp only at hk hp hB
      have h36 := hp.len vw
      have e37 : 37 - k = (37 - (k + 1)) + 1 := by omega
      rw [e37] at hB
      unfold bgo at hB
      rw [if_pos ht] at hB
      have hat : atI part (k : Int) = some (part.getD k (0, 0)) := by
        refine atI_nat ?_
        rw [List.getD_eq_getElem?_getD, List.getElem?_eq_getElem ht]; rfl
      refine go_for (fun (s : List Cell) => [some (rp (⟨C.View, rows⟩ : VW)), some (rp left), some (atM q), some (atM a), some (rp (k : Int)), none, none, none]) (fun s => (a, lsO s) :: (q, lsM (ps.map atM)) :: ps.zip (cs.map lsO)) (fun (ys : List Cell) (s : List Cell) => Prt rows s ∧ part.length ≤ s.length ∧ ys.foldl (extB rows) s = growP rows part (part.getD k (0, 0))) (fun x s => _) fX_passes rfl (it_listL (EvN.evl ((c_open_near (v := ⟨C.View, rows⟩) (cells := [part.getD k (0, 0)]) (f_open_near T) hr (eva_cons (V 0) (eva_cons (EvN.evl (evn_disp (i_cons (ev_ixL (VO 3) (V 4) hat) i_nil) (by show 1 ≤ 1000; decide))) eva_nil)) ⟨rfl, vw, by show 1 ≤ 1000; decide⟩)))) (PN sc_parts.nd 5) (fun _ _ => gj_name (vs := [5]) (by decide)) part ⟨hp, Nat.le_refl _, rfl⟩ (Le.of (by repeat (first | exact Lsl.nil | apply Lsl.keep | apply Lsl.drop)) (by first | exact List.Sublist.refl _ | exact List.Sublist.cons _ (List.Sublist.refl _) | exact List.nil_sublist _)) ?_ ?_
      · rintro B1 u o ys s ⟨hs, hsl, hF⟩
        have hx := hs.ext (o := o) vw
        have hxl := hx.len vw
        refine G_ext 0 3 (ys := (around (hOf rows) (wOf rows) o).filter fun x => hid rows x && !decide (x ∈ s)) (EvC.cast (EvN.evc (evn_lcL1 (own := [("one", 6)]) (f := fun x => x) (keep := fun x => hid rows x && !decide (x ∈ s)) rfl sc_parts.nd (it_listC (EvN.evc ((c_m_beside (v := ⟨C.View, rows⟩) (f_m_beside T) hr (V 0) (eva_cons (V 5) eva_nil) ⟨rfl, vw⟩)))) ?_ (blkOk_by (by rfl)) (fun _ _ _ _ _ => PN sc_parts.nd 6) (fun _ => gj_name (by decide)) (fun _ _ _ _ _ x hx => (et_w (ew_and (et_val (c_m_hidden (v := ⟨C.View, rows⟩) (f_m_hidden T) hr (V 0) (eva_cons (V 6) eva_nil) ⟨rfl, vw, ((mem_around vw.dim).mp hx).1⟩)) fun _ => (ew_and1 (et_ni (α := Cell) (Ev.evd (V 6)) (EvC.evd (VO 3)) hu1 ⟨trivial, trivial⟩ (fun _ _ => ⟨trivial, trivial⟩) (by decide) (bm_plain rfl)))))) (fun _ _ _ _ _ x hx _ => (V 6)))) ?_) ?_ ?_
        · exact Nat.lt_of_le_of_lt (around_len vw.dim o) (by decide)
        · rw [List.map_id']
        · unfold extB at hxl; rw [List.length_append] at hxl; omega
        refine go_end (extB rows s o) ⟨hx, by unfold extB; rw [List.length_append]; omega, hF⟩ (Le.of (by repeat (first | exact Lsl.nil | apply Lsl.keep | apply Lsl.drop)) (by first | exact List.Sublist.refl _ | exact List.Sublist.cons _ (List.Sublist.refl _) | exact List.nil_sublist _)) Up.refl
      · rintro s ⟨hs, hsl, hF⟩
        have hF : s = growP rows part (part.getD k (0, 0)) := by simpa using hF
        refine G_asg sc_parts.nd 4 (ev_add (V 4) ev_int) ?_
        refine go_nil fun B1 u σ H1 H01 S => ⟨(s, k + 1), H01, ⟨by simp only; omega, hs, by rw [hF]; exact hB⟩, by simp only; omega, ?_⟩
        exact (S.down u).less (by repeat (first | exact Lsl.nil | apply Lsl.keep | apply Lsl.drop)) (List.Sublist.refl _)
    · rintro ⟨part, k⟩ ⟨hk, hp, hB⟩ ht
      have ht : ¬ k < part.length := by have := of_decide_eq_false ht; simp only at this; omega
      simp only at hk hp hB
      have e : part = bfs rows c := by
        rw [← hB]
        show part = bgo rows (37 - k) part k
        cases e : 37 - k with
        | zero => rfl
        | succ n => unfold bgo; rw [if_neg ht]
      subst e
      have hl36 := hp.len vw
      refine go_appN 1 (V 2) rfl (evn_sorted (α := Cell) T.bl hu (by decide) rfl (VO 3)) (by rw [List.length_map]; simp only [hps]; omega) fun z => ?_
      refine G_lc1 sc_parts.nd 1 (own := [("cell", 7)]) (f := fun x => x) (keep := fun x => !decide (x ∈ bfs rows c)) rfl (it_listC (Ev.evcl (V 1))) ?_ (blkOk_by (by rfl)) (fun _ _ _ _ _ => PN sc_parts.nd 7) (fun _ => gj_name (by decide)) (fun _ _ _ _ _ x hx => (et_ni (α := Cell) (Ev.evd (V 7)) (EvC.evd (VO 3)) hu1 ⟨trivial, trivial⟩ (fun _ _ => ⟨trivial, trivial⟩) (by decide) (bm_plain rfl))) (fun _ _ _ _ _ x hx _ => (V 7)) ?_
      · omega
      rw [List.map_id']
      refine go_nil fun B1 u σ H1 H01 S => ⟨(left.filter fun x => !decide (x ∈ bfs rows c), cs ++ [psort (bfs rows c)], ps ++ [z]), H01, ⟨fun x hx => hcl x (List.mem_filter.mp hx).1, by simp only [List.length_append, List.length_cons, List.length_nil, hps], by simp only [List.length_append, List.length_cons, List.length_nil]; omega, n, by simp only; omega, hI⟩, by simp only; omega, ?_⟩
      have S1 := (S.down u).less (ρ' := [some (rp (⟨C.View, rows⟩ : VW)), some (rp (left.filter fun x => !decide (x ∈ bfs rows c))), some (atM q), none, none, none, none, none]) (ω' := (z, lsO (psort (bfs rows c))) :: (q, lsM (ps.map atM ++ [atM z])) :: ps.zip (cs.map lsO)) (by repeat (first | exact Lsl.nil | apply Lsl.keep | apply Lsl.drop)) (List.Sublist.cons₂ _ (List.Sublist.cons _ (List.Sublist.refl _)))
      have e1 : (ps ++ [z]).map atM = ps.map atM ++ [atM z] := by rw [List.map_append]; rfl
      have e2 : (ps ++ [z]).zip ((cs ++ [psort (bfs rows c)]).map lsO) = ps.zip (cs.map lsO) ++ [(z, lsO (psort (bfs rows c)))] := by
        rw [List.map_append, List.zip_append (by rw [List.length_map]; exact hps)]; rfl
      show Sat _ _ _ ((q, lsM ((ps ++ [z]).map atM)) :: (ps ++ [z]).zip ((cs ++ [psort (bfs rows c)]).map lsO)) _ _ _
      rw [e1, e2]
      have pm : ((z, lsO (psort (bfs rows c))) :: (q, lsM (ps.map atM ++ [atM z])) :: ps.zip (cs.map lsO)).Perm ((q, lsM (ps.map atM ++ [atM z])) :: (ps.zip (cs.map lsO) ++ [(z, lsO (psort (bfs rows c)))])) :=
        (List.Perm.swap _ _ _).trans (List.Perm.cons _ (List.perm_append_comm (l₁ := [_])))
      exact ⟨S1.nx, S1.len, S1.sl, fun a φ hm => S1.ow a φ (pm.mem_iff.mpr hm), (pm.map _).nodup_iff.mp S1.nd, S1.tp⟩
  · rintro ⟨left, cs, ps⟩ ⟨hcl, hps, hlen, n, hn, hI⟩ ht
    simp only at hcl hps hlen hn hI
    have hnil : left = [] := by
      have := of_decide_eq_false ht
      cases left with
      | nil => rfl
      | cons x l => exact absurd (by simp : (0 : Int) < ((x :: l).length : Int)) this
    subst hnil
    obtain ⟨n, rfl⟩ : ∃ m, n = m + 1 := ⟨n - 1, by simp only [List.length_nil] at hn; omega⟩
    have hI : cs = partsOf rows := hI
    subst hI
    exact go_retNL (φs := (partsOf rows).map lsO) (V 2) (by rw [List.length_map]; exact hps) hret

end
end DF
namespace DF
open R (rp)
open Dt (toD)
open PySem L2
section
variable {P : Program} {Wd : World} {K : PySem.W.Frag} {mg : Str → Option Value} {base : Heap} {C : Cs}
/-! check_size -/
def pm_check_size_pre (C : Cs)(part : List Cell) : Prop := True
def pm_check_size_ret (C : Cs)(part : List Cell) : Hp → Hp → VK → XK → Prop := (if part.length ≤ 12 then retV nonM else retX C.TooGreat)
def pm_check_size (C : Cs): Pm (List Cell) := ⟨fun i => [rp i], fun i => pm_check_size_pre C i, fun i => pm_check_size_ret C i⟩
theorem f_check_size (T : Facts K mg C) : Cal P Wd K mg base "check_size" 1 (spOf (pm_check_size C)) := by
  refine cal_go T.d_check_size sc_check_size (fun _ => rfl) fun f cdv A outer s H H0 Q E part hr hp hret hs => ?_
  have hu := hr.units
  have hu1 : (fX P Wd K mg base N_check_size "check_size" s_check_size f cdv A outer s H E).A.units + 65 < cLine := by have := hr.un; omega
  replace hp : True := hp
  replace hret : ((if part.length ≤ 12 then retV nonM else retX C.TooGreat)) H H0 Q E := hret
  show Go _ _ _ ([some (rp part)] ++ List.replicate (N_check_size.length - 1) none) [] _ _
  simp only [List.length_cons, List.length_nil, Nat.reduceAdd, Nat.reduceSub, List.replicate, List.cons_append, List.nil_append]
  obtain ⟨tM, hM⟩ := T.g_MOST_CELLS
  refine go_if (et_gt (ev_lenL T.bl rfl (Ev.evcl (V 0))) (ev_globI rfl hM)) (fun h => ?_) (fun h => ?_)
  · have h : ¬ part.length ≤ 12 := by have := of_decide_eq_true h; omega
    rw [if_neg h] at hret
    exact go_raise (W := fun cls d _ H => E cls d H) T.e_TooGreat rfl fX_takes rfl (by decide) fun B1 u σ H' H0' S => hret H' S.nx.a
  · have h : part.length ≤ 12 := by have := of_decide_eq_false h; omega
    rw [if_pos h] at hret
    exact go_fall (go_nil fun B1 u σ H' H0' S => hret .non H' H0' (u _ _ S.nx) rfl)
/-! part_of -/
def pm_part_of_pre (C : Cs)(v : VW) (c : Cell) : Prop := v.C = C.View ∧ Vw v.rows
def pm_part_of_ret (C : Cs)(v : VW) (c : Cell) : Hp → Hp → VK → XK → Prop := retV (optM ((partsOf v.rows).find? fun p => decide (c ∈ p)))
def pm_part_of (C : Cs): Pm ((VW) × (Cell)) := ⟨fun i => [rp i.1, rp i.2], fun i => pm_part_of_pre C i.1 i.2, fun i => pm_part_of_ret C i.1 i.2⟩
theorem f_part_of (T : Facts K mg C) : Cal P Wd K mg base "part_of" 7 (spOf (pm_part_of C)) := by
  refine cal_go T.d_part_of sc_part_of (fun _ => rfl) fun f cdv A outer s H H0 Q E i hr hp hret hs => ?_
  obtain ⟨v, c⟩ := i
  have hu := hr.units
  have hu1 : (fX P Wd K mg base N_part_of "part_of" s_part_of f cdv A outer s H E).A.units + 65 < cLine := by have := hr.un; omega
  replace hp : v.C = C.View ∧ Vw v.rows := hp
  replace hret : (retV (optM ((partsOf v.rows).find? fun p => decide (c ∈ p)))) H H0 Q E := hret
  show Go _ _ _ ([some (rp v), some (rp c)] ++ List.replicate (N_part_of.length - 2) none) [] _ _
  simp only [List.length_cons, List.length_nil, Nat.reduceAdd, Nat.reduceSub, List.replicate, List.cons_append, List.nil_append]
  obtain ⟨VC, rows⟩ := v
  obtain ⟨hC, vw⟩ := hp
  have hC : VC = C.View := hC
  subst hC
  replace vw : Vw rows := vw
  refine go_for (S := Unit) (fun s => [some (rp (⟨C.View, rows⟩ : VW)), some (rp c), none]) (fun s => []) (fun (ys : List (List Cell)) s => (partsOf rows).find? (fun p => decide (c ∈ p)) = ys.find? fun p => decide (c ∈ p)) (fun x s => _) fX_passes rfl (it_listL (EvN.evl (EvNL.evn (evnl_call (f_parts T) (⟨C.View, rows⟩ : VW) (hr.mono (by decide)) rfl (by decide +kernel) (eva_cons (V 0) eva_nil) ⟨rfl, vw⟩ (fun H H0 Q q => q))))) (PN sc_part_of.nd 2) (fun _ _ => gj_name (vs := [2]) (by decide)) () rfl (Le.of (by repeat (first | exact Lsl.nil | apply Lsl.keep | apply Lsl.drop)) (by first | exact List.Sublist.refl _ | exact List.Sublist.cons _ (List.Sublist.refl _) | exact List.nil_sublist _)) ?_ ?_
  · rintro B1 u x ys s hI
    refine go_if (et_in (α := Cell) (Ev.evd (V 1)) (Ev.evd (V 2)) hu1 ⟨trivial, trivial⟩ (fun _ _ => ⟨trivial, trivial⟩) (by decide) (bm_plain rfl)) (fun h => ?_) (fun h => ?_)
    · have e : (partsOf rows).find? (fun p => decide (c ∈ p)) = some x := by rw [hI, List.find?_cons, h]
      replace hret : retV (optM ((partsOf rows).find? fun p => decide (c ∈ p))) H H0 Q E := hret
      rw [e] at hret
      exact go_ret (V 2) (rt_up u hret)
    · exact go_fall (go_end () (by rw [hI, List.find?_cons, h]) (Le.of (by repeat (first | exact Lsl.nil | apply Lsl.keep | apply Lsl.drop)) (by first | exact List.Sublist.refl _ | exact List.Sublist.cons _ (List.Sublist.refl _) | exact List.nil_sublist _)) Up.refl)
  · rintro s hI
    replace hret : retV (optM ((partsOf rows).find? fun p => decide (c ∈ p))) H H0 Q E := hret
    have hI : (partsOf rows).find? (fun p => decide (c ∈ p)) = none := hI
    rw [hI] at hret
    exact go_ret ev_non (rt_of hret)
theorem c_part_of {X : Cx} {ρ : En} {ω : Ow} {e : Expr} {es : List Expr} {p pos : Pos} {l : Nat} {v : VW} {c : Cell} (G : Cal X.prog X.w X.K X.mg X.base "part_of" 7 (spOf (pm_part_of C))) (hr : Room l X.A) (ha : EvA X ρ ω (e :: es) [rp v, rp c]) (hk : v.C = C.View ∧ Vw v.rows) (hl : 7 ≤ l := by decide) (hg : Gl X "part_of" := by rfl)
    (he : starEach (e :: es) X.env = (false, eval e X.env) :: starEach es X.env := by exact se_cons rfl) (hpl : (backTo pos (starEach es X.env)).any (·.1) = false := by exact se_any rfl) : Ev X ρ ω (.Call (.Name "part_of" p) (e :: es) [] pos) (optM ((partsOf v.rows).find? fun p => decide (c ∈ p))) :=
  ev_call G (v, c) (hr.mono hl) hg (by decide +kernel) ha hk (fun _ _ _ q => q) he hpl
/-! can_still -/
def pm_can_still_pre (C : Cs)(v : VW) (told : List Cell) (chosen : List Cell) (left : List Cell) : Prop := v.C = C.View ∧ Vw v.rows ∧ (∀ o ∈ told, inF (hOf v.rows) (wOf v.rows) o = true ∧ hid v.rows o = false) ∧ chosen.length ≤ 1000 ∧ left.length ≤ 1000
def pm_can_still_ret (C : Cs)(v : VW) (told : List Cell) (chosen : List Cell) (left : List Cell) : Hp → Hp → VK → XK → Prop := retV (rp (stillB v.rows told chosen left))
def pm_can_still (C : Cs): Pm ((VW) × (List Cell) × (List Cell) × (List Cell)) := ⟨fun i => [rp i.1, rp i.2.1, rp i.2.2.1, rp i.2.2.2], fun i => pm_can_still_pre C i.1 i.2.1 i.2.2.1 i.2.2.2, fun i => pm_can_still_ret C i.1 i.2.1 i.2.2.1 i.2.2.2⟩
theorem f_can_still (T : Facts K mg C) : Cal P Wd K mg base "can_still" 4 (spOf (pm_can_still C)) := by
  refine cal_go T.d_can_still sc_can_still (fun _ => rfl) fun f cdv A outer s H H0 Q E i hr hp hret hs => ?_
  obtain ⟨v, told, chosen, left⟩ := i
  have hu := hr.units
  have hu1 : (fX P Wd K mg base N_can_still "can_still" s_can_still f cdv A outer s H E).A.units + 65 < cLine := by have := hr.un; omega
  replace hp : v.C = C.View ∧ Vw v.rows ∧ (∀ o ∈ told, inF (hOf v.rows) (wOf v.rows) o = true ∧ hid v.rows o = false) ∧ chosen.length ≤ 1000 ∧ left.length ≤ 1000 := hp
  replace hret : (retV (rp (stillB v.rows told chosen left))) H H0 Q E := hret
  show Go _ _ _ ([some (rp v), some (rp told), some (rp chosen), some (rp left)] ++ List.replicate (N_can_still.length - 4) none) [] _ _
  simp only [List.length_cons, List.length_nil, Nat.reduceAdd, Nat.reduceSub, List.replicate, List.cons_append, List.nil_append]
  obtain ⟨VC, rows⟩ := v
  obtain ⟨hC, vw, ht, hc, hl⟩ := hp
  have hC : VC = C.View := hC
  subst hC
  replace vw : Vw rows := vw
  replace ht : ∀ o ∈ told, inF (hOf rows) (wOf rows) o = true ∧ hid rows o = false := ht
  replace hret : retV (rp (stillB rows told chosen left)) H H0 Q E := hret
  refine go_for (S := Unit) (fun s => [some (rp (⟨C.View, rows⟩ : VW)), some (rp told), some (rp chosen), some (rp left), none, none, none, none, none]) (fun s => []) (fun (ys : List Cell) s => (∀ y ∈ ys, inF (hOf rows) (wOf rows) y = true ∧ hid rows y = false) ∧ stillB rows told chosen left = ys.all (fitsB rows chosen left)) (fun x s => _) fX_passes rfl (it_listL (V 1)) (PN sc_can_still.nd 4) (fun _ _ => gj_name (vs := [4]) (by decide)) () ⟨ht, rfl⟩ (Le.of (by repeat (first | exact Lsl.nil | apply Lsl.keep | apply Lsl.drop)) (by first | exact List.Sublist.refl _ | exact List.Sublist.cons _ (List.Sublist.refl _) | exact List.nil_sublist _)) ?_ ?_
  · rintro B1 u x ys s ⟨hy, hI⟩
    obtain ⟨hin, hh⟩ := hy x (by simp)
    refine G_asg sc_can_still.nd 5 (P := rp (around (hOf rows) (wOf rows) x)) (EvN.evl ((c_m_beside (v := ⟨C.View, rows⟩) (f_m_beside T) hr (V 0) (eva_cons (V 4) eva_nil) ⟨rfl, vw⟩))) ?_
    refine G_asg sc_can_still.nd 6 (P := rp (cntIn rows x chosen : Int)) (Ev.cast (ev_lenL T.bl rfl (EvN.evc (evn_lcL1 (own := [("one", 8)]) (f := fun x => x) (keep := fun y => decide (y ∈ around (hOf rows) (wOf rows) x)) rfl sc_can_still.nd (it_listC (Ev.evcl (V 2))) (Nat.lt_of_le_of_lt hc (by decide)) (blkOk_by (by rfl)) (fun _ _ _ _ _ => PN sc_can_still.nd 8) (fun _ => gj_name (by decide)) (fun _ _ _ _ _ x hx => (et_in (α := Cell) (Ev.evd (V 8)) (Ev.evd (V 5)) hu1 ⟨trivial, trivial⟩ (fun _ _ => ⟨trivial, trivial⟩) (by decide) (bm_plain rfl))) (fun _ _ _ _ _ x hx _ => (V 8))))) (by rw [List.map_id']; rfl)) ?_
    refine G_asg sc_can_still.nd 7 (P := rp (cntIn rows x left : Int)) (Ev.cast (ev_lenL T.bl rfl (EvN.evc (evn_lcL1 (own := [("one", 8)]) (f := fun x => x) (keep := fun y => decide (y ∈ around (hOf rows) (wOf rows) x)) rfl sc_can_still.nd (it_listC (Ev.evcl (V 3))) (Nat.lt_of_le_of_lt hl (by decide)) (blkOk_by (by rfl)) (fun _ _ _ _ _ => PN sc_can_still.nd 8) (fun _ => gj_name (by decide)) (fun _ _ _ _ _ x hx => (et_in (α := Cell) (Ev.evd (V 8)) (Ev.evd (V 5)) hu1 ⟨trivial, trivial⟩ (fun _ _ => ⟨trivial, trivial⟩) (by decide) (bm_plain rfl))) (fun _ _ _ _ _ x hx _ => (V 8))))) (by rw [List.map_id']; rfl)) ?_
    refine go_if (k := !fitsB rows chosen left x) (EvT.cast (et_not (ev_chain op_le op_le (V 6) (c_m_figure (v := ⟨C.View, rows⟩) (f_m_figure T) hr (V 0) (eva_cons (V 4) eva_nil) ⟨rfl, vw, hin, hh⟩) (fun _ => (ev_add (V 6) (V 7))))) ?_) (fun h => ?_) (fun h => ?_)
    · congr 1
      unfold fitsB
      rw [Bool.eq_iff_iff]
      simp only [Bool.and_eq_true, decide_eq_true_eq]
      omega
    · have h : fitsB rows chosen left x = false := by simpa using h
      rw [List.all_cons, h, Bool.false_and] at hI
      rw [hI] at hret
      exact go_ret ev_bl (rt_up u hret)
    · have h : fitsB rows chosen left x = true := by simpa using h
      rw [List.all_cons, h, Bool.true_and] at hI
      exact go_fall (go_end () ⟨fun y hy' => hy y (by simp [hy']), hI⟩ (Le.of (by repeat (first | exact Lsl.nil | apply Lsl.keep | apply Lsl.drop)) (by first | exact List.Sublist.refl _ | exact List.Sublist.cons _ (List.Sublist.refl _) | exact List.nil_sublist _)) Up.refl)
  · rintro s ⟨_, hI⟩
    have hI : stillB rows told chosen left = true := by simpa using hI
    rw [hI] at hret
    exact go_ret ev_bl (rt_of hret)
theorem c_can_still {X : Cx} {ρ : En} {ω : Ow} {e : Expr} {es : List Expr} {p pos : Pos} {l : Nat} {v : VW} {told : List Cell} {chosen : List Cell} {left : List Cell} (G : Cal X.prog X.w X.K X.mg X.base "can_still" 4 (spOf (pm_can_still C))) (hr : Room l X.A) (ha : EvA X ρ ω (e :: es) [rp v, rp told, rp chosen, rp left]) (hk : v.C = C.View ∧ Vw v.rows ∧ (∀ o ∈ told, inF (hOf v.rows) (wOf v.rows) o = true ∧ hid v.rows o = false) ∧ chosen.length ≤ 1000 ∧ left.length ≤ 1000) (hl : 4 ≤ l := by decide) (hg : Gl X "can_still" := by rfl)
    (he : starEach (e :: es) X.env = (false, eval e X.env) :: starEach es X.env := by exact se_cons rfl) (hpl : (backTo pos (starEach es X.env)).any (·.1) = false := by exact se_any rfl) : Ev X ρ ω (.Call (.Name "can_still" p) (e :: es) [] pos) (rp (stillB v.rows told chosen left)) :=
  ev_call G (v, told, chosen, left) (hr.mono hl) hg (by decide +kernel) ha hk (fun _ _ _ q => q) he hpl
/-! part_layings -/
def pm_part_layings_pre (C : Cs)(v : VW) (part : List Cell) : Prop := v.C = C.View ∧ Vw v.rows ∧ part.Nodup ∧ part.length ≤ 1000
def pm_part_layings_ret (C : Cs)(v : VW) (part : List Cell) : Hp → Hp → VK → XK → Prop := (if part.length ≤ 12 then retNL ((playings v.rows part).map lsO) else retX C.TooGreat)
def pm_part_layings (C : Cs): Pm ((VW) × (List Cell)) := ⟨fun i => [rp i.1, rp i.2], fun i => pm_part_layings_pre C i.1 i.2, fun i => pm_part_layings_ret C i.1 i.2⟩
theorem f_part_layings (T : Facts K mg C) : Cal P Wd K mg base "part_layings" 5 (spOf (pm_part_layings C)) := by
  refine cal_go T.d_part_layings sc_part_layings (fun _ => rfl) fun f cdv A outer s H H0 Q E i hr hp hret hs => ?_
  obtain ⟨v, part⟩ := i
  have hu := hr.units
  have hu1 : (fX P Wd K mg base N_part_layings "part_layings" s_part_layings f cdv A outer s H E).A.units + 65 < cLine := by have := hr.un; omega
  replace hp : v.C = C.View ∧ Vw v.rows ∧ part.Nodup ∧ part.length ≤ 1000 := hp
  replace hret : ((if part.length ≤ 12 then retNL ((playings v.rows part).map lsO) else retX C.TooGreat)) H H0 Q E := hret
  show Go _ _ _ ([some (rp v), some (rp part)] ++ List.replicate (N_part_layings.length - 2) none) [] _ _
  simp only [List.length_cons, List.length_nil, Nat.reduceAdd, Nat.reduceSub, List.replicate, List.cons_append, List.nil_append]
  obtain ⟨VC, rows⟩ := v
  obtain ⟨hC, vw, hnd, hlen⟩ := hp
  have hC : VC = C.View := hC
  subst hC
  replace vw : Vw rows := vw
  replace hret : (if part.length ≤ 12 then retNL ((playings rows part).map lsO) else retX C.TooGreat) H H0 Q E := hret
  by_cases h12 : part.length ≤ 12
  rotate_left
  · rw [if_neg h12] at hret
    exact go_drop_rz (rz_call (W := fun cls d _ H => E cls d H) (C := C.TooGreat) (f_check_size T) part (hr.mono (by decide)) rfl (by decide +kernel) (eac_cons (V 1) eac_nil) trivial (fun H H0 Q E q => by
      show (if part.length ≤ 12 then retV nonM else retX C.TooGreat) H H0 Q E
      rw [if_neg h12]; exact q)) fX_takes (fun B1 u σ H' H0' S H'' s => hret H'' (S.nx.a.trans s))
  rw [if_pos h12] at hret
  replace hret : GoodNL ((playings rows part).map lsO) H H0 Q := hret
  refine go_drop (P := nonM) (ev_call (f_check_size T) part (hr.mono (by decide)) rfl (by decide +kernel) (eva_cons (V 1) eva_nil) trivial (fun H H0 Q q => by
      show (if part.length ≤ 12 then retV nonM else retX C.TooGreat) H H0 Q E0
      rw [if_pos h12]; exact q)) ?_
  refine G_asg sc_part_layings.nd 2 (P := rp (openN rows part)) (EvN.evl (c_open_near (v := ⟨C.View, rows⟩) (f_open_near T) hr (eva_cons (V 0) (eva_cons (V 1) eva_nil)) ⟨rfl, vw, hlen⟩)) ?_
  have htold : ∀ o ∈ openN rows part, inF (hOf rows) (wOf rows) o = true ∧ hid rows o = false := fun o ho => by
    obtain ⟨c, _, h1, h2⟩ := (mem_openN vw).mp ho
    exact ⟨((mem_around vw.dim).mp h1).1, h2⟩
  refine G_asgL (φs := [lsO ([] : List Cell)]) sc_part_layings.nd 3 (ean_cons (evn_nil (α := Cell)) ean_nil) (by decide) fun ps0 hps0 => ?_
  refine go_for (S := List (List Cell) × List Addr) (fun s => [some (rp (⟨C.View, rows⟩ : VW)), some (rp part), some (rp (openN rows part)), some (obM (lsM (s.2.map atM))), none, none, none, none, none]) (fun s => s.2.zip (s.1.map lsO)) (fun (ys : List (Int × Cell)) s => ∃ i, ys = (enumL part).drop i ∧ s.2.length = s.1.length ∧ s.1.Nodup ∧ Rws (part.take i) s.1 ∧ s.1.length ≤ 2 ^ i ∧ layGo rows (openN rows part) (part.drop i) s.1 = layRaw rows part) (fun x s => _) fX_passes rfl (it_enum T.bl rfl (V 1)) (PT2 sc_part_layings.nd rfl 4 5) (fun _ _ => gj_pairL (vs := [4, 5]) (by decide) (by decide)) ([[]], ps0) ⟨0, by simp, hps0, by simp, fun r hr => by rw [List.mem_singleton.mp hr]; exact List.nil_sublist _, by simp, rfl⟩ (Le.of (by repeat (first | exact Lsl.nil | apply Lsl.keep | apply Lsl.drop)) (by rw [List.append_nil]; exact List.Sublist.refl _)) ?_ ?_
  · rintro B1 u x ys ⟨rws, ps⟩ ⟨i, hys, hpl, hrn, hrs, hrl, hI⟩
    simp only at hpl hrn hrs hrl hI
    obtain ⟨hi, hx1, hx2, hpd, hyd⟩ := enum_step2 hys
    have hr12 : ∀ r ∈ rws, r.length ≤ 12 := fun r hr => Nat.le_trans (hrs r hr).length_le (by rw [List.length_take]; omega)
    have hcn : ∀ r ∈ rws, x.2 ∉ r := fun r hr hm => by
      have := (hrs r hr).subset hm
      have nd := hnd
      rw [← List.take_append_drop i part, hpd] at nd
      exact (List.nodup_append.mp nd).2.2 _ this _ (by simp) rfl
    have hrl2 : rws.length ≤ 4096 := Nat.le_trans hrl (Nat.le_trans (Nat.pow_le_pow_right (by decide) (show i ≤ 12 by omega)) (by decide))
    have hsl := layStep_len (rows := rows) (told := openN rows part) (c := x.2) (left := part.drop (i + 1)) (rws := rws)
    rw [hpd] at hI
    have hI : layGo rows (openN rows part) (part.drop (i + 1)) (layStep rows (openN rows part) x.2 (part.drop (i + 1)) rws) = layRaw rows part := hI
    have hnd2 := layStep_nd (rows := rows) (told := openN rows part) (left := part.drop (i + 1)) hrn hcn
    have hrs2 : Rws (part.take (i + 1)) (layStep rows (openN rows part) x.2 (part.drop (i + 1)) rws) := by
      have := hrs.step (rows := rows) (told := openN rows part) (c := x.2) (left := part.drop (i + 1))
      rw [List.take_add_one, hx2]; exact this
    have hleft : (part.drop (i + 1)).length ≤ 1000 := by rw [List.length_drop]; omega
    have hsl2 : cutL part (some (x.1 + 1)) none = part.drop (i + 1) := by
      rw [cutL_from (by omega) (by omega)]; congr 1; omega
    generalize hdr : part.drop (i + 1) = left at hI hsl hnd2 hrs2 hleft hsl2
    generalize hfin : layStep rows (openN rows part) x.2 left rws = fin at hI hsl hnd2 hrs2
    refine G_asgN sc_part_layings.nd 6 (φ := lsM []) (EvN.cast (evn_nil (α := List Cell)) rfl) fun z => ?_
    refine go_for (xs := ps) (pm := atM) (S := List (List Cell) × List Addr) (fun t => [some (rp (⟨C.View, rows⟩ : VW)), some (rp part), some (rp (openN rows part)), some (obM (lsM (ps.map atM))), some (rp x.1), some (rp x.2), some (atM z), none, none]) (fun t => (z, lsM (t.2.map atM)) :: (t.2.zip (t.1.map lsO) ++ ps.zip (rws.map lsO))) (fun (ys : List Addr) t => ∃ j, ys = ps.drop j ∧ t.2.length = t.1.length ∧ t.1 ++ layStep rows (openN rows part) x.2 left (rws.drop j) = fin) (fun x s => _) fX_passes rfl (it_list (V 3)) (PN sc_part_layings.nd 7) (fun _ _ => gj_name (vs := [7]) (by decide)) ([], []) ⟨0, by simp, rfl, by simpa using hfin⟩ (Le.of (by repeat (first | exact Lsl.nil | apply Lsl.keep | apply Lsl.drop)) (by first | exact List.Sublist.refl _ | exact List.Sublist.cons _ (List.Sublist.refl _) | exact List.nil_sublist _)) ?_ ?_
    · rintro B2 u2 a ys2 ⟨new, as⟩ ⟨j, hys2, hal, hI2⟩
      simp only at hal hI2
      have hj : j < ps.length := by
        have := congrArg List.length hys2
        rw [List.length_drop] at this
        simp only [List.length_cons] at this
        omega
      rw [List.drop_eq_getElem_cons hj] at hys2
      obtain ⟨ha, hys3⟩ := List.cons.inj hys2
      have hjr : j < rws.length := by omega
      rw [List.drop_eq_getElem_cons hjr] at hI2
      have hmem : (a, lsO rws[j]) ∈ ps.zip (rws.map lsO) := by
        rw [ha]
        exact List.mem_of_getElem? (List.getElem?_zip_eq_some.mpr ⟨List.getElem?_eq_getElem hj, by rw [List.getElem?_map, List.getElem?_eq_getElem hjr]; rfl⟩)
      have hr12' := hr12 _ (List.getElem_mem hjr)
      generalize rws[j] = r at hI2 hmem hr12'
      have hI2 : new ++ (([r, r ++ [x.2]].filter fun r' => stillB rows (openN rows part) r' left) ++ layStep rows (openN rows part) x.2 left (rws.drop (j + 1))) = fin := hI2
      have hnl : new.length ≤ 8192 := by
        have := congrArg List.length hI2
        rw [List.length_append] at this
        omega
      refine go_for (xs := [[], [x.2]]) (S := List (List Cell) × List Addr) (fun t => [some (rp (⟨C.View, rows⟩ : VW)), some (rp part), some (rp (openN rows part)), some (obM (lsM (ps.map atM))), some (rp x.1), some (rp x.2), some (atM z), some (atM a), none]) (fun t => (z, lsM (t.2.map atM)) :: (t.2.zip (t.1.map lsO) ++ ps.zip (rws.map lsO))) (fun (ms : List (List Cell)) t => (∀ m ∈ ms, m.length ≤ 1) ∧ t.2.length = t.1.length ∧ t.1 ++ (((ms.map fun m => r ++ m).filter fun r' => stillB rows (openN rows part) r' left) ++ layStep rows (openN rows part) x.2 left (rws.drop (j + 1))) = fin) (fun x s => _) fX_passes rfl (it_listL (EvN.evl (evn_disp (i_cons (EvN.evl (evn_nil (α := Cell))) (i_cons (EvN.evl (evn_disp (i_cons (V 5) i_nil) (by show 1 ≤ 1000; decide))) i_nil)) (by show 2 ≤ 1000; decide)))) (PN sc_part_layings.nd 8) (fun _ _ => gj_name (vs := [8]) (by decide)) (new, as) ⟨fun m hm => by simp at hm; rcases hm with rfl | rfl <;> simp, hal, by simpa using hI2⟩ (Le.of (by repeat (first | exact Lsl.nil | apply Lsl.keep | apply Lsl.drop)) (by first | exact List.Sublist.refl _ | exact List.Sublist.cons _ (List.Sublist.refl _) | exact List.nil_sublist _)) ?_ ?_
      · rintro B3 u3 m ms ⟨nw, aw⟩ ⟨hm1, hawl, hI3⟩
        simp only at hawl hI3
        have hm := hm1 m (by simp)
        have hml : r.length + m.length ≤ 1000 := by omega
        have hnw : nw.length ≤ 8192 := by
          have := congrArg List.length hI3
          rw [List.length_append] at this
          omega
        have hmem2 : (a, lsO r) ∈ ((z, lsM (aw.map atM)) :: (aw.zip (nw.map lsO) ++ ps.zip (rws.map lsO))) := List.mem_cons_of_mem _ (List.mem_append_right _ hmem)
        refine go_if (et_val (c_can_still (v := ⟨C.View, rows⟩) (told := openN rows part) (chosen := r ++ m) (left := left) (f_can_still T) hr (eva_cons (V 0) (eva_cons (V 2) (eva_cons (EvN.evl (evn_catL (evc_at (V 7) hmem2) (Ev.evcl (V 8)) (by omega))) (eva_cons (by rw [← hsl2]; exact EvN.evl (evn_sliceL (Ev.evcl (V 1)) (eo_some (ev_add (V 4) ev_int)) eo_none)) eva_nil)))) ⟨rfl, vw, htold, by rw [List.length_append]; exact hml, hleft⟩)) (fun h => ?_) (fun h => ?_)
        · refine go_appN 0 (V 6) rfl (evn_catL (evc_at (V 7) hmem2) (Ev.evcl (V 8)) (by omega)) (by rw [List.length_map]; show aw.length < 1000000; omega) fun y => ?_
          refine go_fall (go_end (nw ++ [r ++ m], aw ++ [y]) ⟨fun m' hm' => hm1 m' (by simp [hm']), by simp [hawl], ?_⟩ (Le.trans (Le.of (by repeat (first | exact Lsl.nil | apply Lsl.keep | apply Lsl.drop)) (List.Sublist.refl _)) (Le.snocL hawl)) Up.refl)
          rw [← hI3, List.map_cons, List.filter_cons, if_pos h]; simp
        · refine go_fall (go_end (nw, aw) ⟨fun m' hm' => hm1 m' (by simp [hm']), hawl, ?_⟩ (Le.of (by repeat (first | exact Lsl.nil | apply Lsl.keep | apply Lsl.drop)) (by first | exact List.Sublist.refl _ | exact List.Sublist.cons _ (List.Sublist.refl _) | exact List.nil_sublist _)) Up.refl)
          rw [← hI3, List.map_cons, List.filter_cons, if_neg (by rw [h]; decide)]
      · rintro ⟨nw, aw⟩ ⟨_, hawl, hI3⟩
        exact go_end (nw, aw) ⟨j + 1, hys3, hawl, by simpa using hI3⟩ (Le.of (by repeat (first | exact Lsl.nil | apply Lsl.keep | apply Lsl.drop)) (by first | exact List.Sublist.refl _ | exact List.Sublist.cons _ (List.Sublist.refl _) | exact List.nil_sublist _)) Up.refl
    · rintro ⟨new, as⟩ ⟨j, hys2, hal, hI2⟩
      simp only at hal hI2
      have hj : rws.length ≤ j := by
        have := congrArg List.length hys2
        rw [List.length_drop] at this
        simp only [List.length_nil] at this
        omega
      rw [List.drop_eq_nil_of_le hj] at hI2
      have hI2 : new = fin := by simpa [layStep] using hI2
      subst hI2
      refine go_le_freeze 6 rfl ?_
      refine G_asg sc_part_layings.nd 3 (V 6) ?_
      exact go_end (new, as) ⟨i + 1, hyd, hal, hnd2, hrs2, by rw [Nat.pow_succ]; show new.length ≤ _; omega, by rw [hdr]; exact hI⟩ (Le.of (by repeat (first | exact Lsl.nil | apply Lsl.keep | apply Lsl.drop)) (List.sublist_append_left _ _)) Up.refl
  · rintro ⟨rws, ps⟩ ⟨i, hys, hpl, hrn, hrs, hrl, hI⟩
    simp only at hpl hrn hI
    have hi : part.length ≤ i := by
      have := congrArg List.length hys
      rw [List.length_drop, enumL_len] at this
      simp only [List.length_nil] at this
      omega
    rw [List.drop_eq_nil_of_le hi] at hI
    have hI : rws = layRaw rows part := hI
    refine go_retSort T.bl hu rfl (Ev.evc (V 3)) (List.Sublist.refl _) hpl hrn ?_
    rw [hI]; exact hret
/-! layings -/
def pm_layings_pre (C : Cs)(v : VW) (c : Cell) : Prop := v.C = C.View ∧ Vw v.rows
def pm_layings_ret (C : Cs)(v : VW) (c : Cell) : Hp → Hp → VK → XK → Prop := (layRet C v.rows c)
def pm_layings (C : Cs): Pm ((VW) × (Cell)) := ⟨fun i => [rp i.1, rp i.2], fun i => pm_layings_pre C i.1 i.2, fun i => pm_layings_ret C i.1 i.2⟩
theorem f_layings (T : Facts K mg C) : Cal P Wd K mg base "layings" 8 (spOf (pm_layings C)) := by
  refine cal_go T.d_layings sc_layings (fun _ => rfl) fun f cdv A outer s H H0 Q E i hr hp hret hs => ?_
  obtain ⟨v, c⟩ := i
  have hu := hr.units
  have hu1 : (fX P Wd K mg base N_layings "layings" s_layings f cdv A outer s H E).A.units + 65 < cLine := by have := hr.un; omega
  replace hp : v.C = C.View ∧ Vw v.rows := hp
  replace hret : ((layRet C v.rows c)) H H0 Q E := hret
  show Go _ _ _ ([some (rp v), some (rp c)] ++ List.replicate (N_layings.length - 2) none) [] _ _
  simp only [List.length_cons, List.length_nil, Nat.reduceAdd, Nat.reduceSub, List.replicate, List.cons_append, List.nil_append]
  obtain ⟨VC, rows⟩ := v
  obtain ⟨hC, vw⟩ := hp
  have hC : VC = C.View := hC
  subst hC
  replace vw : Vw rows := vw
  replace hret : layRet C rows c H H0 Q E := hret
  have hmem := fun p (h : (partsOf rows).find? (fun p => decide (c ∈ p)) = some p) => part_mem vw (List.mem_of_find?_eq_some h)
  refine G_asg sc_layings.nd 2 (c_part_of (v := ⟨C.View, rows⟩) (f_part_of T) hr (eva_cons (V 0) (eva_cons (V 1) eva_nil)) ⟨rfl, vw⟩) ?_
  show Go _ _ _ [some (rp (⟨C.View, rows⟩ : VW)), some (rp c), some (optM ((partsOf rows).find? fun p => decide (c ∈ p)))] _ _ _
  unfold layRet at hret
  cases hf : (partsOf rows).find? (fun p => decide (c ∈ p)) with
  | none =>
    rw [hf] at hret
    refine go_if (k := true) (et_isNf (V 2) fun H v f => by have f : v = .non := f; subst f; rfl) (fun _ => ?_) (fun h => by cases h)
    exact go_raise (W := fun cls d _ H => E cls d H) T.e_NoCell rfl fX_takes rfl (by decide) fun B1 u σ H' H0' S => hret H' S.nx.a
  | some p =>
    rw [hf] at hret
    replace hret : (if p.length ≤ 12 then retNL ((playings rows p).map lsO) else retX C.TooGreat) H H0 Q E := hret
    obtain ⟨m1, m2, m3⟩ := hmem p hf
    refine go_if (k := false) (et_isNf (V 2) fun H v f => ls_non H v f) (fun h => by cases h) (fun _ => go_fall ?_)
    by_cases h12 : p.length ≤ 12
    · rw [if_pos h12] at hret
      refine go_retNLe (evnl_call (f_part_layings T) ((⟨C.View, rows⟩, p) : VW × List Cell) (hr.mono (by decide)) rfl (by decide +kernel) (eva_cons (V 0) (eva_cons (P := rp p) (V 2) eva_nil)) ⟨rfl, vw, srt_nd m1, by show p.length ≤ 1000; omega⟩ (fun H H0 Q q => by
        show (if p.length ≤ 12 then retNL _ else retX C.TooGreat) H H0 Q E0
        rw [if_pos h12]; exact q)) hret
    · rw [if_neg h12] at hret
      exact go_ret_rz (rz_call (W := fun cls d _ H => E cls d H) (C := C.TooGreat) (f_part_layings T) ((⟨C.View, rows⟩, p) : VW × List Cell) (hr.mono (by decide)) rfl (by decide +kernel) (eac_cons (V 0) (eac_cons (P := rp p) (V 2) eac_nil)) ⟨rfl, vw, srt_nd m1, by show p.length ≤ 1000; omega⟩ (fun H H0 Q E q => by
        show (if p.length ≤ 12 then retNL _ else retX C.TooGreat) H H0 Q E
        rw [if_neg h12]; exact q)) fX_takes (fun B1 u σ H' H0' S H'' s => hret H'' (S.nx.a.trans s))

end
end DF
namespace DF
open R (rp)
open Dt (toD)
open PySem L2
section
variable {P : Program} {Wd : World} {K : PySem.W.Frag} {mg : Str → Option Value} {base : Heap} {C : Cs}
/-! idle_right -/
def pm_idle_right_pre (C : Cs)(v : VW) : Prop := v.C = C.View ∧ Vw v.rows
def pm_idle_right_ret (C : Cs)(v : VW) : Hp → Hp → VK → XK → Prop := retV (rp (idleB v.rows))
def pm_idle_right (C : Cs): Pm (VW) := ⟨fun i => [rp i], fun i => pm_idle_right_pre C i, fun i => pm_idle_right_ret C i⟩
theorem f_idle_right (T : Facts K mg C) : Cal P Wd K mg base "idle_right" 5 (spOf (pm_idle_right C)) := by
  refine cal_go T.d_idle_right sc_idle_right (fun _ => rfl) fun f cdv A outer s H H0 Q E v hr hp hret hs => ?_
  have hu := hr.units
  have hu1 : (fX P Wd K mg base N_idle_right "idle_right" s_idle_right f cdv A outer s H E).A.units + 65 < cLine := by have := hr.un; omega
  replace hp : v.C = C.View ∧ Vw v.rows := hp
  replace hret : (retV (rp (idleB v.rows))) H H0 Q E := hret
  show Go _ _ _ ([some (rp v)] ++ List.replicate (N_idle_right.length - 1) none) [] _ _
  simp only [List.length_cons, List.length_nil, Nat.reduceAdd, Nat.reduceSub, List.replicate, List.cons_append, List.nil_append]
  obtain ⟨VC, rows⟩ := v
  obtain ⟨hC, vw⟩ := hp
  have hC : VC = C.View := hC
  subst hC
  replace vw : Vw rows := vw
  replace hret : retV (rp (idleB rows)) H H0 Q E := hret
  refine G_asg sc_idle_right.nd 1 (P := rp (openN rows (closedOf rows))) (EvN.evl (c_open_near (v := ⟨C.View, rows⟩) (f_open_near T) hr (eva_cons (V 0) (eva_cons (EvN.evl (c_closed (v := ⟨C.View, rows⟩) (f_closed T) hr (eva_cons (V 0) eva_nil) ⟨rfl, vw⟩)) eva_nil)) ⟨rfl, vw, Nat.le_trans (closed_len vw) (by decide)⟩)) ?_
  refine go_for (S := Unit) (fun s => [some (rp (⟨C.View, rows⟩ : VW)), some (rp (openN rows (closedOf rows))), none]) (fun s => []) (fun (ys : List Cell) s => (∀ y ∈ ys, y ∈ allCells (hOf rows) (wOf rows)) ∧ idleB rows = ys.all (idleC rows (openN rows (closedOf rows)))) (fun x s => _) fX_passes rfl (it_listL (EvN.evl (c_m_cells (v := ⟨C.View, rows⟩) (f_m_cells T) hr (V 0) ⟨rfl, vw⟩))) (PN sc_idle_right.nd 2) (fun _ _ => gj_name (vs := [2]) (by decide)) () ⟨fun y hy => hy, rfl⟩ (Le.of (by repeat (first | exact Lsl.nil | apply Lsl.keep | apply Lsl.drop)) (by first | exact List.Sublist.refl _ | exact List.Sublist.cons _ (List.Sublist.refl _) | exact List.nil_sublist _)) ?_ ?_
  · rintro B1 u x ys s ⟨hy, hI⟩
    have hx := (inF_cells vw.dim).mpr (hy x (by simp))
    refine go_if (k := !idleC rows (openN rows (closedOf rows)) x) ?_ (fun h => ?_) (fun h => ?_)
    · cases hh : hid rows x with
      | true =>
        refine EvT.cast (et_w (ew_and (l := false) (et_not (et_val (c_m_hidden (v := ⟨C.View, rows⟩) (f_m_hidden T) hr (V 0) (eva_cons (V 2) eva_nil) ⟨rfl, vw, hx⟩))) fun h => ?_)) ?_
        · replace h : (!hid rows x) = true := h
          rw [hh] at h; cases h
        · show (!hid rows x && false) = _
          unfold idleC; rw [hh]; rfl
      | false =>
        refine EvT.cast (et_w (ew_and (et_not (et_val (c_m_hidden (v := ⟨C.View, rows⟩) (f_m_hidden T) hr (V 0) (eva_cons (V 2) eva_nil) ⟨rfl, vw, hx⟩))) fun h => (ew_and (et_ni (α := Cell) (Ev.evd (V 2)) (Ev.evd (V 1)) hu1 ⟨trivial, trivial⟩ (fun _ _ => ⟨trivial, trivial⟩) (by decide) (bm_plain rfl)) fun _ => (ew_and1 (et_neI (c_m_figure (v := ⟨C.View, rows⟩) (f_m_figure T) hr (V 0) (eva_cons (V 2) eva_nil) ⟨rfl, vw, hx, hh⟩) ev_int))))) ?_
        show (!hid rows x && (!decide (x ∈ openN rows (closedOf rows)) && !decide ((figN rows x : Int) = 0))) = _
        unfold idleC
        rw [Bool.not_not]
        congr 3
        rw [Bool.eq_iff_iff, decide_eq_true_iff, decide_eq_true_iff]
        omega
    · have h : idleC rows (openN rows (closedOf rows)) x = false := by simpa using h
      rw [List.all_cons, h, Bool.false_and] at hI
      rw [hI] at hret
      exact go_ret ev_bl (rt_up u hret)
    · have h : idleC rows (openN rows (closedOf rows)) x = true := by simpa using h
      rw [List.all_cons, h, Bool.true_and] at hI
      exact go_fall (go_end () ⟨fun y hy' => hy y (by simp [hy']), hI⟩ (Le.of (by repeat (first | exact Lsl.nil | apply Lsl.keep | apply Lsl.drop)) (by first | exact List.Sublist.refl _ | exact List.Sublist.cons _ (List.Sublist.refl _) | exact List.nil_sublist _)) Up.refl)
  · rintro s ⟨_, hI⟩
    have hI : idleB rows = true := by simpa using hI
    rw [hI] at hret
    exact go_ret ev_bl (rt_of hret)
theorem c_idle_right {X : Cx} {ρ : En} {ω : Ow} {e : Expr} {es : List Expr} {p pos : Pos} {l : Nat} {v : VW} (G : Cal X.prog X.w X.K X.mg X.base "idle_right" 5 (spOf (pm_idle_right C))) (hr : Room l X.A) (ha : EvA X ρ ω (e :: es) [rp v]) (hk : v.C = C.View ∧ Vw v.rows) (hl : 5 ≤ l := by decide) (hg : Gl X "idle_right" := by rfl)
    (he : starEach (e :: es) X.env = (false, eval e X.env) :: starEach es X.env := by exact se_cons rfl) (hpl : (backTo pos (starEach es X.env)).any (·.1) = false := by exact se_any rfl) : Ev X ρ ω (.Call (.Name "idle_right" p) (e :: es) [] pos) (rp (idleB v.rows)) :=
  ev_call G v (hr.mono hl) hg (by decide +kernel) ha hk (fun _ _ _ q => q) he hpl
/-! joined -/
def pm_joined_pre (one : DI) (other : DI) : Prop := JoinOk one.kvs other.kvs
def pm_joined_ret (one : DI) (other : DI) : Hp → Hp → VK → XK → Prop := retN (diO (joinedI one.kvs other.kvs))
def pm_joined : Pm ((DI) × (DI)) := ⟨fun i => [rp i.1, rp i.2], fun i => pm_joined_pre i.1 i.2, fun i => pm_joined_ret i.1 i.2⟩
theorem f_joined (T : Facts K mg C) : Cal P Wd K mg base "joined" 1 (spOf pm_joined) := by
  refine cal_go T.d_joined sc_joined (fun _ => rfl) fun f cdv A outer s H H0 Q E i hr hp hret hs => ?_
  obtain ⟨one, other⟩ := i
  have hu := hr.units
  have hu1 : (fX P Wd K mg base N_joined "joined" s_joined f cdv A outer s H E).A.units + 65 < cLine := by have := hr.un; omega
  replace hp : JoinOk one.kvs other.kvs := hp
  replace hret : (retN (diO (joinedI one.kvs other.kvs))) H H0 Q E := hret
  show Go _ _ _ ([some (rp one), some (rp other)] ++ List.replicate (N_joined.length - 2) none) [] _ _
  simp only [List.length_cons, List.length_nil, Nat.reduceAdd, Nat.reduceSub, List.replicate, List.cons_append, List.nil_append]
  obtain ⟨one⟩ := one
  obtain ⟨other⟩ := other
  obtain ⟨p1, p2, hb⟩ := hp
  replace p1 : Poly 2000 one := p1
  replace p2 : Poly 2000 other := p2
  replace hb : ∀ k, -(2 ^ 64) < igI other k ∧ igI other k < 2 ^ 64 := hb
  replace hret : GoodN (diO (joinedI one other)) H H0 Q := hret
  refine go_lock2 (k1 := one) (k2 := other) (fin := joinedI one other) (n := 3) rfl hret fun Hl Dl hend => ?_
  show Go _ _ _ [some (lkM one), some (lkM other), none, none, none] _ _ _
  refine G_asgN sc_joined.nd 2 evn_dnewI fun q => ?_
  refine go_for (xs := keysI one) (S := ID) (fun f => [some (lkM one), some (lkM other), some (atM q), none, none]) (fun f => [(q, diO f)]) (fun (ys : List Int) f => (∀ y ∈ ys, y ∈ keysI one) ∧ Poly (2000 + 2000) f ∧ ys.foldl (joinStep one other) f = joinedI one other) (fun x s => _) fX_passes rfl (it_lkeys (V 0)) (PN sc_joined.nd 3) (fun _ _ => gj_name (vs := [3]) (by decide)) [] ⟨fun y hy => hy, poly_nil, rfl⟩ (Le.of (by repeat (first | exact Lsl.nil | apply Lsl.keep | apply Lsl.drop)) (by first | exact List.Sublist.refl _ | exact List.Sublist.cons _ (List.Sublist.refl _) | exact List.nil_sublist _)) ?_ ?_
  · rintro B1 u x ys f ⟨hin, hf, hI⟩
    have hx := hin x (by simp)
    have hxr := p1.rng x hx
    refine go_for (xs := keysI other) (S := ID) (fun f => [some (lkM one), some (lkM other), some (atM q), some (rp x), none]) (fun f => [(q, diO f)]) (fun (ms : List Int) f2 => (∀ y ∈ ms, y ∈ keysI other) ∧ Poly (2000 + 2000) f2 ∧ ms.foldl (fun f m => ipI f (x + m) (igI f (x + m) + igI one x * igI other m)) f2 = joinStep one other f x) (fun x s => _) fX_passes rfl (it_lkeys (V 1)) (PN sc_joined.nd 4) (fun _ _ => gj_name (vs := [4]) (by decide)) f ⟨fun y hy => hy, hf, rfl⟩ (Le.of (by repeat (first | exact Lsl.nil | apply Lsl.keep | apply Lsl.drop)) (by first | exact List.Sublist.refl _ | exact List.Sublist.cons _ (List.Sublist.refl _) | exact List.nil_sublist _)) ?_ ?_
    · rintro B2 u2 m ms f2 ⟨hin2, hf2, hI2⟩
      have hm := hin2 m (by simp)
      have hmr := p2.rng m hm
      have hl := hf2.len
      refine go_iput (kvs := f2) hu 0 (V 2) rfl (ev_add (V 3) (V 4)) (ev_add (ev_iget hu (VO 2) (ev_add (V 3) (V 4)) ev_int) (ev_mul (ev_lget hu (V 0) (V 3) (iv_in hx)) (ev_lget hu (V 1) (V 4) (iv_in hm)) (.inr (hb m)))) (by omega) ?_
      exact go_end (ipI f2 (x + m) (igI f2 (x + m) + igI one x * igI other m)) ⟨fun y hy => hin2 y (by simp [hy]), hf2.put (by omega), hI2⟩ (Le.of (by repeat (first | exact Lsl.nil | apply Lsl.keep | apply Lsl.drop)) (by first | exact List.Sublist.refl _ | exact List.Sublist.cons _ (List.Sublist.refl _) | exact List.nil_sublist _)) Up.refl
    · rintro f2 ⟨_, hf2, hI2⟩
      have hI2 : f2 = joinStep one other f x := hI2
      exact go_end f2 ⟨fun y hy => hin y (by simp [hy]), hf2, by rw [hI2]; exact hI⟩ (Le.of (by repeat (first | exact Lsl.nil | apply Lsl.keep | apply Lsl.drop)) (by first | exact List.Sublist.refl _ | exact List.Sublist.cons _ (List.Sublist.refl _) | exact List.nil_sublist _)) Up.refl
  · rintro f ⟨_, _, hI⟩
    have hI : f = joinedI one other := hI
    subst hI
    exact G_retO 2 (φ := diO (joinedI one other)) (fun p o H' H0' n hp h0 h' f => hend p H' n.a hp (by rw [h', show o = .dK (kI (joinedI one other)) from f]))
theorem c_joined {X : Cx} {ρ : En} {ω : Ow} {e : Expr} {es : List Expr} {p pos : Pos} {l : Nat} {one : DI} {other : DI} (G : Cal X.prog X.w X.K X.mg X.base "joined" 1 (spOf pm_joined)) (hr : Room l X.A) (ha : EvA X ρ ω (e :: es) [rp one, rp other]) (hk : JoinOk one.kvs other.kvs) (hl : 1 ≤ l := by decide) (hg : Gl X "joined" := by rfl)
    (he : starEach (e :: es) X.env = (false, eval e X.env) :: starEach es X.env := by exact se_cons rfl) (hpl : (backTo pos (starEach es X.env)).any (·.1) = false := by exact se_any rfl) : EvN X ρ ω (.Call (.Name "joined" p) (e :: es) [] pos) (diO (joinedI one.kvs other.kvs)) :=
  evn_call G (one, other) (hr.mono hl) hg (by decide +kernel) ha hk (fun _ _ _ q => q) he hpl
/-! choices -/
def pm_choices_pre (many : Int) : Prop := 0 ≤ many ∧ many ≤ 36
def pm_choices_ret (many : Int) : Hp → Hp → VK → XK → Prop := retV (rp (⟨choicesI many.toNat⟩ : DI))
def pm_choices : Pm (Int) := ⟨fun i => [rp i], fun i => pm_choices_pre i, fun i => pm_choices_ret i⟩
theorem f_choices (T : Facts K mg C) : Cal P Wd K mg base "choices" 2 (spOf pm_choices) := by
  refine cal_go T.d_choices sc_choices (fun _ => rfl) fun f cdv A outer s H H0 Q E many hr hp hret hs => ?_
  have hu := hr.units
  have hu1 : (fX P Wd K mg base N_choices "choices" s_choices f cdv A outer s H E).A.units + 65 < cLine := by have := hr.un; omega
  replace hp : 0 ≤ many ∧ many ≤ 36 := hp
  replace hret : (retV (rp (⟨choicesI many.toNat⟩ : DI))) H H0 Q E := hret
  show Go _ _ _ ([some (rp many)] ++ List.replicate (N_choices.length - 1) none) [] _ _
  simp only [List.length_cons, List.length_nil, Nat.reduceAdd, Nat.reduceSub, List.replicate, List.cons_append, List.nil_append]
  refine G_asg sc_choices.nd 1 (P := rp (⟨choicesI 0⟩ : DI)) (EvN.ev (φ := diO (choicesI 0)) (evn_d1 ev_int ev_int)) ?_
  refine go_for (S := Nat) (fun j => [some (rp many), some (rp (⟨choicesI j⟩ : DI)), none]) (fun s => []) (fun (ys : List Int) j => j ≤ many.toNat ∧ ys = (irange 0 many.toNat).drop j) (fun x s => _) fX_passes rfl (it_range1 T.bl rfl (V 0) (by omega) (by omega)) (PN sc_choices.nd 2) (fun _ _ => gj_name (vs := [2]) (by decide)) 0 ⟨Nat.zero_le _, rfl⟩ (Le.of (by repeat (first | exact Lsl.nil | apply Lsl.keep | apply Lsl.drop)) (by first | exact List.Sublist.refl _ | exact List.Sublist.cons _ (List.Sublist.refl _) | exact List.nil_sublist _)) ?_ ?_
  · rintro B1 u x ys j ⟨hj, hy⟩
    have hjl : j < many.toNat := by
      have := congrArg List.length hy
      rw [List.length_drop, irange_len] at this
      simp only [List.length_cons] at this
      omega
    have hix : j < (irange 0 many.toNat).length := by rw [irange_len]; exact hjl
    rw [List.drop_eq_getElem_cons hix] at hy
    obtain ⟨_, hys⟩ := List.cons.inj hy
    refine G_asg sc_choices.nd 1 (P := rp (⟨choicesI (j + 1)⟩ : DI)) (EvN.ev (φ := diO (choicesI (j + 1))) (c_joined (one := ⟨choicesI j⟩) (other := ⟨[(0, 1), (1, 1)]⟩) (f_joined T) hr (eva_cons (V 1) (eva_cons (EvN.ev (φ := diO [(0, 1), (1, 1)]) (evn_d2 (by decide) ev_int ev_int ev_int ev_int)) eva_nil)) ⟨(choices_poly j).mono (by omega), poly01.mono (by decide), fun k => ?_⟩)) ?_
    · rw [ig01]
      show -(2 ^ 64) < dlt k + dlt (k - 1) ∧ dlt k + dlt (k - 1) < 2 ^ 64
      unfold dlt
      split <;> split <;> omega
    exact go_end (j + 1) ⟨hjl, hys⟩ (Le.of (by repeat (first | exact Lsl.nil | apply Lsl.keep | apply Lsl.drop)) (by first | exact List.Sublist.refl _ | exact List.Sublist.cons _ (List.Sublist.refl _) | exact List.nil_sublist _)) Up.refl
  · rintro j ⟨hj, hy⟩
    have hjl : many.toNat ≤ j := by
      have := congrArg List.length hy
      rw [List.length_drop, irange_len] at this
      simp only [List.length_nil] at this
      omega
    have : j = many.toNat := by omega
    subst this
    exact go_ret (V 1) (rt_of hret)
theorem c_choices {X : Cx} {ρ : En} {ω : Ow} {e : Expr} {es : List Expr} {p pos : Pos} {l : Nat} {many : Int} (G : Cal X.prog X.w X.K X.mg X.base "choices" 2 (spOf pm_choices)) (hr : Room l X.A) (ha : EvA X ρ ω (e :: es) [rp many]) (hk : 0 ≤ many ∧ many ≤ 36) (hl : 2 ≤ l := by decide) (hg : Gl X "choices" := by rfl)
    (he : starEach (e :: es) X.env = (false, eval e X.env) :: starEach es X.env := by exact se_cons rfl) (hpl : (backTo pos (starEach es X.env)).any (·.1) = false := by exact se_any rfl) : Ev X ρ ω (.Call (.Name "choices" p) (e :: es) [] pos) (rp (⟨choicesI many.toNat⟩ : DI)) :=
  ev_call G many (hr.mono hl) hg (by decide +kernel) ha hk (fun _ _ _ q => q) he hpl
/-! by_stones -/
def pm_by_stones_pre (C : Cs)(v : VW) (w : Option Cell) : Prop := v.C = C.View ∧ Vw v.rows
def pm_by_stones_ret (C : Cs)(v : VW) (w : Option Cell) : Hp → Hp → VK → XK → Prop := (if small v.rows = true then retN (diO (bstones v.rows w)) else retX C.TooGreat)
def pm_by_stones (C : Cs): Pm ((VW) × (Option Cell)) := ⟨fun i => [rp i.1, rp i.2], fun i => pm_by_stones_pre C i.1 i.2, fun i => pm_by_stones_ret C i.1 i.2⟩
theorem f_by_stones (T : Facts K mg C) : Cal P Wd K mg base "by_stones" 7 (spOf (pm_by_stones C)) := by
  refine cal_go T.d_by_stones sc_by_stones (fun _ => rfl) fun f cdv A outer s H H0 Q E i hr hp hret hs => ?_
  obtain ⟨v, w⟩ := i
  have hu := hr.units
  have hu1 : (fX P Wd K mg base N_by_stones "by_stones" s_by_stones f cdv A outer s H E).A.units + 65 < cLine := by have := hr.un; omega
  replace hp : v.C = C.View ∧ Vw v.rows := hp
  replace hret : ((if small v.rows = true then retN (diO (bstones v.rows w)) else retX C.TooGreat)) H H0 Q E := hret
  show Go _ _ _ ([some (rp v), some (rp w)] ++ List.replicate (N_by_stones.length - 2) none) [] _ _
  simp only [List.length_cons, List.length_nil, Nat.reduceAdd, Nat.reduceSub, List.replicate, List.cons_append, List.nil_append]
  obtain ⟨VC, rows⟩ := v
  obtain ⟨hC, vw⟩ := hp
  have hC : VC = C.View := hC
  subst hC
  replace vw : Vw rows := vw
  replace hret : (if small rows = true then retN (diO (bstones rows w)) else retX C.TooGreat) H H0 Q E := hret
  have hfl := far_len vw
  have hbp : bparts rows w = bfold rows w (partsOf rows) [(0, b01 (idleB rows))] := rfl
  have hbs : bstones rows w = if inO w (farOf rows) then joinedI (joinedI (bparts rows w) (choicesI ((farOf rows).length - 1))) [(1, 1)] else joinedI (bparts rows w) (choicesI (farOf rows).length) := rfl
  refine G_asg sc_by_stones.nd 2 (P := rp (⟨[(0, b01 (idleB rows))]⟩ : DI)) (EvN.ev (φ := diO [(0, b01 (idleB rows))]) (evn_d1 ev_int (Ev.cast (ev_intB T.bl rfl (c_idle_right (v := ⟨C.View, rows⟩) (f_idle_right T) hr (eva_cons (V 0) eva_nil) ⟨rfl, vw⟩)) (by cases idleB rows <;> rfl)))) ?_
  refine go_for (xs := partsOf rows) (S := ID) (fun f => [some (rp (⟨C.View, rows⟩ : VW)), some (rp w), some (rp (⟨f⟩ : DI)), none, none, none, none, none]) (fun f => []) (fun (ys : List (List Cell)) f => (∀ p ∈ ys, p ∈ partsOf rows) ∧ small rows = ys.all (fun p => decide (p.length ≤ 12)) ∧ (∃ N, Poly N f ∧ N + (ys.map List.length).sum ≤ 1296) ∧ bfold rows w ys f = bparts rows w) (fun x s => _) fX_passes rfl (it_listL (EvN.evl (EvNL.evn (evnl_call (f_parts T) (⟨C.View, rows⟩ : VW) (hr.mono (by decide)) rfl (by decide +kernel) (eva_cons (V 0) eva_nil) ⟨rfl, vw⟩ (fun H H0 Q q => q))))) (PN sc_by_stones.nd 3) (fun _ _ => gj_name (vs := [3]) (by decide)) [(0, b01 (idleB rows))] ⟨fun p hp => hp, rfl, ⟨0, poly0, by have := parts_sum vw; omega⟩, hbp.symm⟩ (Le.of (by repeat (first | exact Lsl.nil | apply Lsl.keep | apply Lsl.drop)) (by first | exact List.Sublist.refl _ | exact List.Sublist.cons _ (List.Sublist.refl _) | exact List.nil_sublist _)) ?_ ?_
  · rintro B1 u x ys f ⟨hin, hsm, ⟨N, hf, hN⟩, hI⟩
    obtain ⟨m1, m2, m3⟩ := part_mem vw (hin x (by simp))
    rw [List.map_cons, List.sum_cons] at hN
    by_cases h12 : x.length ≤ 12
    rotate_left
    · rw [List.all_cons, decide_eq_false h12, Bool.false_and] at hsm
      rw [hsm, if_neg (by decide)] at hret
      exact G_asg_rz (W := fun cls d _ H => E cls d H) (C := C.TooGreat) sc_by_stones.nd 4 (rz_call (f_part_layings T) ((⟨C.View, rows⟩, x) : VW × List Cell) (hr.mono (by decide)) rfl (by decide +kernel) (eac_cons (V 0) (eac_cons (V 3) eac_nil)) ⟨rfl, vw, srt_nd m1, by show x.length ≤ 1000; omega⟩ (fun H H0 Q E q => by
        show (if x.length ≤ 12 then retNL _ else retX C.TooGreat) H H0 Q E
        rw [if_neg h12]; exact q)) fX_takes (fun B2 u2 σ H' H0' S H'' s => hret H'' ((u _ _ (u2 _ _ S.nx)).a.trans s))
    rw [List.all_cons, decide_eq_true h12, Bool.true_and] at hsm
    have hpl := playings_len (rows := rows) (part := x) h12
    refine G_asg sc_by_stones.nd 4 (P := rp (playings rows x)) (EvN.evl (EvNL.evn (evnl_call (f_part_layings T) ((⟨C.View, rows⟩, x) : VW × List Cell) (hr.mono (by decide)) rfl (by decide +kernel) (eva_cons (V 0) (eva_cons (V 3) eva_nil)) ⟨rfl, vw, srt_nd m1, by show x.length ≤ 1000; omega⟩ (fun H H0 Q q => by
        show (if x.length ≤ 12 then retNL ((playings rows x).map lsO) else retX C.TooGreat) H H0 Q E0
        rw [if_pos h12]; exact q)))) ?_
    have hI : bfold rows w ys (joinedI f (countsI (partRows rows w x))) = bparts rows w := hI
    obtain ⟨pr1, pr2⟩ := partRows_len (rows := rows) (w := w) (p := x)
    have hpr : partRows rows w x = if inO w x then (playings rows x).filter (inO w) else playings rows x := rfl
    refine go_joinF (ι := List (List Cell)) (I := fun rws => rws = partRows rows w x) (ω' := []) (fun rws => [some (rp (⟨C.View, rows⟩ : VW)), some (rp w), some (rp (⟨f⟩ : DI)), some (rp x), some (rp rws), none, none, none]) (fun rws hrw => ?_) (fun key => ?_)
    rotate_left
    · refine go_if (et_inO (V 1) (Ev.evd (V 3)) hu1) (fun h => ?_) (fun h => ?_)
      · refine G_lc1 sc_by_stones.nd 4 (own := [("row", 6)]) (f := fun x => x) (keep := inO w) rfl (it_listC (Ev.evcl (V 4))) (by omega) (blkOk_by (by rfl)) (fun _ _ _ _ _ => PN sc_by_stones.nd 6) (fun _ => gj_name (by decide)) (fun _ _ _ _ _ r hr => (et_inO (V 1) (Ev.evd (V 6)) hu1)) (fun _ _ _ _ _ r hr _ => (V 6)) ?_
        rw [List.map_id']
        exact go_fall ((key _ (by rw [hpr, if_pos h])).le (Le.of (by repeat (first | exact Lsl.nil | apply Lsl.keep | apply Lsl.drop)) (by first | exact List.Sublist.refl _ | exact List.Sublist.cons _ (List.Sublist.refl _) | exact List.nil_sublist _)))
      · exact go_fall ((key _ (by rw [hpr, if_neg (by rw [h]; decide)])).le (Le.of (by repeat (first | exact Lsl.nil | apply Lsl.keep | apply Lsl.drop)) (by first | exact List.Sublist.refl _ | exact List.Sublist.cons _ (List.Sublist.refl _) | exact List.nil_sublist _)))
    rw [← hrw] at hI pr1 pr2
    clear hrw hpr
    refine G_asgN sc_by_stones.nd 5 evn_dnewI fun a => ?_
    refine go_for (S := ID) (fun c => [some (rp (⟨C.View, rows⟩ : VW)), some (rp w), some (rp (⟨f⟩ : DI)), some (rp x), some (rp rws), some (atM a), none, none]) (fun c => [(a, diO c)]) (fun (rs : List (List Cell)) c => (∀ r ∈ rs, r.length ≤ x.length) ∧ Poly x.length c ∧ rs.foldl cntStep c = countsI rws) (fun x s => _) fX_passes rfl (it_listL (V 4)) (PN sc_by_stones.nd 6) (fun _ _ => gj_name (vs := [6]) (by decide)) [] ⟨pr1, poly_nil, rfl⟩ (Le.of (by repeat (first | exact Lsl.nil | apply Lsl.keep | apply Lsl.drop)) (by first | exact List.Sublist.refl _ | exact List.Sublist.cons _ (List.Sublist.refl _) | exact List.nil_sublist _)) ?_ ?_
    · rintro B2 u2 r rs c ⟨hrl, hc, hC⟩
      have hr1 := hrl r (by simp)
      have hcl := hc.len
      refine go_iput (kvs := c) hu 0 (V 5) rfl (ev_lenL T.bl rfl (Ev.evcl (V 6))) (ev_add (ev_iget hu (VO 5) (ev_lenL T.bl rfl (Ev.evcl (V 6))) ev_int) ev_int) (by omega) ?_
      exact go_end (cntStep c r) ⟨fun y hy => hrl y (by simp [hy]), hc.put (by omega), hC⟩ (Le.of (by repeat (first | exact Lsl.nil | apply Lsl.keep | apply Lsl.drop)) (by first | exact List.Sublist.refl _ | exact List.Sublist.cons _ (List.Sublist.refl _) | exact List.nil_sublist _)) Up.refl
    · rintro c ⟨_, hc, hC⟩
      have hC : c = countsI rws := hC
      subst hC
      refine go_le_freeze 5 rfl ?_
      refine G_asg sc_by_stones.nd 2 (P := rp (⟨joinedI f (countsI rws)⟩ : DI)) (EvN.ev (φ := diO (joinedI f (countsI rws))) (c_joined (one := ⟨f⟩) (other := ⟨countsI rws⟩) (f_joined T) hr (eva_cons (V 2) (eva_cons (P := rp (⟨countsI rws⟩ : DI)) (V 5) eva_nil)) ⟨hf.mono (by omega), hc.mono (by omega), counts_bd (by omega)⟩)) ?_
      exact go_end (joinedI f (countsI rws)) ⟨fun p hp => hin p (by simp [hp]), hsm, ⟨N + x.length, joined_poly hf hc, by omega⟩, hI⟩ (Le.of (by repeat (first | exact Lsl.nil | apply Lsl.keep | apply Lsl.drop)) (by first | exact List.Sublist.refl _ | exact List.Sublist.cons _ (List.Sublist.refl _) | exact List.nil_sublist _)) Up.refl
  · rintro f ⟨_, hsm, ⟨N, hf, hN⟩, hI⟩
    have hsm : small rows = true := hsm
    have hI : f = bparts rows w := hI
    rw [hsm, if_pos rfl] at hret
    simp only [List.map_nil, List.sum_nil] at hN
    rw [hbs, ← hI] at hret
    have hchp := choices_poly (farOf rows).length
    have hchp1 := choices_poly ((farOf rows).length - 1)
    refine G_asg sc_by_stones.nd 7 (P := rp (farOf rows)) (EvN.evl (c_far (v := ⟨C.View, rows⟩) (f_far T) hr (eva_cons (V 0) eva_nil) ⟨rfl, vw⟩)) ?_
    refine go_if (et_inO (V 1) (Ev.evd (V 7)) hu1) (fun h => ?_) (fun h => ?_)
    · rw [if_pos h] at hret
      have hf1 : 1 ≤ (farOf rows).length := by
        cases w with
        | none => cases h
        | some c => exact List.length_pos_of_mem (of_decide_eq_true h)
      have ech : choicesI ((((farOf rows).length : Int) - 1).toNat) = choicesI ((farOf rows).length - 1) := by congr 1; omega
      refine go_retN (c_joined (one := ⟨joinedI f (choicesI ((farOf rows).length - 1))⟩) (other := ⟨[(1, 1)]⟩) (f_joined T) hr (eva_cons (EvN.ev (φ := diO (joinedI f (choicesI ((farOf rows).length - 1)))) (c_joined (one := ⟨f⟩) (other := ⟨choicesI ((farOf rows).length - 1)⟩) (f_joined T) hr (eva_cons (V 2) (eva_cons (Ev.cast (c_choices (f_choices T) hr (eva_cons (ev_sub (ev_lenL T.bl rfl (Ev.evcl (V 7))) ev_int) eva_nil) (by omega)) (by rw [ech])) eva_nil)) ⟨hf.mono (by omega), hchp1.mono (by omega), choices_bd (by omega)⟩)) (eva_cons (EvN.ev (φ := diO [(1, 1)]) (evn_d1 ev_int ev_int)) eva_nil)) ⟨(joined_poly hf hchp1).mono (by omega), poly1.mono (by decide), fun k => ?_⟩) (rtN_of hret)
      rw [ig1]
      show -(2 ^ 64) < dlt (k - 1) ∧ dlt (k - 1) < 2 ^ 64
      unfold dlt
      split <;> omega
    · rw [if_neg (by rw [h]; decide)] at hret
      exact go_fall (go_retN (c_joined (one := ⟨f⟩) (other := ⟨choicesI (farOf rows).length⟩) (f_joined T) hr (eva_cons (V 2) (eva_cons (Ev.cast (c_choices (f_choices T) hr (eva_cons (ev_lenL T.bl rfl (Ev.evcl (V 7))) eva_nil) (by omega)) (by rw [Int.toNat_natCast])) eva_nil)) ⟨hf.mono (by omega), hchp.mono (by omega), choices_bd (by omega)⟩) (rtN_of hret))
/-! count -/
def pm_count_pre (C : Cs)(v : VW) (k : Int) : Prop := v.C = C.View ∧ Vw v.rows
def pm_count_ret (C : Cs)(v : VW) (k : Int) : Hp → Hp → VK → XK → Prop := (if small v.rows = true then retV (rp (igI (bstones v.rows none) k)) else retX C.TooGreat)
def pm_count (C : Cs): Pm ((VW) × (Int)) := ⟨fun i => [rp i.1, rp i.2], fun i => pm_count_pre C i.1 i.2, fun i => pm_count_ret C i.1 i.2⟩
theorem f_count (T : Facts K mg C) : Cal P Wd K mg base "count" 8 (spOf (pm_count C)) := by
  refine cal_go T.d_count sc_count (fun _ => rfl) fun f cdv A outer s H H0 Q E i hr hp hret hs => ?_
  obtain ⟨v, k⟩ := i
  have hu := hr.units
  have hu1 : (fX P Wd K mg base N_count "count" s_count f cdv A outer s H E).A.units + 65 < cLine := by have := hr.un; omega
  replace hp : v.C = C.View ∧ Vw v.rows := hp
  replace hret : ((if small v.rows = true then retV (rp (igI (bstones v.rows none) k)) else retX C.TooGreat)) H H0 Q E := hret
  show Go _ _ _ ([some (rp v), some (rp k)] ++ List.replicate (N_count.length - 2) none) [] _ _
  simp only [List.length_cons, List.length_nil, Nat.reduceAdd, Nat.reduceSub, List.replicate, List.cons_append, List.nil_append]
  obtain ⟨VC, rows⟩ := v
  obtain ⟨hC, vw⟩ := hp
  have hC : VC = C.View := hC
  subst hC
  replace vw : Vw rows := vw
  replace hret : (if small rows = true then retV (rp (igI (bstones rows none) k)) else retX C.TooGreat) H H0 Q E := hret
  by_cases hsm : small rows = true
  · rw [if_pos hsm] at hret
    exact go_ret (ev_iget (kvs := bstones rows none) hu (EvN.evc (evn_call (f_by_stones T) ((⟨C.View, rows⟩, none) : VW × Option Cell) (hr.mono (by decide)) rfl (by decide +kernel) (eva_cons (V 0) (eva_cons (P := rp (none : Option Cell)) ev_non eva_nil)) ⟨rfl, vw⟩ (fun H H0 Q q => by
      show (if small rows = true then retN _ else retX C.TooGreat) H H0 Q E0
      rw [if_pos hsm]; exact q))) (V 1) ev_int) (rt_of hret)
  · rw [if_neg hsm] at hret
    exact go_ret_rz (W := fun cls d _ H => E cls d H) (C := C.TooGreat) (rz_iget hu (rz_call (f_by_stones T) ((⟨C.View, rows⟩, none) : VW × Option Cell) (hr.mono (by decide)) rfl (by decide +kernel) (eac_cons (V 0) (eac_cons (P := rp (none : Option Cell)) ev_non eac_nil)) ⟨rfl, vw⟩ (fun H H0 Q E q => by
      show (if small rows = true then retN _ else retX C.TooGreat) H H0 Q E
      rw [if_neg hsm]; exact q))) fX_takes (fun B1 u σ H' H0' S H'' s => hret H'' (S.nx.a.trans s))

end
end DF
namespace DF
open R (rp)
open Dt (toD)
open PySem L2
section
variable {P : Program} {Wd : World} {K : PySem.W.Frag} {mg : Str → Option Value} {base : Heap} {C : Cs}
def totL (rows : List Tx) : List Int := if small rows = true then cntsOf rows else []
/-! _law_total -/
def pm_law_total_pre (C : Cs)(v : VW) : Prop := v.C = C.View ∧ Vw v.rows
def pm_law_total_ret (C : Cs)(v : VW) : Hp → Hp → VK → XK → Prop := retN (lsO (totL v.rows))
def pm_law_total (C : Cs): Pm (VW) := ⟨fun i => [rp i], fun i => pm_law_total_pre C i, fun i => pm_law_total_ret C i⟩
theorem f_law_total (T : Facts K mg C) : Cal P Wd K mg base "_law_total" 9 (spOf (pm_law_total C)) := by
  refine cal_go T.d__law_total sc__law_total (fun _ => rfl) fun f cdv A outer s H H0 Q E v hr hp hret hs => ?_
  have hu := hr.units
  have hu1 : (fX P Wd K mg base N__law_total "_law_total" s__law_total f cdv A outer s H E).A.units + 65 < cLine := by have := hr.un; omega
  replace hp : v.C = C.View ∧ Vw v.rows := hp
  replace hret : (retN (lsO (totL v.rows))) H H0 Q E := hret
  show Go _ _ _ ([some (rp v)] ++ List.replicate (N__law_total.length - 1) none) [] _ _
  simp only [List.length_cons, List.length_nil, Nat.reduceAdd, Nat.reduceSub, List.replicate, List.cons_append, List.nil_append]
  obtain ⟨VC, rows⟩ := v
  obtain ⟨hC, vw⟩ := hp
  have hC : VC = C.View := hC
  subst hC
  replace vw : Vw rows := vw
  replace hret : retN (lsO (totL rows)) H H0 Q E := hret
  have hcl := closed_len vw
  refine go_tryO (Cs := fun D => D = C.TooGreat ∧ ¬ small rows = true) rfl rfl ⟨rfl, by decide +kernel, .inl T.e_TooGreat.g⟩ (fun D hD => ?_) (Wout := fun cls d _ H => E cls d H) fX_takes (fun W pn xe tk po cau => ?_) (fun D hD ad oe pn he => ?_)
  · rw [hD.1]; exact exm_of T.e_TooGreat T.x_TooGreat T.u_TooGreat_TooGreat
  · by_cases hsm : small rows = true
    · have e : totL rows = (irange 0 (((closedOf rows).length : Int) + 1).toNat).map (igI (bstones rows none)) := if_pos hsm
      rw [e] at hret
      refine go_retN (evn_lcL0 (xs := irange 0 (((closedOf rows).length : Int) + 1).toNat) (own := [("stones", 1)]) (f := igI (bstones rows none)) rfl sc__law_total.nd (Itr.toC (it_range1 T.bl rfl (ev_add (ev_lenL T.bl rfl (EvN.evc (c_closed (v := ⟨C.View, rows⟩) (f_closed T) hr (eva_cons (V 0) eva_nil) ⟨rfl, vw⟩))) ev_int) (by omega) (by omega))) ?_ (blkOk_by (by rfl)) (fun _ _ _ _ _ => PN sc__law_total.nd 1) (fun _ => gj_name (by decide)) (fun _ _ _ _ _ x hx => ev_call (f_count T) ((⟨C.View, rows⟩, x) : VW × Int) (hr.mono (by decide)) rfl (by decide +kernel) (eva_cons (V 0) (eva_cons (V 1) eva_nil)) ⟨rfl, vw⟩ (fun H H0 Q q => by
        show (if small rows = true then retV _ else retX C.TooGreat) H H0 Q E0
        rw [if_pos hsm]; exact q))) (rtN_up Up.refl hret)
      rw [irange_len]; omega
    · exact go_ret_rz (W := W) (C := C.TooGreat) (rz_lc (own := [("stones", 1)]) (p0 := rp (0 : Int)) (Ps := (irange 1 (closedOf rows).length).map rp) rfl sc__law_total.nd rfl rfl (ItrC.cast (Itr.toC (it_range1 T.bl rfl (ev_add (ev_lenL T.bl rfl (EvN.evc (c_closed (v := ⟨C.View, rows⟩) (f_closed T) hr (eva_cons (V 0) eva_nil) ⟨rfl, vw⟩))) ev_int) (by show ((closedOf rows).length : Int) + 1 ≤ 1000000; omega) (by show -1000000 ≤ ((closedOf rows).length : Int) + 1; omega))) (irange_head _)) (blkOk_by (by rfl)) (fun _ _ _ _ _ => PN sc__law_total.nd 1) (gj_name (by decide)) (fun s H' C' cl fp xe => rzb_call (f_count T) ((⟨C.View, rows⟩, 0) : VW × Int) (hr.mono (by decide)) rfl (by decide +kernel) (eac_cons (V 0) (eac_cons (V 1) eac_nil)) ⟨rfl, vw⟩ (fun H H0 Q E q => by
        show (if small rows = true then retV _ else retX C.TooGreat) H H0 Q E
        rw [if_neg hsm]; exact q))) tk (cau _ ⟨rfl, hsm⟩)
  · have e : totL rows = [] := if_neg hD.2
    rw [e] at hret
    exact go_retN (evn_nil (α := Int)) (rtN_up Up.refl hret)
theorem c_law_total {X : Cx} {ρ : En} {ω : Ow} {e : Expr} {es : List Expr} {p pos : Pos} {l : Nat} {v : VW} (G : Cal X.prog X.w X.K X.mg X.base "_law_total" 9 (spOf (pm_law_total C))) (hr : Room l X.A) (ha : EvA X ρ ω (e :: es) [rp v]) (hk : v.C = C.View ∧ Vw v.rows) (hl : 9 ≤ l := by decide) (hg : Gl X "_law_total" := by rfl)
    (he : starEach (e :: es) X.env = (false, eval e X.env) :: starEach es X.env := by exact se_cons rfl) (hpl : (backTo pos (starEach es X.env)).any (·.1) = false := by exact se_any rfl) : EvN X ρ ω (.Call (.Name "_law_total" p) (e :: es) [] pos) (lsO (totL v.rows)) :=
  evn_call G v (hr.mono hl) hg (by decide +kernel) ha hk (fun _ _ _ q => q) he hpl
abbrev L_law : Nat := 11
theorem ok_law {f : Addr} {fd : FuncData} (T : Facts K mg C) (F : Fun K "law" "law" s_law f fd) : FnOk P Wd K mg base (L2.CX P Wd) L_law f fd ["script"] (spLaw K) := by
  refine law_of (fn_go (k := 10) F sc_law (fun _ => rfl) fun cdv A outer s H H0 Q E ns hr hp hret hs => ?_)
  have hu := hr.units
  have hu1 : (fX P Wd K mg base N_law "law" s_law f cdv A outer s H E).A.units + 65 < cLine := by have := hr.un; omega
  replace hret : retV (rp true) H H0 Q E := hret
  show Go _ _ _ ([some (scrM K ns)] ++ List.replicate (N_law.length - 1) none) [] _ _
  simp only [List.length_cons, List.length_nil, Nat.reduceAdd, Nat.reduceSub, List.replicate, List.cons_append, List.nil_append]
  have m0 : 0 ≤ cellAt ns 20 % 3 ∧ cellAt ns 20 % 3 < 3 := ⟨Int.emod_nonneg _ (by decide), Int.emod_lt_of_pos _ (by decide)⟩
  have hmost : 1 ≤ ([4, 4, 6] : List Int).getD (cellAt ns 20 % 3).toNat 0 ∧ ([4, 4, 6] : List Int).getD (cellAt ns 20 % 3).toNat 0 ≤ 6 := by
    have : ∀ j : Fin 3, 1 ≤ ([4, 4, 6] : List Int).getD j.val 0 ∧ ([4, 4, 6] : List Int).getD j.val 0 ≤ 6 := by decide
    exact this ⟨(cellAt ns 20 % 3).toNat, by omega⟩
  have hidx : atI ([4, 4, 6] : List Int) (cellAt ns 20 % 3) = some (([4, 4, 6] : List Int).getD (cellAt ns 20 % 3).toNat 0) := atI_getD 0 m0.1 (by exact m0.2)
  generalize ([4, 4, 6] : List Int).getD (cellAt ns 20 % 3).toNat 0 = most at hmost hidx
  have vw0 := viewBy_vw (ns := ns) (most := most) (steps := 4) hmost
  have hll := viewBy_len (ns := ns) (most := most) (steps := 4) hmost
  have hkp := viewBy_keeps (ns := ns) (most := most) (steps := 4) hmost
  refine G_asgT (c_law_view_by (most := most) (steps := 4) (f_law_view_by T) hr (eva_cons (V 0) (eva_cons (ev_ixL (EvN.evc (evn_disp (i_cons ev_int (i_cons ev_int (i_cons ev_int i_nil))) (by decide))) (ev_mod (c_law_cell_at (f_law_cell_at T) hr (eva_cons (V 0) (eva_cons ev_int eva_nil)) (by decide)) ev_int (by decide)) hidx) (eva_cons ev_int eva_nil))) ⟨hmost, by decide, by decide⟩) (PT2 sc_law.nd rfl 1 2) (gj_pairL (vs := [1, 2]) (by decide) (by decide)) ?_
  generalize viewBy ns most 4 = vb at vw0 hll hkp
  obtain ⟨rows0, st⟩ := vb
  replace vw0 : Vw rows0 := vw0
  replace hll : st.length ≤ 36 := hll
  replace hkp : Srt st ∧ (∀ x ∈ st, x ∈ closedOf rows0) ∧ keepsB rows0 st = true := hkp
  obtain ⟨hsrt, hscl, hkeep⟩ := hkp
  have hlay : isLay rows0 st = true := isLay_iff.mpr ⟨hsrt, hscl⟩
  refine go_if (k := false) (EvT.cast (et_isntB (k := true) (l := true) (ev_call (P := rp true) (f_keeps T) ((⟨C.View, rows0⟩, st) : VW × List Cell) (hr.mono (by decide)) rfl (by decide +kernel) (eva_cons (EvN.ev (c_View (f_View T) hr (Ev.evcl (V 1)) vw0)) (eva_cons (V 2) eva_nil)) ⟨rfl, vw0, by show st.length ≤ 1000; omega⟩ (fun H H0 Q q => by
      show (if isLay rows0 st then retV (rp (keepsB rows0 st)) else retX C.BadLaying) H H0 Q E0
      rw [if_pos hlay, hkeep]; exact q)) ev_bl) rfl) (fun z => by cases z) (fun _ => ?_)
  refine go_fall (G_asg sc_law.nd 1 (P := rp (wrongBy ns rows0)) (c_law_wrong_by (f_law_wrong_by T) hr (eva_cons (V 0) (eva_cons (V 1) eva_nil)) vw0) ?_)
  have vw : Vw (wrongBy ns rows0) := wrongBy_vw vw0
  clear hlay hkeep hscl
  generalize wrongBy ns rows0 = rows at vw
  show Go _ _ _ [some (scrM K ns), some (rp rows), some (rp st), none, none, none, none, none, none, none, none, none, none, none, none] _ _ _
  have hcl := closed_len vw
  have hw6 := vw.w6
  have hh6 := vw.h6
  refine G_asg sc_law.nd 3 (P := rp (⟨C.View, rows⟩ : VW)) (EvN.ev (c_View (f_View T) hr (Ev.evcl (V 1)) vw)) ?_
  refine G_asg sc_law.nd 4 (P := rp (totL rows)) (EvN.evl (c_law_total (v := ⟨C.View, rows⟩) (f_law_total T) hr (eva_cons (V 3) eva_nil) ⟨rfl, vw⟩)) ?_
  refine go_if (et_eqI (ev_lenL T.bl rfl (Ev.evcl (V 4))) ev_int) (fun h0 => ?_) (fun h0 => ?_)
  · exact go_ret (P := rp true) ev_bl (rt_of hret)
  have h0 : ¬ ((totL rows).length : Int) = 0 := of_decide_eq_false h0
  have hsm : small rows = true := by
    by_cases hsm : small rows = true
    · exact hsm
    · exact absurd (by unfold totL; rw [if_neg hsm]; rfl) h0
  have etot : totL rows = cntsOf rows := if_pos hsm
  rw [etot]
  clear h0 etot
  have h12 := small_iff.mp hsm
  have hpl := parts_len vw
  have hfl := far_len vw
  have hsum := some_sum vw
  have hslen := some_len (rows := rows)
  refine go_fall (G_asg sc_law.nd 5 (P := rp (1 : Int)) ev_int ?_)
  refine go_for (xs := partsOf rows) (S := Int) (fun d => [none, some (rp rows), some (rp st), some (rp (⟨C.View, rows⟩ : VW)), some (rp (cntsOf rows)), some (rp d), none, none, none, none, none, none, none, none, none]) (fun s => []) (fun (ys : List (List Cell)) d => (∀ p ∈ ys, p ∈ partsOf rows) ∧ (∃ a, a + 12 * ys.length ≤ 432 ∧ 0 ≤ d ∧ d ≤ 2 ^ a) ∧ ys.foldl (mulP rows) d = (partsOf rows).foldl (mulP rows) 1) (fun x s => _) fX_passes rfl (it_listL (EvN.evl (EvNL.evn (evnl_call (f_parts T) (⟨C.View, rows⟩ : VW) (hr.mono (by decide)) rfl (by decide +kernel) (eva_cons (V 3) eva_nil) ⟨rfl, vw⟩ (fun H H0 Q q => q))))) (PN sc_law.nd 6) (fun _ _ => gj_name (vs := [6]) (by decide)) 1 ⟨fun p hp => hp, ⟨0, by omega, by decide, by decide⟩, rfl⟩ (Le.of (by repeat (first | exact Lsl.nil | apply Lsl.keep | apply Lsl.drop)) (by first | exact List.Sublist.refl _ | exact List.Sublist.cons _ (List.Sublist.refl _) | exact List.nil_sublist _)) ?_ ?_
  · rintro B1 u p ys d ⟨hin, ⟨a, ha, d0, da⟩, hI⟩
    have hp := hin p (by simp)
    have hp12 := h12 p hp
    obtain ⟨c, cs, ep⟩ : ∃ c cs, p = c :: cs := by
      cases p with
      | nil => exact absurd rfl (part_ne vw hp)
      | cons c cs => exact ⟨c, cs, rfl⟩
    have hcp : c ∈ p := by rw [ep]; simp
    have hat : atI p 0 = some c := by rw [ep]; exact atI_nat (j := 0) rfl
    have hf := find_part vw hp hcp
    have hb := mulP_bd (rows := rows) (p := p) hp12 ⟨d0, da⟩
    have hpc := playings_len (rows := rows) hp12
    have hdl := log2_bd d0 (le_pow da (show a < 500 by simp only [List.length_cons] at ha; omega)) (by decide)
    have hml := log2_bd (i := ((playings rows p).length : Int)) (by omega) (show ((playings rows p).length : Int) < 2 ^ 13 from Int.lt_of_le_of_lt (b := 4096) (by omega) (by decide)) (by decide)
    refine G_asg sc_law.nd 5 (P := rp (mulP rows d p)) (ev_mulW (V 5) (ev_lenL T.bl rfl (EvN.evc (EvNL.evn (evnl_call (f_layings T) ((⟨C.View, rows⟩, c) : VW × Cell) (hr.mono (by decide)) rfl (by decide +kernel) (eva_cons (V 3) (eva_cons (ev_ixL (Ev.evcl (V 6)) ev_int hat) eva_nil)) ⟨rfl, vw⟩ (fun H H0 Q q => by
      show layRet C rows c H H0 Q E0
      unfold layRet
      rw [hf]
      show (if p.length ≤ 12 then retNL _ else retX C.TooGreat) H H0 Q E0
      rw [if_pos hp12]; exact q))))) (show CMulW d _ by unfold CMulW; omega)) ?_
    exact go_end (mulP rows d p) ⟨fun q hq => hin q (by simp [hq]), ⟨a + 12, by simp only [List.length_cons] at ha; omega, hb.1, hb.2⟩, hI⟩ (Le.of (by repeat (first | exact Lsl.nil | apply Lsl.keep | apply Lsl.drop)) (by first | exact List.Sublist.refl _ | exact List.Sublist.cons _ (List.Sublist.refl _) | exact List.nil_sublist _)) Up.refl
  rintro due1 ⟨_, ⟨a1, ha1, d10, d1a⟩, hI1⟩
  have hI1 : due1 = (partsOf rows).foldl (mulP rows) 1 := hI1
  refine go_for (xs := farOf rows) (S := Int) (fun d => [none, some (rp rows), some (rp st), some (rp (⟨C.View, rows⟩ : VW)), some (rp (cntsOf rows)), some (rp d), none, none, none, none, none, none, none, none, none]) (fun s => []) (fun (ys : List Cell) d => (∃ a, a + ys.length ≤ 468 ∧ 0 ≤ d ∧ d ≤ 2 ^ a) ∧ ys.foldl mulF d = dueI rows) (fun x s => _) fX_passes rfl (it_listL (EvN.evl (c_far (v := ⟨C.View, rows⟩) (f_far T) hr (eva_cons (V 3) eva_nil) ⟨rfl, vw⟩))) (PN sc_law.nd 7) (fun _ _ => gj_name (vs := [7]) (by decide)) due1 ⟨⟨a1, by simp only [List.length_nil] at ha1; omega, d10, d1a⟩, by rw [hI1]; rfl⟩ (Le.of (by repeat (first | exact Lsl.nil | apply Lsl.keep | apply Lsl.drop)) (by first | exact List.Sublist.refl _ | exact List.Sublist.cons _ (List.Sublist.refl _) | exact List.nil_sublist _)) ?_ ?_
  · rintro B1 u c ys d ⟨⟨a, ha, d0, da⟩, hI⟩
    have hb := mulF_bd (c := c) ⟨d0, da⟩
    have hdl := log2_bd d0 (le_pow da (show a < 500 by simp only [List.length_cons] at ha; omega)) (by decide)
    have two : (2 : Int).natAbs.log2 = 1 := by decide
    refine G_asg sc_law.nd 5 (P := rp (mulF d c)) (ev_mulW (V 5) ev_int (show CMulW d 2 by unfold CMulW; omega)) ?_
    exact go_end (mulF d c) ⟨⟨a + 1, by simp only [List.length_cons] at ha; omega, hb.1, hb.2⟩, hI⟩ (Le.of (by repeat (first | exact Lsl.nil | apply Lsl.keep | apply Lsl.drop)) (by first | exact List.Sublist.refl _ | exact List.Sublist.cons _ (List.Sublist.refl _) | exact List.nil_sublist _)) Up.refl
  rintro due2 ⟨_, hI2⟩
  have hI2 : due2 = dueI rows := hI2
  subst hI2
  refine G_asgT (c_law_sizes (f_law_sizes T) hr (eva_cons (V 1) eva_nil) vw) (PT2 sc_law.nd rfl 8 9) (gj_pairL (vs := [8, 9]) (by decide) (by decide)) ?_
  refine go_for (xs := lcells rows figs1) (S := Int) (fun d => [none, some (rp rows), some (rp st), some (rp (⟨C.View, rows⟩ : VW)), some (rp (cntsOf rows)), some (rp d), none, none, some (rp (hOf rows)), some (rp (wOf rows)), none, none, none, none, none]) (fun s => []) (fun (ys : List Cell) d => (if lidle rows = true then dueI rows else 0) = if ys.all (lidleC rows) = true then d else 0) (fun x s => _) fX_passes rfl (it_listL (c_law_cells (f_law_cells T) hr (eva_cons (V 1) (eva_cons (t_str figs1) eva_nil)) vw)) (PT2 sc_law.nd rfl 10 11) (fun _ _ => gj_pairL (vs := [10, 11]) (by decide) (by decide)) (dueI rows) rfl (Le.of (by repeat (first | exact Lsl.nil | apply Lsl.keep | apply Lsl.drop)) (by first | exact List.Sublist.refl _ | exact List.Sublist.cons _ (List.Sublist.refl _) | exact List.nil_sublist _)) ?_ ?_
  · rintro B1 u x ys d hI
    obtain ⟨xr, xc⟩ := x
    refine go_if (k := !lidleC rows (xr, xc)) (EvT.cast (et_ni (α := Tx) (x := ⟨[35]⟩) (xs := (lnear (hOf rows) (wOf rows) (xr, xc)).map fun c => (⟨[sgn rows c]⟩ : Tx)) (Ev.evd (t_str ⟨[35]⟩)) (EvC.evd (EvN.evc (evn_lcL0 (xs := lnear (hOf rows) (wOf rows) (xr, xc)) (own := [("x", 13), ("y", 14)]) (f := fun c => (⟨[sgn rows c]⟩ : Tx)) rfl sc_law.nd (it_listC (EvN.evc (c_law_near (f_law_near T) hr (eva_cons (V 8) (eva_cons (V 9) (eva_cons (ev_pair (V 10) (V 11)) eva_nil)))))) (Nat.lt_of_le_of_lt (lnear_len _ _ _) (by decide)) (blkOk_by (by rfl)) (fun _ _ _ _ _ => PT2 sc_law.nd rfl 13 14) (fun _ => gj_pairL (vs := [13, 14]) (by decide) (by decide)) (fun _ _ _ _ _ c hc => ?_)))) hu1 ?_ ?_ (by decide) (bm_plain rfl)) ?_) (fun h => ?_) (fun h => ?_)
    · have hin := inF_iff.mp (mem_lnear.mp hc).1
      simp only [hOf, wOf] at hin
      have hrow : rows[c.1.toNat]? = some (rows.getD c.1.toNat ⟨[]⟩) := by
        rw [List.getD_eq_getElem?_getD, List.getElem?_eq_getElem (show c.1.toNat < rows.length by omega)]; rfl
      have hrl := (vw.row _ (List.mem_of_getElem? hrow)).1
      exact t_ix (k := sgn rows c) (ev_ixL (Ev.evcl (V 1)) (V 13) (atI_getD ⟨[]⟩ hin.1.1 hin.1.2)) (V 14) (by omega) (atI_getD 0 hin.2.1 (by omega))
    · intro c hc
      rw [List.mem_singleton.mp hc]; decide
    · intro t ht
      obtain ⟨c, hc, rfl⟩ := List.mem_map.mp ht
      intro k hk
      rw [List.mem_singleton.mp hk]
      exact sgn_ok vw c
    · unfold lidleC hid
      rw [Bool.eq_iff_iff, Bool.not_eq_true', Bool.not_eq_true', decide_eq_false_iff_not, decide_eq_false_iff_not]
      refine not_congr ?_
      rw [List.length_pos_iff_exists_mem, List.mem_map]
      constructor
      · rintro ⟨c, hc, e⟩
        exact ⟨c, List.mem_filter.mpr ⟨hc, decide_eq_true (List.cons.inj (congrArg Tx.cs e)).1⟩⟩
      · rintro ⟨c, hc⟩
        obtain ⟨h1, h2⟩ := List.mem_filter.mp hc
        exact ⟨c, h1, by rw [of_decide_eq_true h2]⟩
    · have h : lidleC rows (xr, xc) = false := by simpa using h
      refine G_asg sc_law.nd 5 (P := rp (0 : Int)) ev_int ?_
      refine go_fall (go_end (0 : Int) ?_ (Le.of (by repeat (first | exact Lsl.nil | apply Lsl.keep | apply Lsl.drop)) (by first | exact List.Sublist.refl _ | exact List.Sublist.cons _ (List.Sublist.refl _) | exact List.nil_sublist _)) Up.refl)
      rw [hI, List.all_cons, h, Bool.false_and, ite_self]; rfl
    · have h : lidleC rows (xr, xc) = true := by simpa using h
      refine go_fall (go_end d ?_ (Le.of (by repeat (first | exact Lsl.nil | apply Lsl.keep | apply Lsl.drop)) (by first | exact List.Sublist.refl _ | exact List.Sublist.cons _ (List.Sublist.refl _) | exact List.nil_sublist _)) Up.refl)
      rw [hI, List.all_cons, h, Bool.true_and]
  rintro due3 hI3
  have hI3 : due3 = if lidle rows = true then dueI rows else 0 := hI3.symm
  rw [idle_eq vw, ← hI3] at hsum
  have hout1 := some_out vw (s := ((cntsOf rows).length : Int)) (by omega)
  have hout2 := some_out vw (s := -1) (by omega)
  have cnt : ∀ k : Int, ∀ H H0 Q, retV (rp (igI (bstones rows none) k)) H H0 Q E0 → (if small rows = true then retV (rp (igI (bstones rows none) k)) else retX C.TooGreat) H H0 Q E0 := fun k H H0 Q q => by
    rw [if_pos hsm]; exact q
  refine go_if (k := false) (EvT.cast (et_w (ew_or (et_neI (ev_sum T.bl rfl rfl (Ev.evcl (V 4))) (V 5)) fun _ => (ew_or (et_neI (ev_call (P := rp (igI (bstones rows none) ((cntsOf rows).length : Int))) (f_count T) ((⟨C.View, rows⟩, ((cntsOf rows).length : Int)) : VW × Int) (hr.mono (by decide)) rfl (by decide +kernel) (eva_cons (V 3) (eva_cons (ev_lenL T.bl rfl (Ev.evcl (V 4))) eva_nil)) ⟨rfl, vw⟩ (cnt _)) ev_int) fun _ => (ew_or1 (et_neI (ev_call (P := rp (igI (bstones rows none) (-1))) (f_count T) ((⟨C.View, rows⟩, -1) : VW × Int) (hr.mono (by decide)) rfl (by decide +kernel) (eva_cons (V 3) (eva_cons (ev_neg ev_int) eva_nil)) ⟨rfl, vw⟩ (cnt _)) ev_int))))) ?_) (fun z => by cases z) (fun _ => ?_)
  · rw [hsum, hout1, hout2]; simp
  refine go_fall (G_lc1 sc_law.nd 12 (own := [("cell", 7)]) (f := fun x => x) (keep := fun x => decide (x ∈ closedOf rows)) rfl (it_listC (Ev.evcl (V 2))) (by omega) (blkOk_by (by rfl)) (fun _ _ _ _ _ => PN sc_law.nd 7) (fun _ => gj_name (by decide)) (fun _ _ _ _ _ x hx => (et_in (α := Cell) (Ev.evd (V 7)) (EvC.evd (EvN.evc (c_closed (v := ⟨C.View, rows⟩) (f_closed T) hr (eva_cons (V 3) eva_nil) ⟨rfl, vw⟩))) hu1 ⟨trivial, trivial⟩ (fun _ _ => ⟨trivial, trivial⟩) (by decide) (bm_plain rfl))) (fun _ _ _ _ _ x hx _ => (V 7)) ?_)
  rw [List.map_id']
  have ho1 : Srt (st.filter fun x => decide (x ∈ closedOf rows)) := srt_filter hsrt
  have ho2 : ∀ x ∈ st.filter (fun x => decide (x ∈ closedOf rows)), x ∈ closedOf rows := fun x hx => of_decide_eq_true (List.mem_filter.mp hx).2
  have ho3 : (st.filter fun x => decide (x ∈ closedOf rows)).length ≤ 36 := Nat.le_trans (List.length_filter_le _ _) hll
  generalize st.filter (fun x => decide (x ∈ closedOf rows)) = own at ho1 ho2 ho3
  have olay : isLay rows own = true := isLay_iff.mpr ⟨ho1, ho2⟩
  have olen : own.length ≤ (closedOf rows).length := nodup_le (srt_nd ho1) ho2
  have hat : atI (cntsOf rows) (own.length : Int) = some (igI (bstones rows none) own.length) := by
    refine atI_nat ?_
    unfold cntsOf
    rw [List.getElem?_map, irange_get? (by omega)]; rfl
  have hpos := fun z => own_count vw (srt_nd ho1) ho2 z
  refine go_ret (P := rp true) (Ev.cast (ev_or (ev_isBB (k := keepsB rows own) (l := false) (ev_call (P := rp (keepsB rows own)) (f_keeps T) ((⟨C.View, rows⟩, own) : VW × List Cell) (hr.mono (by decide)) rfl (by decide +kernel) (eva_cons (V 3) (eva_cons (V 12) eva_nil)) ⟨rfl, vw, by show own.length ≤ 1000; omega⟩ (fun H H0 Q q => by
      show (if isLay rows own then retV (rp (keepsB rows own)) else retX C.BadLaying) H H0 Q E0
      rw [if_pos olay]; exact q)) ev_bl) fun _ => ev_one (ev_gt (ev_ixL (Ev.evcl (V 4)) (ev_lenL T.bl rfl (Ev.evcl (V 12))) hat) ev_int)) ?_) (rt_of hret)
  cases hk : keepsB rows own with
  | false => rfl
  | true =>
    rw [decide_eq_true (hpos hk)]; rfl

end
end DF
namespace DF
open R (rp)
open Dt (toD)
open PySem L2
theorem all_mk {l : PySem.W.OpenLaw} {w : World} {K : PySem.W.Frag} {h : Heap} {mg : Str → Option Value} {fa : Addr} (X : K.In h) (G : h.Ns mainGlobals mg) (hfa : mg "law" = some (.ref fa))
    {fd0 : Addr} {odd0 and0 : Option Addr} {sld0 : Array (Option Value)} {ocd0 kVd0 dcd0 pmd0 cdd0 ctd0 : Value}
    {fd1 : Addr} {odd1 and1 : Option Addr} {sld1 : Array (Option Value)} {ocd1 kVd1 dcd1 pmd1 cdd1 ctd1 : Value}
    {fd2 : Addr} {odd2 and2 : Option Addr} {sld2 : Array (Option Value)} {ocd2 kVd2 dcd2 pmd2 cdd2 ctd2 : Value}
    {fd3 : Addr} {odd3 and3 : Option Addr} {sld3 : Array (Option Value)} {ocd3 kVd3 dcd3 pmd3 cdd3 ctd3 : Value}
    {fd4 : Addr} {odd4 and4 : Option Addr} {sld4 : Array (Option Value)} {ocd4 kVd4 dcd4 pmd4 cdd4 ctd4 : Value}
    {fd5 : Addr} {odd5 and5 : Option Addr} {sld5 : Array (Option Value)} {ocd5 kVd5 dcd5 pmd5 cdd5 ctd5 : Value}
    {fd6 : Addr} {odd6 and6 : Option Addr} {sld6 : Array (Option Value)} {ocd6 kVd6 dcd6 pmd6 cdd6 ctd6 : Value}
    {fd7 : Addr} {odd7 and7 : Option Addr} {sld7 : Array (Option Value)} {ocd7 kVd7 dcd7 pmd7 cdd7 ctd7 : Value}
    {fd8 : Addr} {odd8 and8 : Option Addr} {sld8 : Array (Option Value)} {ocd8 kVd8 dcd8 pmd8 cdd8 ctd8 : Value}
    {fd9 : Addr} {odd9 and9 : Option Addr} {sld9 : Array (Option Value)} {ocd9 kVd9 dcd9 pmd9 cdd9 ctd9 : Value}
    {fd10 : Addr} {odd10 and10 : Option Addr} {sld10 : Array (Option Value)} {ocd10 kVd10 dcd10 pmd10 cdd10 ctd10 : Value}
    {fd11 : Addr} {odd11 and11 : Option Addr} {sld11 : Array (Option Value)} {ocd11 kVd11 dcd11 pmd11 cdd11 ctd11 : Value}
    {fd12 : Addr} {odd12 and12 : Option Addr} {sld12 : Array (Option Value)} {ocd12 kVd12 dcd12 pmd12 cdd12 ctd12 : Value}
    {fd13 : Addr} {odd13 and13 : Option Addr} {sld13 : Array (Option Value)} {ocd13 kVd13 dcd13 pmd13 cdd13 ctd13 : Value}
    {fd14 : Addr} {odd14 and14 : Option Addr} {sld14 : Array (Option Value)} {ocd14 kVd14 dcd14 pmd14 cdd14 ctd14 : Value}
    {fd15 : Addr} {odd15 and15 : Option Addr} {sld15 : Array (Option Value)} {ocd15 kVd15 dcd15 pmd15 cdd15 ctd15 : Value}
    {fd16 : Addr} {odd16 and16 : Option Addr} {sld16 : Array (Option Value)} {ocd16 kVd16 dcd16 pmd16 cdd16 ctd16 : Value}
    {fd17 : Addr} {odd17 and17 : Option Addr} {sld17 : Array (Option Value)} {ocd17 kVd17 dcd17 pmd17 cdd17 ctd17 : Value}
    {fd18 : Addr} {odd18 and18 : Option Addr} {sld18 : Array (Option Value)} {ocd18 kVd18 dcd18 pmd18 cdd18 ctd18 : Value}
    {fd19 : Addr} {odd19 and19 : Option Addr} {sld19 : Array (Option Value)} {ocd19 kVd19 dcd19 pmd19 cdd19 ctd19 : Value}
    {fd20 : Addr} {odd20 and20 : Option Addr} {sld20 : Array (Option Value)} {ocd20 kVd20 dcd20 pmd20 cdd20 ctd20 : Value}
    {fd21 : Addr} {odd21 and21 : Option Addr} {sld21 : Array (Option Value)} {ocd21 kVd21 dcd21 pmd21 cdd21 ctd21 : Value}
    {fd22 : Addr} {odd22 and22 : Option Addr} {sld22 : Array (Option Value)} {ocd22 kVd22 dcd22 pmd22 cdd22 ctd22 : Value}
    {fd23 : Addr} {odd23 and23 : Option Addr} {sld23 : Array (Option Value)} {ocd23 kVd23 dcd23 pmd23 cdd23 ctd23 : Value}
    {fd24 : Addr} {odd24 and24 : Option Addr} {sld24 : Array (Option Value)} {ocd24 kVd24 dcd24 pmd24 cdd24 ctd24 : Value}
    {fd25 : Addr} {odd25 and25 : Option Addr} {sld25 : Array (Option Value)} {ocd25 kVd25 dcd25 pmd25 cdd25 ctd25 : Value}
    {fd26 : Addr} {odd26 and26 : Option Addr} {sld26 : Array (Option Value)} {ocd26 kVd26 dcd26 pmd26 cdd26 ctd26 : Value}
    {fd27 : Addr} {odd27 and27 : Option Addr} {sld27 : Array (Option Value)} {ocd27 kVd27 dcd27 pmd27 cdd27 ctd27 : Value}
    {fd28 : Addr} {odd28 and28 : Option Addr} {sld28 : Array (Option Value)} {ocd28 kVd28 dcd28 pmd28 cdd28 ctd28 : Value}
    {fd29 : Addr} {odd29 and29 : Option Addr} {sld29 : Array (Option Value)} {ocd29 kVd29 dcd29 pmd29 cdd29 ctd29 : Value}
    {fd30 : Addr} {odd30 and30 : Option Addr} {sld30 : Array (Option Value)} {ocd30 kVd30 dcd30 pmd30 cdd30 ctd30 : Value}
    {fd31 : Addr} {odd31 and31 : Option Addr} {sld31 : Array (Option Value)} {ocd31 kVd31 dcd31 pmd31 cdd31 ctd31 : Value}
    {fd32 : Addr} {odd32 and32 : Option Addr} {sld32 : Array (Option Value)} {ocd32 kVd32 dcd32 pmd32 cdd32 ctd32 : Value}
    {fd33 : Addr} {odd33 and33 : Option Addr} {sld33 : Array (Option Value)} {ocd33 kVd33 dcd33 pmd33 cdd33 ctd33 : Value}
    {aView : Addr}
    {fm0 : Addr} {odm0 anm0 : Option Addr} {slm0 : Array (Option Value)} {ocm0 kVm0 dcm0 pmm0 cdm0 ctm0 : Value}
    {fm1 : Addr} {odm1 anm1 : Option Addr} {slm1 : Array (Option Value)} {ocm1 kVm1 dcm1 pmm1 cdm1 ctm1 : Value}
    {fm2 : Addr} {odm2 anm2 : Option Addr} {slm2 : Array (Option Value)} {ocm2 kVm2 dcm2 pmm2 cdm2 ctm2 : Value}
    {fm3 : Addr} {odm3 anm3 : Option Addr} {slm3 : Array (Option Value)} {ocm3 kVm3 dcm3 pmm3 cdm3 ctm3 : Value}
    {fm4 : Addr} {odm4 anm4 : Option Addr} {slm4 : Array (Option Value)} {ocm4 kVm4 dcm4 pmm4 cdm4 ctm4 : Value}
    {aFieldError : Addr}
    {aBadView : Addr}
    {aBadLaying : Addr}
    {aNoCell : Addr}
    {aTooGreat : Addr}
    {tkMOST : Tok}
    {tkMOST_CELLS : Tok}
    (bl : ∀ x ∈ (["len", "range", "abs", "all", "any", "sorted", "min", "max", "sum", "int", "str", "list", "set", "isinstance", "enumerate", "zip", "ValueError", "bool", "tuple"] : List Str), PySem.W.nsIn K mainGlobals x = some none)
    (ad0 : PySem.W.nsIn K mainGlobals "rising" = some (some (.ref fd0)))
    (ld0 : K.lookup fd0 = some ⟨ocd0, odd0, .func (PySem.W.fnOf "rising" "rising" (defArgs s_rising) (defBody s_rising) (defScope s_rising) .none kVd0 dcd0 pmd0 and0 cdd0 ctd0), sld0⟩)
    (cd0 : PySem.W.codeIn K cdd0 "rising" = true)
    (kd0 : PySem.W.keepIn K (.ref fd0) = true)
    (ad1 : PySem.W.nsIn K mainGlobals "all_cells" = some (some (.ref fd1)))
    (ld1 : K.lookup fd1 = some ⟨ocd1, odd1, .func (PySem.W.fnOf "all_cells" "all_cells" (defArgs s_all_cells) (defBody s_all_cells) (defScope s_all_cells) .none kVd1 dcd1 pmd1 and1 cdd1 ctd1), sld1⟩)
    (cd1 : PySem.W.codeIn K cdd1 "all_cells" = true)
    (kd1 : PySem.W.keepIn K (.ref fd1) = true)
    (ad2 : PySem.W.nsIn K mainGlobals "around" = some (some (.ref fd2)))
    (ld2 : K.lookup fd2 = some ⟨ocd2, odd2, .func (PySem.W.fnOf "around" "around" (defArgs s_around) (defBody s_around) (defScope s_around) .none kVd2 dcd2 pmd2 and2 cdd2 ctd2), sld2⟩)
    (cd2 : PySem.W.codeIn K cdd2 "around" = true)
    (kd2 : PySem.W.keepIn K (.ref fd2) = true)
    (ad3 : PySem.W.nsIn K mainGlobals "rows_right" = some (some (.ref fd3)))
    (ld3 : K.lookup fd3 = some ⟨ocd3, odd3, .func (PySem.W.fnOf "rows_right" "rows_right" (defArgs s_rows_right) (defBody s_rows_right) (defScope s_rows_right) .none kVd3 dcd3 pmd3 and3 cdd3 ctd3), sld3⟩)
    (cd3 : PySem.W.codeIn K cdd3 "rows_right" = true)
    (kd3 : PySem.W.keepIn K (.ref fd3) = true)
    (ad4 : PySem.W.nsIn K mainGlobals "closed" = some (some (.ref fd4)))
    (ld4 : K.lookup fd4 = some ⟨ocd4, odd4, .func (PySem.W.fnOf "closed" "closed" (defArgs s_closed) (defBody s_closed) (defScope s_closed) .none kVd4 dcd4 pmd4 and4 cdd4 ctd4), sld4⟩)
    (cd4 : PySem.W.codeIn K cdd4 "closed" = true)
    (kd4 : PySem.W.keepIn K (.ref fd4) = true)
    (ad5 : PySem.W.nsIn K mainGlobals "is_edge" = some (some (.ref fd5)))
    (ld5 : K.lookup fd5 = some ⟨ocd5, odd5, .func (PySem.W.fnOf "is_edge" "is_edge" (defArgs s_is_edge) (defBody s_is_edge) (defScope s_is_edge) .none kVd5 dcd5 pmd5 and5 cdd5 ctd5), sld5⟩)
    (cd5 : PySem.W.codeIn K cdd5 "is_edge" = true)
    (kd5 : PySem.W.keepIn K (.ref fd5) = true)
    (ad6 : PySem.W.nsIn K mainGlobals "edge" = some (some (.ref fd6)))
    (ld6 : K.lookup fd6 = some ⟨ocd6, odd6, .func (PySem.W.fnOf "edge" "edge" (defArgs s_edge) (defBody s_edge) (defScope s_edge) .none kVd6 dcd6 pmd6 and6 cdd6 ctd6), sld6⟩)
    (cd6 : PySem.W.codeIn K cdd6 "edge" = true)
    (kd6 : PySem.W.keepIn K (.ref fd6) = true)
    (ad7 : PySem.W.nsIn K mainGlobals "far" = some (some (.ref fd7)))
    (ld7 : K.lookup fd7 = some ⟨ocd7, odd7, .func (PySem.W.fnOf "far" "far" (defArgs s_far) (defBody s_far) (defScope s_far) .none kVd7 dcd7 pmd7 and7 cdd7 ctd7), sld7⟩)
    (cd7 : PySem.W.codeIn K cdd7 "far" = true)
    (kd7 : PySem.W.keepIn K (.ref fd7) = true)
    (ad8 : PySem.W.nsIn K mainGlobals "keeps" = some (some (.ref fd8)))
    (ld8 : K.lookup fd8 = some ⟨ocd8, odd8, .func (PySem.W.fnOf "keeps" "keeps" (defArgs s_keeps) (defBody s_keeps) (defScope s_keeps) .none kVd8 dcd8 pmd8 and8 cdd8 ctd8), sld8⟩)
    (cd8 : PySem.W.codeIn K cdd8 "keeps" = true)
    (kd8 : PySem.W.keepIn K (.ref fd8) = true)
    (ad9 : PySem.W.nsIn K mainGlobals "open_near" = some (some (.ref fd9)))
    (ld9 : K.lookup fd9 = some ⟨ocd9, odd9, .func (PySem.W.fnOf "open_near" "open_near" (defArgs s_open_near) (defBody s_open_near) (defScope s_open_near) .none kVd9 dcd9 pmd9 and9 cdd9 ctd9), sld9⟩)
    (cd9 : PySem.W.codeIn K cdd9 "open_near" = true)
    (kd9 : PySem.W.keepIn K (.ref fd9) = true)
    (ad10 : PySem.W.nsIn K mainGlobals "parts" = some (some (.ref fd10)))
    (ld10 : K.lookup fd10 = some ⟨ocd10, odd10, .func (PySem.W.fnOf "parts" "parts" (defArgs s_parts) (defBody s_parts) (defScope s_parts) .none kVd10 dcd10 pmd10 and10 cdd10 ctd10), sld10⟩)
    (cd10 : PySem.W.codeIn K cdd10 "parts" = true)
    (kd10 : PySem.W.keepIn K (.ref fd10) = true)
    (ad11 : PySem.W.nsIn K mainGlobals "part_of" = some (some (.ref fd11)))
    (ld11 : K.lookup fd11 = some ⟨ocd11, odd11, .func (PySem.W.fnOf "part_of" "part_of" (defArgs s_part_of) (defBody s_part_of) (defScope s_part_of) .none kVd11 dcd11 pmd11 and11 cdd11 ctd11), sld11⟩)
    (cd11 : PySem.W.codeIn K cdd11 "part_of" = true)
    (kd11 : PySem.W.keepIn K (.ref fd11) = true)
    (ad12 : PySem.W.nsIn K mainGlobals "check_size" = some (some (.ref fd12)))
    (ld12 : K.lookup fd12 = some ⟨ocd12, odd12, .func (PySem.W.fnOf "check_size" "check_size" (defArgs s_check_size) (defBody s_check_size) (defScope s_check_size) .none kVd12 dcd12 pmd12 and12 cdd12 ctd12), sld12⟩)
    (cd12 : PySem.W.codeIn K cdd12 "check_size" = true)
    (kd12 : PySem.W.keepIn K (.ref fd12) = true)
    (ad13 : PySem.W.nsIn K mainGlobals "can_still" = some (some (.ref fd13)))
    (ld13 : K.lookup fd13 = some ⟨ocd13, odd13, .func (PySem.W.fnOf "can_still" "can_still" (defArgs s_can_still) (defBody s_can_still) (defScope s_can_still) .none kVd13 dcd13 pmd13 and13 cdd13 ctd13), sld13⟩)
    (cd13 : PySem.W.codeIn K cdd13 "can_still" = true)
    (kd13 : PySem.W.keepIn K (.ref fd13) = true)
    (ad14 : PySem.W.nsIn K mainGlobals "part_layings" = some (some (.ref fd14)))
    (ld14 : K.lookup fd14 = some ⟨ocd14, odd14, .func (PySem.W.fnOf "part_layings" "part_layings" (defArgs s_part_layings) (defBody s_part_layings) (defScope s_part_layings) .none kVd14 dcd14 pmd14 and14 cdd14 ctd14), sld14⟩)
    (cd14 : PySem.W.codeIn K cdd14 "part_layings" = true)
    (kd14 : PySem.W.keepIn K (.ref fd14) = true)
    (ad15 : PySem.W.nsIn K mainGlobals "layings" = some (some (.ref fd15)))
    (ld15 : K.lookup fd15 = some ⟨ocd15, odd15, .func (PySem.W.fnOf "layings" "layings" (defArgs s_layings) (defBody s_layings) (defScope s_layings) .none kVd15 dcd15 pmd15 and15 cdd15 ctd15), sld15⟩)
    (cd15 : PySem.W.codeIn K cdd15 "layings" = true)
    (kd15 : PySem.W.keepIn K (.ref fd15) = true)
    (ad16 : PySem.W.nsIn K mainGlobals "idle_right" = some (some (.ref fd16)))
    (ld16 : K.lookup fd16 = some ⟨ocd16, odd16, .func (PySem.W.fnOf "idle_right" "idle_right" (defArgs s_idle_right) (defBody s_idle_right) (defScope s_idle_right) .none kVd16 dcd16 pmd16 and16 cdd16 ctd16), sld16⟩)
    (cd16 : PySem.W.codeIn K cdd16 "idle_right" = true)
    (kd16 : PySem.W.keepIn K (.ref fd16) = true)
    (ad17 : PySem.W.nsIn K mainGlobals "joined" = some (some (.ref fd17)))
    (ld17 : K.lookup fd17 = some ⟨ocd17, odd17, .func (PySem.W.fnOf "joined" "joined" (defArgs s_joined) (defBody s_joined) (defScope s_joined) .none kVd17 dcd17 pmd17 and17 cdd17 ctd17), sld17⟩)
    (cd17 : PySem.W.codeIn K cdd17 "joined" = true)
    (kd17 : PySem.W.keepIn K (.ref fd17) = true)
    (ad18 : PySem.W.nsIn K mainGlobals "choices" = some (some (.ref fd18)))
    (ld18 : K.lookup fd18 = some ⟨ocd18, odd18, .func (PySem.W.fnOf "choices" "choices" (defArgs s_choices) (defBody s_choices) (defScope s_choices) .none kVd18 dcd18 pmd18 and18 cdd18 ctd18), sld18⟩)
    (cd18 : PySem.W.codeIn K cdd18 "choices" = true)
    (kd18 : PySem.W.keepIn K (.ref fd18) = true)
    (ad19 : PySem.W.nsIn K mainGlobals "by_stones" = some (some (.ref fd19)))
    (ld19 : K.lookup fd19 = some ⟨ocd19, odd19, .func (PySem.W.fnOf "by_stones" "by_stones" (defArgs s_by_stones) (defBody s_by_stones) (defScope s_by_stones) .none kVd19 dcd19 pmd19 and19 cdd19 ctd19), sld19⟩)
    (cd19 : PySem.W.codeIn K cdd19 "by_stones" = true)
    (kd19 : PySem.W.keepIn K (.ref fd19) = true)
    (ad20 : PySem.W.nsIn K mainGlobals "count" = some (some (.ref fd20)))
    (ld20 : K.lookup fd20 = some ⟨ocd20, odd20, .func (PySem.W.fnOf "count" "count" (defArgs s_count) (defBody s_count) (defScope s_count) .none kVd20 dcd20 pmd20 and20 cdd20 ctd20), sld20⟩)
    (cd20 : PySem.W.codeIn K cdd20 "count" = true)
    (kd20 : PySem.W.keepIn K (.ref fd20) = true)
    (ad21 : PySem.W.nsIn K mainGlobals "_law_cell_at" = some (some (.ref fd21)))
    (ld21 : K.lookup fd21 = some ⟨ocd21, odd21, .func (PySem.W.fnOf "_law_cell_at" "_law_cell_at" (defArgs s__law_cell_at) (defBody s__law_cell_at) (defScope s__law_cell_at) .none kVd21 dcd21 pmd21 and21 cdd21 ctd21), sld21⟩)
    (cd21 : PySem.W.codeIn K cdd21 "_law_cell_at" = true)
    (kd21 : PySem.W.keepIn K (.ref fd21) = true)
    (ad22 : PySem.W.nsIn K mainGlobals "_law_mix" = some (some (.ref fd22)))
    (ld22 : K.lookup fd22 = some ⟨ocd22, odd22, .func (PySem.W.fnOf "_law_mix" "_law_mix" (defArgs s__law_mix) (defBody s__law_mix) (defScope s__law_mix) .none kVd22 dcd22 pmd22 and22 cdd22 ctd22), sld22⟩)
    (cd22 : PySem.W.codeIn K cdd22 "_law_mix" = true)
    (kd22 : PySem.W.keepIn K (.ref fd22) = true)
    (ad23 : PySem.W.nsIn K mainGlobals "_law_near" = some (some (.ref fd23)))
    (ld23 : K.lookup fd23 = some ⟨ocd23, odd23, .func (PySem.W.fnOf "_law_near" "_law_near" (defArgs s__law_near) (defBody s__law_near) (defScope s__law_near) .none kVd23 dcd23 pmd23 and23 cdd23 ctd23), sld23⟩)
    (cd23 : PySem.W.codeIn K cdd23 "_law_near" = true)
    (kd23 : PySem.W.keepIn K (.ref fd23) = true)
    (ad24 : PySem.W.nsIn K mainGlobals "_law_sizes" = some (some (.ref fd24)))
    (ld24 : K.lookup fd24 = some ⟨ocd24, odd24, .func (PySem.W.fnOf "_law_sizes" "_law_sizes" (defArgs s__law_sizes) (defBody s__law_sizes) (defScope s__law_sizes) .none kVd24 dcd24 pmd24 and24 cdd24 ctd24), sld24⟩)
    (cd24 : PySem.W.codeIn K cdd24 "_law_sizes" = true)
    (kd24 : PySem.W.keepIn K (.ref fd24) = true)
    (ad25 : PySem.W.nsIn K mainGlobals "_law_cells" = some (some (.ref fd25)))
    (ld25 : K.lookup fd25 = some ⟨ocd25, odd25, .func (PySem.W.fnOf "_law_cells" "_law_cells" (defArgs s__law_cells) (defBody s__law_cells) (defScope s__law_cells) .none kVd25 dcd25 pmd25 and25 cdd25 ctd25), sld25⟩)
    (cd25 : PySem.W.codeIn K cdd25 "_law_cells" = true)
    (kd25 : PySem.W.keepIn K (.ref fd25) = true)
    (ad26 : PySem.W.nsIn K mainGlobals "_law_field_by" = some (some (.ref fd26)))
    (ld26 : K.lookup fd26 = some ⟨ocd26, odd26, .func (PySem.W.fnOf "_law_field_by" "_law_field_by" (defArgs s__law_field_by) (defBody s__law_field_by) (defScope s__law_field_by) .none kVd26 dcd26 pmd26 and26 cdd26 ctd26), sld26⟩)
    (cd26 : PySem.W.codeIn K cdd26 "_law_field_by" = true)
    (kd26 : PySem.W.keepIn K (.ref fd26) = true)
    (ad27 : PySem.W.nsIn K mainGlobals "_law_figure" = some (some (.ref fd27)))
    (ld27 : K.lookup fd27 = some ⟨ocd27, odd27, .func (PySem.W.fnOf "_law_figure" "_law_figure" (defArgs s__law_figure) (defBody s__law_figure) (defScope s__law_figure) .none kVd27 dcd27 pmd27 and27 cdd27 ctd27), sld27⟩)
    (cd27 : PySem.W.codeIn K cdd27 "_law_figure" = true)
    (kd27 : PySem.W.keepIn K (.ref fd27) = true)
    (ad28 : PySem.W.nsIn K mainGlobals "_law_shown" = some (some (.ref fd28)))
    (ld28 : K.lookup fd28 = some ⟨ocd28, odd28, .func (PySem.W.fnOf "_law_shown" "_law_shown" (defArgs s__law_shown) (defBody s__law_shown) (defScope s__law_shown) .none kVd28 dcd28 pmd28 and28 cdd28 ctd28), sld28⟩)
    (cd28 : PySem.W.codeIn K cdd28 "_law_shown" = true)
    (kd28 : PySem.W.keepIn K (.ref fd28) = true)
    (ad29 : PySem.W.nsIn K mainGlobals "_law_opened" = some (some (.ref fd29)))
    (ld29 : K.lookup fd29 = some ⟨ocd29, odd29, .func (PySem.W.fnOf "_law_opened" "_law_opened" (defArgs s__law_opened) (defBody s__law_opened) (defScope s__law_opened) .none kVd29 dcd29 pmd29 and29 cdd29 ctd29), sld29⟩)
    (cd29 : PySem.W.codeIn K cdd29 "_law_opened" = true)
    (kd29 : PySem.W.keepIn K (.ref fd29) = true)
    (ad30 : PySem.W.nsIn K mainGlobals "_law_view_by" = some (some (.ref fd30)))
    (ld30 : K.lookup fd30 = some ⟨ocd30, odd30, .func (PySem.W.fnOf "_law_view_by" "_law_view_by" (defArgs s__law_view_by) (defBody s__law_view_by) (defScope s__law_view_by) .none kVd30 dcd30 pmd30 and30 cdd30 ctd30), sld30⟩)
    (cd30 : PySem.W.codeIn K cdd30 "_law_view_by" = true)
    (kd30 : PySem.W.keepIn K (.ref fd30) = true)
    (ad31 : PySem.W.nsIn K mainGlobals "_law_wrong_by" = some (some (.ref fd31)))
    (ld31 : K.lookup fd31 = some ⟨ocd31, odd31, .func (PySem.W.fnOf "_law_wrong_by" "_law_wrong_by" (defArgs s__law_wrong_by) (defBody s__law_wrong_by) (defScope s__law_wrong_by) .none kVd31 dcd31 pmd31 and31 cdd31 ctd31), sld31⟩)
    (cd31 : PySem.W.codeIn K cdd31 "_law_wrong_by" = true)
    (kd31 : PySem.W.keepIn K (.ref fd31) = true)
    (ad32 : PySem.W.nsIn K mainGlobals "_law_total" = some (some (.ref fd32)))
    (ld32 : K.lookup fd32 = some ⟨ocd32, odd32, .func (PySem.W.fnOf "_law_total" "_law_total" (defArgs s__law_total) (defBody s__law_total) (defScope s__law_total) .none kVd32 dcd32 pmd32 and32 cdd32 ctd32), sld32⟩)
    (cd32 : PySem.W.codeIn K cdd32 "_law_total" = true)
    (kd32 : PySem.W.keepIn K (.ref fd32) = true)
    (ad33 : PySem.W.nsIn K mainGlobals "law" = some (some (.ref fd33)))
    (ld33 : K.lookup fd33 = some ⟨ocd33, odd33, .func (PySem.W.fnOf "law" "law" (defArgs s_law) (defBody s_law) (defScope s_law) .none kVd33 dcd33 pmd33 and33 cdd33 ctd33), sld33⟩)
    (cd33 : PySem.W.codeIn K cdd33 "law" = true)
    (kd33 : PySem.W.keepIn K (.ref fd33) = true)
    (aCView : PySem.W.nsIn K mainGlobals "View" = some (some (.ref aView)))
    (pgView : PySem.W.plainGet K aView Str.empty = true)
    (hdView : PySem.W.hasDictIn K aView = true)
    (poView : PySem.W.plainOver K aView = true)
    (saView : PySem.W.findIn K (.ref aView) "__setattr__" = some (some (.builtin "object.__setattr__")))
    (mkView : PySem.W.makesIn K aView = true)
    (kcView : PySem.W.keepIn K (.ref aView) = true)
    (ycView : PySem.W.findIn K (.ref aView) "__class__" = some (some (.builtin "object.__class__")))
    (ysView : PySem.W.specialIn K (.builtin "object.__class__") "__get__" = some (some (.builtin "getset_descriptor.__get__")))
    (ytView : PySem.W.takesIn K (.builtin "object.__class__") = some true)
    (ymView : PySem.W.mroIn K aView (.type "object") = some true)
    (yiView : PySem.W.isClsIn K aView = true)
    (yyView : PySem.W.typeIn K (.ref aView) = some (.type "type"))
    (naViewrows : PySem.W.findIn K (.ref aView) "rows" = some none)
    (naViewheight : PySem.W.findIn K (.ref aView) "height" = some none)
    (naViewwidth : PySem.W.findIn K (.ref aView) "width" = some none)
    (am0 : PySem.W.findIn K (.ref aView) "__init__" = some (some (.ref fm0)))
    (im0 : PySem.W.isFn K (.ref fm0) = true)
    (lm0 : K.lookup fm0 = some ⟨ocm0, odm0, .func (PySem.W.fnOf "__init__" "View.__init__" (defArgs s_View___init__) (defBody s_View___init__) (defScope s_View___init__) .none kVm0 dcm0 pmm0 anm0 cdm0 ctm0), slm0⟩)
    (cm0 : PySem.W.codeIn K cdm0 "View.__init__" = true)
    (km0 : PySem.W.keepIn K (.ref fm0) = true)
    (am1 : PySem.W.findIn K (.ref aView) "cells" = some (some (.ref fm1)))
    (im1 : PySem.W.isFn K (.ref fm1) = true)
    (lm1 : K.lookup fm1 = some ⟨ocm1, odm1, .func (PySem.W.fnOf "cells" "View.cells" (defArgs s_View_cells) (defBody s_View_cells) (defScope s_View_cells) .none kVm1 dcm1 pmm1 anm1 cdm1 ctm1), slm1⟩)
    (cm1 : PySem.W.codeIn K cdm1 "View.cells" = true)
    (km1 : PySem.W.keepIn K (.ref fm1) = true)
    (am2 : PySem.W.findIn K (.ref aView) "beside" = some (some (.ref fm2)))
    (im2 : PySem.W.isFn K (.ref fm2) = true)
    (lm2 : K.lookup fm2 = some ⟨ocm2, odm2, .func (PySem.W.fnOf "beside" "View.beside" (defArgs s_View_beside) (defBody s_View_beside) (defScope s_View_beside) .none kVm2 dcm2 pmm2 anm2 cdm2 ctm2), slm2⟩)
    (cm2 : PySem.W.codeIn K cdm2 "View.beside" = true)
    (km2 : PySem.W.keepIn K (.ref fm2) = true)
    (am3 : PySem.W.findIn K (.ref aView) "hidden" = some (some (.ref fm3)))
    (im3 : PySem.W.isFn K (.ref fm3) = true)
    (lm3 : K.lookup fm3 = some ⟨ocm3, odm3, .func (PySem.W.fnOf "hidden" "View.hidden" (defArgs s_View_hidden) (defBody s_View_hidden) (defScope s_View_hidden) .none kVm3 dcm3 pmm3 anm3 cdm3 ctm3), slm3⟩)
    (cm3 : PySem.W.codeIn K cdm3 "View.hidden" = true)
    (km3 : PySem.W.keepIn K (.ref fm3) = true)
    (am4 : PySem.W.findIn K (.ref aView) "figure" = some (some (.ref fm4)))
    (im4 : PySem.W.isFn K (.ref fm4) = true)
    (lm4 : K.lookup fm4 = some ⟨ocm4, odm4, .func (PySem.W.fnOf "figure" "View.figure" (defArgs s_View_figure) (defBody s_View_figure) (defScope s_View_figure) .none kVm4 dcm4 pmm4 anm4 cdm4 ctm4), slm4⟩)
    (cm4 : PySem.W.codeIn K cdm4 "View.figure" = true)
    (km4 : PySem.W.keepIn K (.ref fm4) = true)
    (aEFieldError : PySem.W.nsIn K mainGlobals "FieldError" = some (some (.ref aFieldError)))
    (xEFieldError : PySem.W.excIn K aFieldError [.type "ValueError", .type "Exception", .type "BaseException", .type "object"] "ValueError.__new__" = true)
    (kEFieldError : PySem.W.keepIn K (.ref aFieldError) = true)
    (bEFieldError : PySem.W.subIn K (.ref aFieldError) (.type "BaseException") = some true)
    (tEFieldError : PySem.W.typeIn K (.ref aFieldError) = some (.type "type"))
    (gEFieldError : PySem.W.findIn K (.ref aFieldError) "__getattribute__" = some (some (.builtin "BaseException.__getattribute__")))
    (hEFieldError : PySem.W.findIn K (.ref aFieldError) "__getattr__" = some none)
    (dEFieldError : PySem.W.hasDictIn K aFieldError = true)
    (clEFieldError : PySem.W.findIn K (.ref aFieldError) "__class__" = some (some (.builtin "object.__class__")))
    (spEFieldError : PySem.W.specialIn K (.builtin "object.__class__") "__get__" = some (some (.builtin "getset_descriptor.__get__")))
    (tkEFieldError : PySem.W.takesIn K (.builtin "object.__class__") = some true)
    (mrEFieldError : PySem.W.mroIn K aFieldError (.type "object") = some true)
    (aEBadView : PySem.W.nsIn K mainGlobals "BadView" = some (some (.ref aBadView)))
    (xEBadView : PySem.W.excIn K aBadView [.type "ValueError", .type "Exception", .type "BaseException", .type "object"] "ValueError.__new__" = true)
    (kEBadView : PySem.W.keepIn K (.ref aBadView) = true)
    (bEBadView : PySem.W.subIn K (.ref aBadView) (.type "BaseException") = some true)
    (tEBadView : PySem.W.typeIn K (.ref aBadView) = some (.type "type"))
    (gEBadView : PySem.W.findIn K (.ref aBadView) "__getattribute__" = some (some (.builtin "BaseException.__getattribute__")))
    (hEBadView : PySem.W.findIn K (.ref aBadView) "__getattr__" = some none)
    (dEBadView : PySem.W.hasDictIn K aBadView = true)
    (clEBadView : PySem.W.findIn K (.ref aBadView) "__class__" = some (some (.builtin "object.__class__")))
    (spEBadView : PySem.W.specialIn K (.builtin "object.__class__") "__get__" = some (some (.builtin "getset_descriptor.__get__")))
    (tkEBadView : PySem.W.takesIn K (.builtin "object.__class__") = some true)
    (mrEBadView : PySem.W.mroIn K aBadView (.type "object") = some true)
    (aEBadLaying : PySem.W.nsIn K mainGlobals "BadLaying" = some (some (.ref aBadLaying)))
    (xEBadLaying : PySem.W.excIn K aBadLaying [.type "ValueError", .type "Exception", .type "BaseException", .type "object"] "ValueError.__new__" = true)
    (kEBadLaying : PySem.W.keepIn K (.ref aBadLaying) = true)
    (bEBadLaying : PySem.W.subIn K (.ref aBadLaying) (.type "BaseException") = some true)
    (tEBadLaying : PySem.W.typeIn K (.ref aBadLaying) = some (.type "type"))
    (gEBadLaying : PySem.W.findIn K (.ref aBadLaying) "__getattribute__" = some (some (.builtin "BaseException.__getattribute__")))
    (hEBadLaying : PySem.W.findIn K (.ref aBadLaying) "__getattr__" = some none)
    (dEBadLaying : PySem.W.hasDictIn K aBadLaying = true)
    (clEBadLaying : PySem.W.findIn K (.ref aBadLaying) "__class__" = some (some (.builtin "object.__class__")))
    (spEBadLaying : PySem.W.specialIn K (.builtin "object.__class__") "__get__" = some (some (.builtin "getset_descriptor.__get__")))
    (tkEBadLaying : PySem.W.takesIn K (.builtin "object.__class__") = some true)
    (mrEBadLaying : PySem.W.mroIn K aBadLaying (.type "object") = some true)
    (aENoCell : PySem.W.nsIn K mainGlobals "NoCell" = some (some (.ref aNoCell)))
    (xENoCell : PySem.W.excIn K aNoCell [.type "ValueError", .type "Exception", .type "BaseException", .type "object"] "ValueError.__new__" = true)
    (kENoCell : PySem.W.keepIn K (.ref aNoCell) = true)
    (bENoCell : PySem.W.subIn K (.ref aNoCell) (.type "BaseException") = some true)
    (tENoCell : PySem.W.typeIn K (.ref aNoCell) = some (.type "type"))
    (gENoCell : PySem.W.findIn K (.ref aNoCell) "__getattribute__" = some (some (.builtin "BaseException.__getattribute__")))
    (hENoCell : PySem.W.findIn K (.ref aNoCell) "__getattr__" = some none)
    (dENoCell : PySem.W.hasDictIn K aNoCell = true)
    (clENoCell : PySem.W.findIn K (.ref aNoCell) "__class__" = some (some (.builtin "object.__class__")))
    (spENoCell : PySem.W.specialIn K (.builtin "object.__class__") "__get__" = some (some (.builtin "getset_descriptor.__get__")))
    (tkENoCell : PySem.W.takesIn K (.builtin "object.__class__") = some true)
    (mrENoCell : PySem.W.mroIn K aNoCell (.type "object") = some true)
    (aETooGreat : PySem.W.nsIn K mainGlobals "TooGreat" = some (some (.ref aTooGreat)))
    (xETooGreat : PySem.W.excIn K aTooGreat [.type "ValueError", .type "Exception", .type "BaseException", .type "object"] "ValueError.__new__" = true)
    (kETooGreat : PySem.W.keepIn K (.ref aTooGreat) = true)
    (bETooGreat : PySem.W.subIn K (.ref aTooGreat) (.type "BaseException") = some true)
    (tETooGreat : PySem.W.typeIn K (.ref aTooGreat) = some (.type "type"))
    (gETooGreat : PySem.W.findIn K (.ref aTooGreat) "__getattribute__" = some (some (.builtin "BaseException.__getattribute__")))
    (hETooGreat : PySem.W.findIn K (.ref aTooGreat) "__getattr__" = some none)
    (dETooGreat : PySem.W.hasDictIn K aTooGreat = true)
    (clETooGreat : PySem.W.findIn K (.ref aTooGreat) "__class__" = some (some (.builtin "object.__class__")))
    (spETooGreat : PySem.W.specialIn K (.builtin "object.__class__") "__get__" = some (some (.builtin "getset_descriptor.__get__")))
    (tkETooGreat : PySem.W.takesIn K (.builtin "object.__class__") = some true)
    (mrETooGreat : PySem.W.mroIn K aTooGreat (.type "object") = some true)
    (uFieldError_FieldError : PySem.W.subIn K (.ref aFieldError) (.ref aFieldError) = some true)
    (uFieldError_BadView : PySem.W.subIn K (.ref aFieldError) (.ref aBadView) = some false)
    (uFieldError_BadLaying : PySem.W.subIn K (.ref aFieldError) (.ref aBadLaying) = some false)
    (uFieldError_NoCell : PySem.W.subIn K (.ref aFieldError) (.ref aNoCell) = some false)
    (uFieldError_TooGreat : PySem.W.subIn K (.ref aFieldError) (.ref aTooGreat) = some false)
    (uBadView_FieldError : PySem.W.subIn K (.ref aBadView) (.ref aFieldError) = some true)
    (uBadView_BadView : PySem.W.subIn K (.ref aBadView) (.ref aBadView) = some true)
    (uBadView_BadLaying : PySem.W.subIn K (.ref aBadView) (.ref aBadLaying) = some false)
    (uBadView_NoCell : PySem.W.subIn K (.ref aBadView) (.ref aNoCell) = some false)
    (uBadView_TooGreat : PySem.W.subIn K (.ref aBadView) (.ref aTooGreat) = some false)
    (uBadLaying_FieldError : PySem.W.subIn K (.ref aBadLaying) (.ref aFieldError) = some true)
    (uBadLaying_BadView : PySem.W.subIn K (.ref aBadLaying) (.ref aBadView) = some false)
    (uBadLaying_BadLaying : PySem.W.subIn K (.ref aBadLaying) (.ref aBadLaying) = some true)
    (uBadLaying_NoCell : PySem.W.subIn K (.ref aBadLaying) (.ref aNoCell) = some false)
    (uBadLaying_TooGreat : PySem.W.subIn K (.ref aBadLaying) (.ref aTooGreat) = some false)
    (uNoCell_FieldError : PySem.W.subIn K (.ref aNoCell) (.ref aFieldError) = some true)
    (uNoCell_BadView : PySem.W.subIn K (.ref aNoCell) (.ref aBadView) = some false)
    (uNoCell_BadLaying : PySem.W.subIn K (.ref aNoCell) (.ref aBadLaying) = some false)
    (uNoCell_NoCell : PySem.W.subIn K (.ref aNoCell) (.ref aNoCell) = some true)
    (uNoCell_TooGreat : PySem.W.subIn K (.ref aNoCell) (.ref aTooGreat) = some false)
    (uTooGreat_FieldError : PySem.W.subIn K (.ref aTooGreat) (.ref aFieldError) = some true)
    (uTooGreat_BadView : PySem.W.subIn K (.ref aTooGreat) (.ref aBadView) = some false)
    (uTooGreat_BadLaying : PySem.W.subIn K (.ref aTooGreat) (.ref aBadLaying) = some false)
    (uTooGreat_NoCell : PySem.W.subIn K (.ref aTooGreat) (.ref aNoCell) = some false)
    (uTooGreat_TooGreat : PySem.W.subIn K (.ref aTooGreat) (.ref aTooGreat) = some true)
    (vEFieldError : PySem.W.subIn K (.ref aFieldError) (.type "ValueError") = some true)
    (iEFieldError : PySem.W.isClsIn K aFieldError = true)
    (vEBadView : PySem.W.subIn K (.ref aBadView) (.type "ValueError") = some true)
    (iEBadView : PySem.W.isClsIn K aBadView = true)
    (vEBadLaying : PySem.W.subIn K (.ref aBadLaying) (.type "ValueError") = some true)
    (iEBadLaying : PySem.W.isClsIn K aBadLaying = true)
    (vENoCell : PySem.W.subIn K (.ref aNoCell) (.type "ValueError") = some true)
    (iENoCell : PySem.W.isClsIn K aNoCell = true)
    (vETooGreat : PySem.W.subIn K (.ref aTooGreat) (.type "ValueError") = some true)
    (iETooGreat : PySem.W.isClsIn K aTooGreat = true)
    (gMOST : PySem.W.nsIn K mainGlobals "MOST" = some (some (.int 6 tkMOST)))
    (gMOST_CELLS : PySem.W.nsIn K mainGlobals "MOST_CELLS" = some (some (.int 12 tkMOST_CELLS))) :
    ∃ fd : FuncData, (∀ (s : Shared) (v : Value), BindsTo s fd ⟨[v], []⟩ [("script", v)]) ∧ ∀ base : Heap, K.In base → base.Ns mainGlobals mg → FnOk l.prog w K mg base (L2.CX l.prog w) L_law fa fd ["script"] (spLaw K) := by
  have e := hfa.symm.trans (PySem.W.mg_of X G ad33)
  cases e
  have T : Facts K mg ⟨aView, 0, aFieldError, aBadView, aBadLaying, aNoCell, aTooGreat, 0, 0, 0⟩ := ⟨fun x hx => PySem.W.mg_none_of X G (bl x hx),
    ⟨_, _, fun_mk (st := s_rising) ld0 cd0 kd0, PySem.W.mg_of X G ad0, kd0, (fun_mk (st := s_rising) ld0 cd0 kd0).binds (ps := ["cells"]) fun _ _ _ _ _ _ us hl => match us, hl with | [_], _ => rfl⟩,
    ⟨_, _, fun_mk (st := s_all_cells) ld1 cd1 kd1, PySem.W.mg_of X G ad1, kd1, (fun_mk (st := s_all_cells) ld1 cd1 kd1).binds (ps := ["height", "width"]) fun _ _ _ _ _ _ us hl => match us, hl with | [_, _], _ => rfl⟩,
    ⟨_, _, fun_mk (st := s_around) ld2 cd2 kd2, PySem.W.mg_of X G ad2, kd2, (fun_mk (st := s_around) ld2 cd2 kd2).binds (ps := ["height", "width", "cell"]) fun _ _ _ _ _ _ us hl => match us, hl with | [_, _, _], _ => rfl⟩,
    ⟨_, _, fun_mk (st := s_rows_right) ld3 cd3 kd3, PySem.W.mg_of X G ad3, kd3, (fun_mk (st := s_rows_right) ld3 cd3 kd3).binds (ps := ["rows"]) fun _ _ _ _ _ _ us hl => match us, hl with | [_], _ => rfl⟩,
    ⟨_, _, fun_mk (st := s_closed) ld4 cd4 kd4, PySem.W.mg_of X G ad4, kd4, (fun_mk (st := s_closed) ld4 cd4 kd4).binds (ps := ["view"]) fun _ _ _ _ _ _ us hl => match us, hl with | [_], _ => rfl⟩,
    ⟨_, _, fun_mk (st := s_is_edge) ld5 cd5 kd5, PySem.W.mg_of X G ad5, kd5, (fun_mk (st := s_is_edge) ld5 cd5 kd5).binds (ps := ["view", "cell"]) fun _ _ _ _ _ _ us hl => match us, hl with | [_, _], _ => rfl⟩,
    ⟨_, _, fun_mk (st := s_edge) ld6 cd6 kd6, PySem.W.mg_of X G ad6, kd6, (fun_mk (st := s_edge) ld6 cd6 kd6).binds (ps := ["view"]) fun _ _ _ _ _ _ us hl => match us, hl with | [_], _ => rfl⟩,
    ⟨_, _, fun_mk (st := s_far) ld7 cd7 kd7, PySem.W.mg_of X G ad7, kd7, (fun_mk (st := s_far) ld7 cd7 kd7).binds (ps := ["view"]) fun _ _ _ _ _ _ us hl => match us, hl with | [_], _ => rfl⟩,
    ⟨_, _, fun_mk (st := s_keeps) ld8 cd8 kd8, PySem.W.mg_of X G ad8, kd8, (fun_mk (st := s_keeps) ld8 cd8 kd8).binds (ps := ["view", "laying"]) fun _ _ _ _ _ _ us hl => match us, hl with | [_, _], _ => rfl⟩,
    ⟨_, _, fun_mk (st := s_open_near) ld9 cd9 kd9, PySem.W.mg_of X G ad9, kd9, (fun_mk (st := s_open_near) ld9 cd9 kd9).binds (ps := ["view", "cells"]) fun _ _ _ _ _ _ us hl => match us, hl with | [_, _], _ => rfl⟩,
    ⟨_, _, fun_mk (st := s_parts) ld10 cd10 kd10, PySem.W.mg_of X G ad10, kd10, (fun_mk (st := s_parts) ld10 cd10 kd10).binds (ps := ["view"]) fun _ _ _ _ _ _ us hl => match us, hl with | [_], _ => rfl⟩,
    ⟨_, _, fun_mk (st := s_part_of) ld11 cd11 kd11, PySem.W.mg_of X G ad11, kd11, (fun_mk (st := s_part_of) ld11 cd11 kd11).binds (ps := ["view", "cell"]) fun _ _ _ _ _ _ us hl => match us, hl with | [_, _], _ => rfl⟩,
    ⟨_, _, fun_mk (st := s_check_size) ld12 cd12 kd12, PySem.W.mg_of X G ad12, kd12, (fun_mk (st := s_check_size) ld12 cd12 kd12).binds (ps := ["part"]) fun _ _ _ _ _ _ us hl => match us, hl with | [_], _ => rfl⟩,
    ⟨_, _, fun_mk (st := s_can_still) ld13 cd13 kd13, PySem.W.mg_of X G ad13, kd13, (fun_mk (st := s_can_still) ld13 cd13 kd13).binds (ps := ["view", "told", "chosen", "left"]) fun _ _ _ _ _ _ us hl => match us, hl with | [_, _, _, _], _ => rfl⟩,
    ⟨_, _, fun_mk (st := s_part_layings) ld14 cd14 kd14, PySem.W.mg_of X G ad14, kd14, (fun_mk (st := s_part_layings) ld14 cd14 kd14).binds (ps := ["view", "part"]) fun _ _ _ _ _ _ us hl => match us, hl with | [_, _], _ => rfl⟩,
    ⟨_, _, fun_mk (st := s_layings) ld15 cd15 kd15, PySem.W.mg_of X G ad15, kd15, (fun_mk (st := s_layings) ld15 cd15 kd15).binds (ps := ["view", "cell"]) fun _ _ _ _ _ _ us hl => match us, hl with | [_, _], _ => rfl⟩,
    ⟨_, _, fun_mk (st := s_idle_right) ld16 cd16 kd16, PySem.W.mg_of X G ad16, kd16, (fun_mk (st := s_idle_right) ld16 cd16 kd16).binds (ps := ["view"]) fun _ _ _ _ _ _ us hl => match us, hl with | [_], _ => rfl⟩,
    ⟨_, _, fun_mk (st := s_joined) ld17 cd17 kd17, PySem.W.mg_of X G ad17, kd17, (fun_mk (st := s_joined) ld17 cd17 kd17).binds (ps := ["one", "other"]) fun _ _ _ _ _ _ us hl => match us, hl with | [_, _], _ => rfl⟩,
    ⟨_, _, fun_mk (st := s_choices) ld18 cd18 kd18, PySem.W.mg_of X G ad18, kd18, (fun_mk (st := s_choices) ld18 cd18 kd18).binds (ps := ["many"]) fun _ _ _ _ _ _ us hl => match us, hl with | [_], _ => rfl⟩,
    ⟨_, _, fun_mk (st := s_by_stones) ld19 cd19 kd19, PySem.W.mg_of X G ad19, kd19, (fun_mk (st := s_by_stones) ld19 cd19 kd19).binds (ps := ["view", "wanted"]) fun _ _ _ _ _ _ us hl => match us, hl with | [_, _], _ => rfl⟩,
    ⟨_, _, fun_mk (st := s_count) ld20 cd20 kd20, PySem.W.mg_of X G ad20, kd20, (fun_mk (st := s_count) ld20 cd20 kd20).binds (ps := ["view", "stones"]) fun _ _ _ _ _ _ us hl => match us, hl with | [_, _], _ => rfl⟩,
    ⟨_, _, fun_mk (st := s__law_cell_at) ld21 cd21 kd21, PySem.W.mg_of X G ad21, kd21, (fun_mk (st := s__law_cell_at) ld21 cd21 kd21).binds (ps := ["script", "k"]) fun _ _ _ _ _ _ us hl => match us, hl with | [_, _], _ => rfl⟩,
    ⟨_, _, fun_mk (st := s__law_mix) ld22 cd22 kd22, PySem.W.mg_of X G ad22, kd22, (fun_mk (st := s__law_mix) ld22 cd22 kd22).binds (ps := ["cell", "k", "many"]) fun _ _ _ _ _ _ us hl => match us, hl with | [_, _, _], _ => rfl⟩,
    ⟨_, _, fun_mk (st := s__law_near) ld23 cd23 kd23, PySem.W.mg_of X G ad23, kd23, (fun_mk (st := s__law_near) ld23 cd23 kd23).binds (ps := ["height", "width", "cell"]) fun _ _ _ _ _ _ us hl => match us, hl with | [_, _, _], _ => rfl⟩,
    ⟨_, _, fun_mk (st := s__law_sizes) ld24 cd24 kd24, PySem.W.mg_of X G ad24, kd24, (fun_mk (st := s__law_sizes) ld24 cd24 kd24).binds (ps := ["rows"]) fun _ _ _ _ _ _ us hl => match us, hl with | [_], _ => rfl⟩,
    ⟨_, _, fun_mk (st := s__law_cells) ld25 cd25 kd25, PySem.W.mg_of X G ad25, kd25, (fun_mk (st := s__law_cells) ld25 cd25 kd25).binds (ps := ["rows", "signs"]) fun _ _ _ _ _ _ us hl => match us, hl with | [_, _], _ => rfl⟩,
    ⟨_, _, fun_mk (st := s__law_field_by) ld26 cd26 kd26, PySem.W.mg_of X G ad26, kd26, (fun_mk (st := s__law_field_by) ld26 cd26 kd26).binds (ps := ["script", "most"]) fun _ _ _ _ _ _ us hl => match us, hl with | [_, _], _ => rfl⟩,
    ⟨_, _, fun_mk (st := s__law_figure) ld27 cd27 kd27, PySem.W.mg_of X G ad27, kd27, (fun_mk (st := s__law_figure) ld27 cd27 kd27).binds (ps := ["height", "width", "stones", "cell"]) fun _ _ _ _ _ _ us hl => match us, hl with | [_, _, _, _], _ => rfl⟩,
    ⟨_, _, fun_mk (st := s__law_shown) ld28 cd28 kd28, PySem.W.mg_of X G ad28, kd28, (fun_mk (st := s__law_shown) ld28 cd28 kd28).binds (ps := ["height", "width", "stones", "known"]) fun _ _ _ _ _ _ us hl => match us, hl with | [_, _, _, _], _ => rfl⟩,
    ⟨_, _, fun_mk (st := s__law_opened) ld29 cd29 kd29, PySem.W.mg_of X G ad29, kd29, (fun_mk (st := s__law_opened) ld29 cd29 kd29).binds (ps := ["height", "width", "stones", "known", "cell"]) fun _ _ _ _ _ _ us hl => match us, hl with | [_, _, _, _, _], _ => rfl⟩,
    ⟨_, _, fun_mk (st := s__law_view_by) ld30 cd30 kd30, PySem.W.mg_of X G ad30, kd30, (fun_mk (st := s__law_view_by) ld30 cd30 kd30).binds (ps := ["script", "most", "steps"]) fun _ _ _ _ _ _ us hl => match us, hl with | [_, _, _], _ => rfl⟩,
    ⟨_, _, fun_mk (st := s__law_wrong_by) ld31 cd31 kd31, PySem.W.mg_of X G ad31, kd31, (fun_mk (st := s__law_wrong_by) ld31 cd31 kd31).binds (ps := ["script", "rows"]) fun _ _ _ _ _ _ us hl => match us, hl with | [_, _], _ => rfl⟩,
    ⟨_, _, fun_mk (st := s__law_total) ld32 cd32 kd32, PySem.W.mg_of X G ad32, kd32, (fun_mk (st := s__law_total) ld32 cd32 kd32).binds (ps := ["view"]) fun _ _ _ _ _ _ us hl => match us, hl with | [_], _ => rfl⟩,
    ⟨_, _, fun_mk (st := s_law) ld33 cd33 kd33, PySem.W.mg_of X G ad33, kd33, (fun_mk (st := s_law) ld33 cd33 kd33).binds (ps := ["script"]) fun _ _ _ _ _ _ us hl => match us, hl with | [_], _ => rfl⟩,
    ⟨⟨pgView, hdView, poView, saView⟩, PySem.W.mg_of X G aCView, mkView, kcView⟩,
    ⟨ycView, ysView, ytView, ymView, yiView, yyView⟩,
    naViewrows,
    naViewheight,
    naViewwidth,
    ⟨_, _, fun_mk (st := s_View___init__) lm0 cm0 km0, am0, im0, km0, (fun_mk (st := s_View___init__) lm0 cm0 km0).binds (ps := ["self", "rows"]) fun _ _ _ _ _ _ us hl => match us, hl with | [_, _], _ => rfl⟩,
    ⟨_, _, fun_mk (st := s_View_cells) lm1 cm1 km1, am1, im1, km1, (fun_mk (st := s_View_cells) lm1 cm1 km1).binds (ps := ["self"]) fun _ _ _ _ _ _ us hl => match us, hl with | [_], _ => rfl⟩,
    ⟨_, _, fun_mk (st := s_View_beside) lm2 cm2 km2, am2, im2, km2, (fun_mk (st := s_View_beside) lm2 cm2 km2).binds (ps := ["self", "cell"]) fun _ _ _ _ _ _ us hl => match us, hl with | [_, _], _ => rfl⟩,
    ⟨_, _, fun_mk (st := s_View_hidden) lm3 cm3 km3, am3, im3, km3, (fun_mk (st := s_View_hidden) lm3 cm3 km3).binds (ps := ["self", "cell"]) fun _ _ _ _ _ _ us hl => match us, hl with | [_, _], _ => rfl⟩,
    ⟨_, _, fun_mk (st := s_View_figure) lm4 cm4 km4, am4, im4, km4, (fun_mk (st := s_View_figure) lm4 cm4 km4).binds (ps := ["self", "cell"]) fun _ _ _ _ _ _ us hl => match us, hl with | [_, _], _ => rfl⟩,
    ⟨PySem.W.mg_of X G aEFieldError, xEFieldError, kEFieldError, bEFieldError, tEFieldError⟩,
    ⟨gEFieldError, hEFieldError, bEFieldError, dEFieldError, clEFieldError, spEFieldError, tkEFieldError, mrEFieldError⟩,
    ⟨PySem.W.mg_of X G aEBadView, xEBadView, kEBadView, bEBadView, tEBadView⟩,
    ⟨gEBadView, hEBadView, bEBadView, dEBadView, clEBadView, spEBadView, tkEBadView, mrEBadView⟩,
    ⟨PySem.W.mg_of X G aEBadLaying, xEBadLaying, kEBadLaying, bEBadLaying, tEBadLaying⟩,
    ⟨gEBadLaying, hEBadLaying, bEBadLaying, dEBadLaying, clEBadLaying, spEBadLaying, tkEBadLaying, mrEBadLaying⟩,
    ⟨PySem.W.mg_of X G aENoCell, xENoCell, kENoCell, bENoCell, tENoCell⟩,
    ⟨gENoCell, hENoCell, bENoCell, dENoCell, clENoCell, spENoCell, tkENoCell, mrENoCell⟩,
    ⟨PySem.W.mg_of X G aETooGreat, xETooGreat, kETooGreat, bETooGreat, tETooGreat⟩,
    ⟨gETooGreat, hETooGreat, bETooGreat, dETooGreat, clETooGreat, spETooGreat, tkETooGreat, mrETooGreat⟩,
    uFieldError_FieldError,
    uFieldError_BadView,
    uFieldError_BadLaying,
    uFieldError_NoCell,
    uFieldError_TooGreat,
    uBadView_FieldError,
    uBadView_BadView,
    uBadView_BadLaying,
    uBadView_NoCell,
    uBadView_TooGreat,
    uBadLaying_FieldError,
    uBadLaying_BadView,
    uBadLaying_BadLaying,
    uBadLaying_NoCell,
    uBadLaying_TooGreat,
    uNoCell_FieldError,
    uNoCell_BadView,
    uNoCell_BadLaying,
    uNoCell_NoCell,
    uNoCell_TooGreat,
    uTooGreat_FieldError,
    uTooGreat_BadView,
    uTooGreat_BadLaying,
    uTooGreat_NoCell,
    uTooGreat_TooGreat,
    vEFieldError,
    iEFieldError,
    vEBadView,
    iEBadView,
    vEBadLaying,
    iEBadLaying,
    vENoCell,
    iENoCell,
    vETooGreat,
    iETooGreat,
    ⟨_, PySem.W.mg_of X G gMOST⟩,
    ⟨_, PySem.W.mg_of X G gMOST_CELLS⟩⟩
  have F := fun_mk (st := s_law) ld33 cd33 kd33
  exact ⟨_, fun s v => .of_eq rfl, fun base _ _ => ok_law T F⟩
theorem walk {l : PySem.W.OpenLaw} {q : Program} {loose : List Str} {XP : (Str → Option Value) → Heap → Prop} {YP : World → Heap → Prop} {d : DefRec} {K : Params → PySem.W.Frag} (hn : l.most = some 63) (hdf : d.params.defaults = [])
    (hY : ∀ (w : World) (h : Heap), YP w h → (K w.params).In h)
    (F : ∀ (w : World) (mg : Str → Option Value) (fa : Addr) (h : Heap), (K w.params).In h → h.Ns mainGlobals mg → mg d.name = some (.ref fa) →
      ∃ fd : FuncData, (∀ (s : Shared) (u : Value), BindsTo s fd ⟨[u], []⟩ [("script", u)]) ∧ ∀ base : Heap, (K w.params).In base → base.Ns mainGlobals mg → FnOk l.prog w (K w.params) mg base (L2.CX l.prog w) L_law fa fd ["script"] (spLaw (K w.params))) :
    PySem.W.WalkO q loose XP YP l.row.toRowW d [] (fun f vs => PySem.call f vs) :=
  L2.walk_of (n := 63) (k := L_law) (x := "script") (CX := fun w => L2.CX l.prog w) (sp := fun w => spLaw (K w.params)) hn (by decide) hdf ⟨rfl, by decide, by decide⟩ hY F (fun _ _ a ns hl _ hS => ⟨a, ns, rfl, hS, hl, fun _ => rfl⟩) cx_none
end DF
open PySem PySem.W PyProof.Rows
set_option maxRecDepth 100000 in
set_option maxHeartbeats 0 in
theorem PySem.Challenge.cw_dampfield_k14_whole_counts_together_holds : PySem.Challenge.rw_dampfield_k14_whole_counts_together.Holds := by
  w_on; o_law; k_head; (case hw => w_witness2)
  k_fill
  refine DF.walk (l := PySem.Challenge.rw_dampfield_k14_whole_counts_together) rfl rfl (fun w h Y => PySem.W.kIn_of Y) ?F
  case F =>
    intro w mg fa h KX G hmg
    refine' DF.all_mk KX G hmg ?bl ?ad0 ?ld0 ?cd0 ?kd0 ?ad1 ?ld1 ?cd1 ?kd1 ?ad2 ?ld2 ?cd2 ?kd2 ?ad3 ?ld3 ?cd3 ?kd3 ?ad4 ?ld4 ?cd4 ?kd4 ?ad5 ?ld5 ?cd5 ?kd5 ?ad6 ?ld6 ?cd6 ?kd6 ?ad7 ?ld7 ?cd7 ?kd7 ?ad8 ?ld8 ?cd8 ?kd8 ?ad9 ?ld9 ?cd9 ?kd9 ?ad10 ?ld10 ?cd10 ?kd10 ?ad11 ?ld11 ?cd11 ?kd11 ?ad12 ?ld12 ?cd12 ?kd12 ?ad13 ?ld13 ?cd13 ?kd13 ?ad14 ?ld14 ?cd14 ?kd14 ?ad15 ?ld15 ?cd15 ?kd15 ?ad16 ?ld16 ?cd16 ?kd16 ?ad17 ?ld17 ?cd17 ?kd17 ?ad18 ?ld18 ?cd18 ?kd18 ?ad19 ?ld19 ?cd19 ?kd19 ?ad20 ?ld20 ?cd20 ?kd20 ?ad21 ?ld21 ?cd21 ?kd21 ?ad22 ?ld22 ?cd22 ?kd22 ?ad23 ?ld23 ?cd23 ?kd23 ?ad24 ?ld24 ?cd24 ?kd24 ?ad25 ?ld25 ?cd25 ?kd25 ?ad26 ?ld26 ?cd26 ?kd26 ?ad27 ?ld27 ?cd27 ?kd27 ?ad28 ?ld28 ?cd28 ?kd28 ?ad29 ?ld29 ?cd29 ?kd29 ?ad30 ?ld30 ?cd30 ?kd30 ?ad31 ?ld31 ?cd31 ?kd31 ?ad32 ?ld32 ?cd32 ?kd32 ?ad33 ?ld33 ?cd33 ?kd33 ?aCView ?pgView ?hdView ?poView ?saView ?mkView ?kcView ?ycView ?ysView ?ytView ?ymView ?yiView ?yyView ?naViewrows ?naViewheight ?naViewwidth ?am0 ?im0 ?lm0 ?cm0 ?km0 ?am1 ?im1 ?lm1 ?cm1 ?km1 ?am2 ?im2 ?lm2 ?cm2 ?km2 ?am3 ?im3 ?lm3 ?cm3 ?km3 ?am4 ?im4 ?lm4 ?cm4 ?km4 ?aEFieldError ?xEFieldError ?kEFieldError ?bEFieldError ?tEFieldError ?gEFieldError ?hEFieldError ?dEFieldError ?clEFieldError ?spEFieldError ?tkEFieldError ?mrEFieldError ?aEBadView ?xEBadView ?kEBadView ?bEBadView ?tEBadView ?gEBadView ?hEBadView ?dEBadView ?clEBadView ?spEBadView ?tkEBadView ?mrEBadView ?aEBadLaying ?xEBadLaying ?kEBadLaying ?bEBadLaying ?tEBadLaying ?gEBadLaying ?hEBadLaying ?dEBadLaying ?clEBadLaying ?spEBadLaying ?tkEBadLaying ?mrEBadLaying ?aENoCell ?xENoCell ?kENoCell ?bENoCell ?tENoCell ?gENoCell ?hENoCell ?dENoCell ?clENoCell ?spENoCell ?tkENoCell ?mrENoCell ?aETooGreat ?xETooGreat ?kETooGreat ?bETooGreat ?tETooGreat ?gETooGreat ?hETooGreat ?dETooGreat ?clETooGreat ?spETooGreat ?tkETooGreat ?mrETooGreat ?uFieldError_FieldError ?uFieldError_BadView ?uFieldError_BadLaying ?uFieldError_NoCell ?uFieldError_TooGreat ?uBadView_FieldError ?uBadView_BadView ?uBadView_BadLaying ?uBadView_NoCell ?uBadView_TooGreat ?uBadLaying_FieldError ?uBadLaying_BadView ?uBadLaying_BadLaying ?uBadLaying_NoCell ?uBadLaying_TooGreat ?uNoCell_FieldError ?uNoCell_BadView ?uNoCell_BadLaying ?uNoCell_NoCell ?uNoCell_TooGreat ?uTooGreat_FieldError ?uTooGreat_BadView ?uTooGreat_BadLaying ?uTooGreat_NoCell ?uTooGreat_TooGreat ?vEFieldError ?iEFieldError ?vEBadView ?iEBadView ?vEBadLaying ?iEBadLaying ?vENoCell ?iENoCell ?vETooGreat ?iETooGreat ?gMOST ?gMOST_CELLS
    (case bl => (intro x hx; simp only [List.mem_cons, List.not_mem_nil, or_false] at hx; rcases hx with rfl | rfl | rfl | rfl | rfl | rfl | rfl | rfl | rfl | rfl | rfl | rfl | rfl | rfl | rfl | rfl | rfl | rfl | rfl <;> k_is))
    (case ad0 => k_is)
    (case ld0 => k_is)
    (case cd0 => k_is)
    (case kd0 => k_is)
    (case ad1 => k_is)
    (case ld1 => k_is)
    (case cd1 => k_is)
    (case kd1 => k_is)
    (case ad2 => k_is)
    (case ld2 => k_is)
    (case cd2 => k_is)
    (case kd2 => k_is)
    (case ad3 => k_is)
    (case ld3 => k_is)
    (case cd3 => k_is)
    (case kd3 => k_is)
    (case ad4 => k_is)
    (case ld4 => k_is)
    (case cd4 => k_is)
    (case kd4 => k_is)
    (case ad5 => k_is)
    (case ld5 => k_is)
    (case cd5 => k_is)
    (case kd5 => k_is)
    (case ad6 => k_is)
    (case ld6 => k_is)
    (case cd6 => k_is)
    (case kd6 => k_is)
    (case ad7 => k_is)
    (case ld7 => k_is)
    (case cd7 => k_is)
    (case kd7 => k_is)
    (case ad8 => k_is)
    (case ld8 => k_is)
    (case cd8 => k_is)
    (case kd8 => k_is)
    (case ad9 => k_is)
    (case ld9 => k_is)
    (case cd9 => k_is)
    (case kd9 => k_is)
    (case ad10 => k_is)
    (case ld10 => k_is)
    (case cd10 => k_is)
    (case kd10 => k_is)
    (case ad11 => k_is)
    (case ld11 => k_is)
    (case cd11 => k_is)
    (case kd11 => k_is)
    (case ad12 => k_is)
    (case ld12 => k_is)
    (case cd12 => k_is)
    (case kd12 => k_is)
    (case ad13 => k_is)
    (case ld13 => k_is)
    (case cd13 => k_is)
    (case kd13 => k_is)
    (case ad14 => k_is)
    (case ld14 => k_is)
    (case cd14 => k_is)
    (case kd14 => k_is)
    (case ad15 => k_is)
    (case ld15 => k_is)
    (case cd15 => k_is)
    (case kd15 => k_is)
    (case ad16 => k_is)
    (case ld16 => k_is)
    (case cd16 => k_is)
    (case kd16 => k_is)
    (case ad17 => k_is)
    (case ld17 => k_is)
    (case cd17 => k_is)
    (case kd17 => k_is)
    (case ad18 => k_is)
    (case ld18 => k_is)
    (case cd18 => k_is)
    (case kd18 => k_is)
    (case ad19 => k_is)
    (case ld19 => k_is)
    (case cd19 => k_is)
    (case kd19 => k_is)
    (case ad20 => k_is)
    (case ld20 => k_is)
    (case cd20 => k_is)
    (case kd20 => k_is)
    (case ad21 => k_is)
    (case ld21 => k_is)
    (case cd21 => k_is)
    (case kd21 => k_is)
    (case ad22 => k_is)
    (case ld22 => k_is)
    (case cd22 => k_is)
    (case kd22 => k_is)
    (case ad23 => k_is)
    (case ld23 => k_is)
    (case cd23 => k_is)
    (case kd23 => k_is)
    (case ad24 => k_is)
    (case ld24 => k_is)
    (case cd24 => k_is)
    (case kd24 => k_is)
    (case ad25 => k_is)
    (case ld25 => k_is)
    (case cd25 => k_is)
    (case kd25 => k_is)
    (case ad26 => k_is)
    (case ld26 => k_is)
    (case cd26 => k_is)
    (case kd26 => k_is)
    (case ad27 => k_is)
    (case ld27 => k_is)
    (case cd27 => k_is)
    (case kd27 => k_is)
    (case ad28 => k_is)
    (case ld28 => k_is)
    (case cd28 => k_is)
    (case kd28 => k_is)
    (case ad29 => k_is)
    (case ld29 => k_is)
    (case cd29 => k_is)
    (case kd29 => k_is)
    (case ad30 => k_is)
    (case ld30 => k_is)
    (case cd30 => k_is)
    (case kd30 => k_is)
    (case ad31 => k_is)
    (case ld31 => k_is)
    (case cd31 => k_is)
    (case kd31 => k_is)
    (case ad32 => k_is)
    (case ld32 => k_is)
    (case cd32 => k_is)
    (case kd32 => k_is)
    (case ad33 => k_is)
    (case ld33 => k_is)
    (case cd33 => k_is)
    (case kd33 => k_is)
    (case aCView => k_is)
    (case pgView => k_is)
    (case hdView => k_is)
    (case poView => k_is)
    (case saView => k_is)
    (case mkView => k_is)
    (case kcView => k_is)
    (case ycView => k_is)
    (case ysView => k_is)
    (case ytView => k_is)
    (case ymView => k_is)
    (case yiView => k_is)
    (case yyView => k_is)
    (case naViewrows => k_is)
    (case naViewheight => k_is)
    (case naViewwidth => k_is)
    (case am0 => k_is)
    (case im0 => k_is)
    (case lm0 => k_is)
    (case cm0 => k_is)
    (case km0 => k_is)
    (case am1 => k_is)
    (case im1 => k_is)
    (case lm1 => k_is)
    (case cm1 => k_is)
    (case km1 => k_is)
    (case am2 => k_is)
    (case im2 => k_is)
    (case lm2 => k_is)
    (case cm2 => k_is)
    (case km2 => k_is)
    (case am3 => k_is)
    (case im3 => k_is)
    (case lm3 => k_is)
    (case cm3 => k_is)
    (case km3 => k_is)
    (case am4 => k_is)
    (case im4 => k_is)
    (case lm4 => k_is)
    (case cm4 => k_is)
    (case km4 => k_is)
    (case aEFieldError => k_is)
    (case xEFieldError => k_exc)
    (case kEFieldError => k_is)
    (case bEFieldError => k_is)
    (case tEFieldError => k_is)
    (case gEFieldError => k_is)
    (case hEFieldError => k_is)
    (case dEFieldError => k_is)
    (case clEFieldError => k_is)
    (case spEFieldError => k_is)
    (case tkEFieldError => k_is)
    (case mrEFieldError => k_is)
    (case aEBadView => k_is)
    (case xEBadView => k_exc)
    (case kEBadView => k_is)
    (case bEBadView => k_is)
    (case tEBadView => k_is)
    (case gEBadView => k_is)
    (case hEBadView => k_is)
    (case dEBadView => k_is)
    (case clEBadView => k_is)
    (case spEBadView => k_is)
    (case tkEBadView => k_is)
    (case mrEBadView => k_is)
    (case aEBadLaying => k_is)
    (case xEBadLaying => k_exc)
    (case kEBadLaying => k_is)
    (case bEBadLaying => k_is)
    (case tEBadLaying => k_is)
    (case gEBadLaying => k_is)
    (case hEBadLaying => k_is)
    (case dEBadLaying => k_is)
    (case clEBadLaying => k_is)
    (case spEBadLaying => k_is)
    (case tkEBadLaying => k_is)
    (case mrEBadLaying => k_is)
    (case aENoCell => k_is)
    (case xENoCell => k_exc)
    (case kENoCell => k_is)
    (case bENoCell => k_is)
    (case tENoCell => k_is)
    (case gENoCell => k_is)
    (case hENoCell => k_is)
    (case dENoCell => k_is)
    (case clENoCell => k_is)
    (case spENoCell => k_is)
    (case tkENoCell => k_is)
    (case mrENoCell => k_is)
    (case aETooGreat => k_is)
    (case xETooGreat => k_exc)
    (case kETooGreat => k_is)
    (case bETooGreat => k_is)
    (case tETooGreat => k_is)
    (case gETooGreat => k_is)
    (case hETooGreat => k_is)
    (case dETooGreat => k_is)
    (case clETooGreat => k_is)
    (case spETooGreat => k_is)
    (case tkETooGreat => k_is)
    (case mrETooGreat => k_is)
    (case uFieldError_FieldError => first | rfl | k_is)
    (case uFieldError_BadView => first | rfl | k_is)
    (case uFieldError_BadLaying => first | rfl | k_is)
    (case uFieldError_NoCell => first | rfl | k_is)
    (case uFieldError_TooGreat => first | rfl | k_is)
    (case uBadView_FieldError => first | rfl | k_is)
    (case uBadView_BadView => first | rfl | k_is)
    (case uBadView_BadLaying => first | rfl | k_is)
    (case uBadView_NoCell => first | rfl | k_is)
    (case uBadView_TooGreat => first | rfl | k_is)
    (case uBadLaying_FieldError => first | rfl | k_is)
    (case uBadLaying_BadView => first | rfl | k_is)
    (case uBadLaying_BadLaying => first | rfl | k_is)
    (case uBadLaying_NoCell => first | rfl | k_is)
    (case uBadLaying_TooGreat => first | rfl | k_is)
    (case uNoCell_FieldError => first | rfl | k_is)
    (case uNoCell_BadView => first | rfl | k_is)
    (case uNoCell_BadLaying => first | rfl | k_is)
    (case uNoCell_NoCell => first | rfl | k_is)
    (case uNoCell_TooGreat => first | rfl | k_is)
    (case uTooGreat_FieldError => first | rfl | k_is)
    (case uTooGreat_BadView => first | rfl | k_is)
    (case uTooGreat_BadLaying => first | rfl | k_is)
    (case uTooGreat_NoCell => first | rfl | k_is)
    (case uTooGreat_TooGreat => first | rfl | k_is)
    (case vEFieldError => k_is)
    (case iEFieldError => k_is)
    (case vEBadView => k_is)
    (case iEBadView => k_is)
    (case vEBadLaying => k_is)
    (case iEBadLaying => k_is)
    (case vENoCell => k_is)
    (case iENoCell => k_is)
    (case vETooGreat => k_is)
    (case iETooGreat => k_is)
    (case gMOST => k_is)
    (case gMOST_CELLS => k_is)
#print axioms PySem.Challenge.cw_dampfield_k14_whole_counts_together_holds

