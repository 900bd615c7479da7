import PyProof.Rows.All
import Wide.All
import OpenK.AllK
import Wide.FinOn
import HandS.Base
import HandS.Call
import HandS.List
import HandS.Comp
import HandS.Ends
import HandS.Dict
import HandS.Words
import HandS.Iter
import HandS.IsInst
import HandS.Conv
import HandS.Rev
import HandS.Defaults
import HandS.Zip
import KE.KeyNested
import KE.KDictDisplayH
import HandS.DictComp
import KE.GoesMore
import HandS.Style
import HandS.SortRule
import KE.DataMinMax
import HandS.Deep
import HandS.TupAny
import HandS.Lambda
import PyProof.ReprRoads
import HandS.IterVal
import HandS.Exc
import HandS.ExcInit
import HandS.ExcField
import KE.KExcSuper
import HandS.WordsExc
import HandS.EndBits
import PyProof.OldK
import HandS.HeadHook1
import HandS.HeadHook2
import KE.KNestM
import KE.KStateDown
import HandS.Head0
import HandS.Head1
import HandS.Head2
import PySem.Challenge.RW_agedcopy_k27_whole_least_numbers_of_mach
set_option Elab.async false
set_option linter.all false
set_option maxRecDepth 100000
set_option maxHeartbeats 0
/-! ## Core1 -/
/-! The calculus: worlds (what stands for good beside what is being made), kinds of values, expressions and blocks by what they come to. -/
namespace K27
open PySem L2 PySem.Spec PyProof.Rows

/-! ### worlds -/
/-- H: the abstract heap; G: the part of it that stays as it is -/
structure Wd where
  G : Hp
  H : Hp
  sub : Same G H
structure Grow (a b : Wd) : Prop where
  g : Same a.G b.G
  h : Same a.H b.H
  ap : ∀ x o, a.H x = some o → a.G x = none → b.G x = none
theorem Grow.refl (a : Wd) : Grow a a := ⟨Same.refl _, Same.refl _, fun _ _ _ h => h⟩
theorem Grow.trans {a b c : Wd} (x : Grow a b) (y : Grow b c) : Grow a c := ⟨x.g.trans y.g, x.h.trans y.h, fun z o h n => y.ap z o (x.h z o h) (x.ap z o h n)⟩
theorem sm_upd {H : Hp} {p : Addr} {o : HO} (h : H p = none) : Same H (upd H p o) := fun a u e => by
  rw [upd_ne (ne_of_none e h)]
  exact e
theorem sm_both {G H : Hp} {p : Addr} {o : HO} (e : Same G H) : Same (L2.upd G p o) (L2.upd H p o) := fun a u h => by
  by_cases q : a = p
  · rw [q, upd_same] at h ⊢
    exact h
  · rw [upd_ne q] at h ⊢
    exact e a u h
theorem sm_over {G H : Hp} {p : Addr} {o : HO} (e : Same G H) (n : G p = none) : Same G (L2.upd H p o) := fun a u h => by
  rw [upd_ne (ne_of_none h n)]
  exact e a u h
/-- all is to stay -/
def Wd.of (H : Hp) : Wd := ⟨H, H, Same.refl H⟩
/-- a new thing that stays -/
def Wd.new (w : Wd) (p : Addr) (o : HO) : Wd := ⟨upd w.G p o, upd w.H p o, sm_both w.sub⟩
theorem Wd.gnone {w : Wd} {p : Addr} (h : w.H p = none) : w.G p = none := w.sub.free h
theorem Grow.new {w : Wd} {p : Addr} {o : HO} (h : w.H p = none) : Grow w (w.new p o) := ⟨sm_upd (w.gnone h), sm_upd h, fun x u e n => by
  show upd w.G p o x = none
  rw [upd_ne (ne_of_none e h)]
  exact n⟩
theorem Wd.new_at {w : Wd} {p : Addr} {o : HO} : (w.new p o).G p = some o := upd_same
/-- a new thing that may be changed -/
def Wd.lay (w : Wd) (p : Addr) (o : HO) (h : w.G p = none) : Wd := ⟨w.G, upd w.H p o, sm_over w.sub h⟩
theorem Grow.lay {w : Wd} {p : Addr} {o : HO} (h : w.H p = none) : Grow w (w.lay p o (w.gnone h)) := ⟨Same.refl _, sm_upd h, fun _ _ _ n => n⟩
/-- a thing that may be changed -/
structure Own (w : Wd) (a : Addr) (o : HO) : Prop where
  at_ : w.H a = some o
  free : w.G a = none
theorem Own.grow {w w' : Wd} {a : Addr} {o : HO} (x : Own w a o) (g : Grow w w') : Own w' a o := ⟨g.h _ _ x.at_, g.ap _ _ x.at_ x.free⟩
theorem Own.lay {w : Wd} {p : Addr} {o : HO} (h : w.H p = none) : Own (w.lay p o (w.gnone h)) p o := ⟨upd_same, w.gnone h⟩
theorem Own.other {w : Wd} {a p : Addr} {o o' : HO} {n : w.G p = none} (x : Own w a o) (ne : a ≠ p) : Own (w.lay p o' n) a o := ⟨(upd_ne ne).trans x.at_, x.free⟩
theorem Own.self {w : Wd} {a : Addr} {o : HO} {n : w.G a = none} : Own (w.lay a o n) a o := ⟨upd_same, n⟩
/-- seen from before it was made, a change is growth -/
theorem Grow.change {w0 w : Wd} {a : Addr} {o : HO} {n : w.G a = none} (g : Grow w0 w) (h : w0.H a = none) : Grow w0 (w.lay a o n) := ⟨g.g, sm_over g.h h, g.ap⟩
/-- from now on it stays -/
def Wd.frz (w : Wd) (a : Addr) (o : HO) (h : w.H a = some o) : Wd := ⟨upd w.G a o, w.H, fun b u e => by
  by_cases q : b = a
  · rw [q, upd_same] at e
    rw [q, h, e]
  · rw [upd_ne q] at e
    exact w.sub b u e⟩
theorem Grow.frz {w0 w : Wd} {a : Addr} {o : HO} (g : Grow w0 w) (h0 : w0.H a = none) (h : w.H a = some o) : Grow w0 (w.frz a o h) := by
  refine ⟨fun b u e => ?_, g.h, fun b u e n => ?_⟩
  · have q : b ≠ a := ne_of_none (w0.sub b u e) h0
    show upd w.G a o b = some u
    rw [upd_ne q]
    exact g.g b u e
  · show upd w.G a o b = none
    rw [upd_ne (ne_of_none e h0)]
    exact g.ap b u e n
theorem Wd.frz_at {w : Wd} {a : Addr} {o : HO} {h : w.H a = some o} : (w.frz a o h).G a = some o := upd_same
theorem Wd.frz_same {w : Wd} {a : Addr} {o : HO} {h : w.H a = some o} (n : w.G a = none) : Same w.G (w.frz a o h).G := sm_upd n
theorem Own.frz {w : Wd} {a b : Addr} {o u : HO} {h : w.H b = some u} (x : Own w a o) (ne : a ≠ b) : Own (w.frz b u h) a o := ⟨x.at_, (upd_ne ne).trans x.free⟩

/-! ### kinds of values -/
structure Ty where
  p : V → Hp → Prop
  m : ∀ {G G' : Hp} {v : V}, Same G G' → p v G → p v G'
theorem sm_seqT {K : PySem.W.Frag} {H H' : Hp} {a : Addr} {xs : List V} (e : Same H H') (h : SqT K H a xs) : SqT K H' a xs := by
  rcases h with (h | ⟨o, h⟩) | h
  · exact .inl (.inl (e _ _ h))
  · exact .inl (.inr ⟨o, e _ _ h⟩)
  · exact .inr h
mutual
theorem dp_mono {K : PySem.W.Frag} {G G' : Hp} (e : Same G G') : ∀ (d : PyData) (v : V), Dp K G v d → Dp K G' v d
  | .none, _, h => by cases h; exact .non
  | .bool b, _, h => by cases h; exact .bl b
  | .int i, _, h => by cases h; exact .int i
  | .str x, _, h => by cases h; exact .str x
  | .dict _, _, h => nomatch h
  | .list ds, _, h => by
    cases h with
    | lst hs ha => exact .lst (e.seq hs) (dpAll_mono e ds _ ha)
  | .tuple ds, _, h => by
    cases h with
    | tup hs ha => exact .tup (sm_seqT e hs) (dpAll_mono e ds _ ha)
theorem dpAll_mono {K : PySem.W.Frag} {G G' : Hp} (e : Same G G') : ∀ (ds : List PyData) (vs : List V), DpAll K G vs ds → DpAll K G' vs ds
  | [], _, h => by cases h; exact .nil
  | d :: ds, _, h => by
    cases h with
    | cons h1 h2 => exact .cons (dp_mono e d _ h1) (dpAll_mono e ds _ h2)
end
/-- data -/
def dat (K : PySem.W.Frag) (d : PyData) : Ty := ⟨fun v G => Dp K G v d, fun e h => dp_mono e _ _ h⟩
/-- a very value -/
def ex (x : V) : Ty := ⟨fun v _ => v = x, fun _ h => h⟩
/-- one of some kinds -/
def some_ {ι : Type} (P : ι → Prop) (τ : ι → Ty) : Ty := ⟨fun v G => ∃ i, P i ∧ (τ i).p v G, fun e ⟨i, hi, h⟩ => ⟨i, hi, (τ i).m e h⟩⟩
def Tys (τs : List Ty) (vs : List V) (G : Hp) : Prop := Paired (fun (v : V) (τ : Ty) => τ.p v G) vs τs
theorem Tys.mono {G G' : Hp} (e : Same G G') : ∀ {τs : List Ty} {vs : List V}, Tys τs vs G → Tys τs vs G'
  | _, _, .nil => .nil
  | _, _, .cons h t => .cons (Ty.m _ e h) (Tys.mono e t)
/-- a list whose items are of these kinds -/
def lstT (K : PySem.W.Frag) (τs : List Ty) : Ty := ⟨fun v G => ∃ a vs, v = .ref a ∧ SqL K G a vs ∧ Tys τs vs G, fun e ⟨a, vs, h1, h2, h3⟩ => ⟨a, vs, h1, e.seq h2, h3.mono e⟩⟩
def tupT (K : PySem.W.Frag) (τs : List Ty) : Ty := ⟨fun v G => ∃ a vs, v = .ref a ∧ SqT K G a vs ∧ Tys τs vs G, fun e ⟨a, vs, h1, h2, h3⟩ => ⟨a, vs, h1, sm_seqT e h2, h3.mono e⟩⟩
theorem dpAll_tys {K : PySem.W.Frag} {G : Hp} : ∀ {vs : List V} {ds : List PyData}, DpAll K G vs ds ↔ Tys (ds.map (dat K)) vs G
  | vs, [] => ⟨fun h => by cases h; exact .nil, fun h => by cases h; exact .nil⟩
  | vs, d :: ds => ⟨fun h => by cases h with | cons a b => exact .cons a (dpAll_tys.mp b), fun h => by cases h with | cons a b => exact .cons a (dpAll_tys.mpr b)⟩
theorem dat_list {K : PySem.W.Frag} {ds : List PyData} {v : V} {G : Hp} : (dat K (.list ds)).p v G ↔ (lstT K (ds.map (dat K))).p v G :=
  ⟨fun h => by cases h with | lst a b => exact ⟨_, _, rfl, a, dpAll_tys.mp b⟩, fun ⟨a, vs, e, h1, h2⟩ => by subst e; exact .lst h1 (dpAll_tys.mpr h2)⟩
theorem dat_tuple {K : PySem.W.Frag} {ds : List PyData} {v : V} {G : Hp} : (dat K (.tuple ds)).p v G ↔ (tupT K (ds.map (dat K))).p v G :=
  ⟨fun h => by cases h with | tup a b => exact ⟨_, _, rfl, a, dpAll_tys.mp b⟩, fun ⟨a, vs, e, h1, h2⟩ => by subst e; exact .tup h1 (dpAll_tys.mpr h2)⟩
theorem Tys.length {τs : List Ty} {vs : List V} {G : Hp} (h : Tys τs vs G) : vs.length = τs.length := Paired.length h
theorem Tys.get : ∀ {τs : List Ty} {vs : List V} {G : Hp} {i : Nat} {v : V}, Tys τs vs G → vs[i]? = some v → ∃ τ, τs[i]? = some τ ∧ τ.p v G
  | _, _, _, _, _, .nil, e => by simp at e
  | _, _, _, 0, _, .cons h _, e => by simp at e; subst e; exact ⟨_, rfl, h⟩
  | _, _, _, i + 1, _, .cons _ t, e => by
    obtain ⟨τ, h1, h2⟩ := Tys.get (i := i) t (by simpa using e)
    exact ⟨τ, by simpa using h1, h2⟩
theorem Tys.at : ∀ {τs : List Ty} {vs : List V} {G : Hp} {i : Nat} {τ : Ty}, Tys τs vs G → τs[i]? = some τ → ∃ v, vs[i]? = some v ∧ τ.p v G
  | _, _, _, _, _, .nil, e => by simp at e
  | _, _, _, 0, _, .cons h _, e => by simp at e; subst e; exact ⟨_, rfl, h⟩
  | _, _, _, i + 1, _, .cons _ t, e => by
    obtain ⟨v, h1, h2⟩ := Tys.at (i := i) t (by simpa using e)
    exact ⟨v, by simpa using h1, h2⟩
theorem Tys.append : ∀ {τs us : List Ty} {vs xs : List V} {G : Hp}, Tys τs vs G → Tys us xs G → Tys (τs ++ us) (vs ++ xs) G
  | _, _, _, _, _, .nil, t => t
  | _, _, _, _, _, .cons h r, t => .cons h (Tys.append r t)

/-! ### slots -/
/-- a slot's kind, or nothing known -/
def SlOk (G : Hp) (o : Option V) : Option Ty → Prop
  | none => True
  | some τ => ∃ v, o = some v ∧ τ.p v G
abbrev Sl (G : Hp) (σ : L2.St) (ds : List (Option Ty)) : Prop := Paired (SlOk G) σ ds
theorem Sl.mono {G G' : Hp} (e : Same G G') : ∀ {σ : L2.St} {ds : List (Option Ty)}, Sl G σ ds → Sl G' σ ds
  | _, _, .nil => .nil
  | _, _, .cons (b := none) _ t => .cons True.intro (Sl.mono e t)
  | _, _, .cons (b := some τ) ⟨v, h1, h2⟩ t => .cons ⟨v, h1, τ.m e h2⟩ (Sl.mono e t)
theorem Sl.get : ∀ {G : Hp} {σ : L2.St} {ds : List (Option Ty)} {i : Nat} {τ : Ty}, Sl G σ ds → ds[i]? = some (some τ) → ∃ v, σ[i]? = some (some v) ∧ τ.p v G
  | _, _, _, _, _, .nil, e => by simp at e
  | _, _, _, 0, _, .cons h _, e => by
    simp at e
    subst e
    obtain ⟨v, h1, h2⟩ := h
    exact ⟨v, by simp [h1], h2⟩
  | _, _, _, i + 1, _, .cons _ t, e => by
    obtain ⟨v, h1, h2⟩ := Sl.get (i := i) t (by simpa using e)
    exact ⟨v, by simpa using h1, h2⟩
theorem Sl.put {G : Hp} {v : V} {τ : Ty} (h : τ.p v G) : ∀ {σ : L2.St} {ds : List (Option Ty)} (i : Nat), Sl G σ ds → Sl G (σ.set i (some v)) (ds.set i (some τ))
  | _, _, _, .nil => .nil
  | _, _, 0, .cons _ t => .cons ⟨v, rfl, h⟩ t
  | _, _, i + 1, .cons q t => .cons q (Sl.put h i t)
theorem Sl.forget {G : Hp} : ∀ {σ : L2.St} {ds : List (Option Ty)} (i : Nat), Sl G σ ds → Sl G σ (ds.set i none)
  | _, _, _, .nil => .nil
  | _, _, 0, .cons _ t => .cons True.intro t
  | _, _, i + 1, .cons q t => .cons q (Sl.forget i t)
theorem Sl.clear {G : Hp} : ∀ {σ : L2.St} {ds : List (Option Ty)} (i : Nat), Sl G σ ds → Sl G (σ.set i none) (ds.set i none)
  | _, _, _, .nil => .nil
  | _, _, 0, .cons _ t => .cons True.intro t
  | _, _, i + 1, .cons q t => .cons q (Sl.clear i t)
/-- another kind that the slot's value is of -/
theorem Sl.retype {G : Hp} {τ τ' : Ty} : ∀ {σ : L2.St} {ds : List (Option Ty)} (i : Nat), Sl G σ ds → (∃ v, σ[i]? = some (some v) ∧ τ'.p v G) → Sl G σ (ds.set i (some τ'))
  | _, _, _, .nil, _ => .nil
  | _, _, 0, .cons _ t, ⟨v, h1, h2⟩ => .cons ⟨v, by simpa using h1, h2⟩ t
  | _, _, i + 1, .cons q t, ⟨v, h1, h2⟩ => .cons q (Sl.retype (τ := τ) i t ⟨v, by simpa using h1, h2⟩)
def wipeD (ds : List (Option Ty)) : List Nat → List (Option Ty)
  | [] => ds
  | v :: vs => (wipeD ds vs).set v none
theorem Sl.wipe {G : Hp} {σ : L2.St} {ds : List (Option Ty)} (S : Sl G σ ds) : ∀ vs : List Nat, Sl G (L2.wipe σ vs) (wipeD ds vs)
  | [] => S
  | v :: vs => Sl.clear v (S.wipe vs)
theorem Sl.start {G : Hp} : ∀ {N : List Str} {τs : List Ty} {vs : List V}, Tys τs vs G → Sl G (L2.start N vs) (τs.map some ++ List.replicate (N.length - vs.length) none) := by
  intro N τs vs h
  unfold L2.start
  have e : ∀ n : Nat, Sl G (List.replicate n (none : Option V)) (List.replicate n (none : Option Ty)) := fun n => by
    induction n with
    | zero => exact .nil
    | succ n ih => exact .cons True.intro ih
  have go : ∀ {τs : List Ty} {vs : List V} {n : Nat}, Tys τs vs G → Sl G (vs.map some ++ List.replicate n none) (τs.map some ++ List.replicate n none) := by
    intro τs vs n h
    induction h with
    | nil => exact e n
    | cons q t ih => exact .cons ⟨_, rfl, q⟩ ih
  exact go h
end K27
/-! ## Core2 -/
/-! The calculus, second part: expressions, tests, argument lists, blocks, by what they come to from a world on. -/
namespace K27
open PySem L2 PySem.Spec PyProof.Rows

/-! ### weakest readings -/
def wE (X : Cx) (e : Expr) : TE := fun σ H Q => ∀ pins s, Inv X pins σ H s → wpAny (model X.prog X.w) X.A (eval e X.env) (EP X pins σ Q) X.xe s
def wT (X : Cx) (e : Expr) : TT := fun σ H Q => ∀ pins s, Inv X pins σ H s → wpAny (model X.prog X.w) X.A (isTrue e X.env (eval e X.env)) (TP X pins σ Q) X.xe s
def wW (X : Cx) (e : Expr) : TT := fun σ H Q => ∀ wh pins s, Inv X pins σ H s → wpAny (model X.prog X.w) X.A (isTrue e X.env wh) (TP X pins σ Q) X.xe s
def wA (X : Cx) (es : List Expr) : TA := fun σ H Q => ∀ pos pins s, Inv X pins σ H s → wpAny (model X.prog X.w) X.A (spliced (backTo pos (starEach es X.env))) (AP X pins σ Q) X.xe s
def wS (X : Cx) (st : List Stmt) : TS := fun D σ H => ∀ pins s, Inv X pins σ H s → wpAny (model X.prog X.w) X.A (execs st X.env) (SP X pins D) X.xe s
def wS1 (X : Cx) (st : Stmt) : TS := fun D σ H => ∀ pins s, Inv X pins σ H s → wpAny (model X.prog X.w) X.A (exec st X.env) (SP X pins D) X.xe s
theorem uE {X : Cx} {e : Expr} : PE X e (wE X e) := ⟨fun pins s _ _ _ I h => h pins s I⟩
theorem uT {X : Cx} {e : Expr} : PT X e (wT X e) := ⟨fun pins s _ _ _ I h => h pins s I⟩
theorem uW {X : Cx} {e : Expr} : PW X e (wW X e) := ⟨fun wh pins s _ _ _ I h => h wh pins s I⟩
theorem uA {X : Cx} {es : List Expr} : PA X es (wA X es) := ⟨fun pos pins s _ _ _ I h => h pos pins s I⟩
theorem uS {X : Cx} {st : List Stmt} : PSs X st (wS X st) := ⟨fun pins s _ _ _ I h => h pins s I⟩
theorem uS1 {X : Cx} {st : Stmt} : PS X st (wS1 X st) := ⟨fun pins s _ _ _ I h => h pins s I⟩
section
variable {X : Cx} {e : Expr} {es : List Expr} {st : Stmt} {sts : List Stmt} {σ : L2.St} {H : Hp}
theorem toE {te : TE} {Q : VK} (p : PE X e te) (h : te σ H Q) : wE X e σ H Q := fun pins s I => p.run pins s σ H Q I h
theorem toT {t : TT} {Q : Bool → Hp → Prop} (p : PT X e t) (h : t σ H Q) : wT X e σ H Q := fun pins s I => p.run pins s σ H Q I h
theorem toW {t : TT} {Q : Bool → Hp → Prop} (p : PW X e t) (h : t σ H Q) : wW X e σ H Q := fun wh pins s I => p.run wh pins s σ H Q I h
theorem toA {t : TA} {Q : List V → Hp → Prop} (p : PA X es t) (h : t σ H Q) : wA X es σ H Q := fun pos pins s I => p.run pos pins s σ H Q I h
theorem toS {t : TS} {D : Ends} (p : PSs X sts t) (h : t D σ H) : wS X sts D σ H := fun pins s I => p.run pins s σ H D I h
theorem toS1 {t : TS} {D : Ends} (p : PS X st t) (h : t D σ H) : wS1 X st D σ H := fun pins s I => p.run pins s σ H D I h
/-- a statement, then the rest -/
theorem wS_cons {D : Ends} (h : wS1 X st { D with nx := wS X sts D } σ H) : wS X (st :: sts) D σ H := toS (pss_cons uS1 uS) h
theorem wS_nil {D : Ends} (h : D.nx σ H) : wS X [] D σ H := toS pss_nil h
end

/-! ### what comes of an expression, from a world on -/
def Ev (X : Cx) (σ : L2.St) (w : Wd) (e : Expr) (τ : Ty) : Prop := ∀ w1, Grow w w1 → ∀ Q : VK, (∀ v w2, Grow w1 w2 → τ.p v w2.G → Q v w2.H) → wE X e σ w1.H Q
def Tv (X : Cx) (σ : L2.St) (w : Wd) (e : Expr) (b : Bool) : Prop := ∀ w1, Grow w w1 → ∀ Q : Bool → Hp → Prop, (∀ w2, Grow w1 w2 → Q b w2.H) → wT X e σ w1.H Q
def TvW (X : Cx) (σ : L2.St) (w : Wd) (e : Expr) (b : Bool) : Prop := ∀ w1, Grow w w1 → ∀ Q : Bool → Hp → Prop, (∀ w2, Grow w1 w2 → Q b w2.H) → wW X e σ w1.H Q
def Av (X : Cx) (σ : L2.St) (w : Wd) (es : List Expr) (τs : List Ty) : Prop := ∀ w1, Grow w w1 → ∀ Q : List V → Hp → Prop, (∀ vs w2, Grow w1 w2 → Tys τs vs w2.G → Q vs w2.H) → wA X es σ w1.H Q
abbrev Dv (X : Cx) (σ : L2.St) (w : Wd) (e : Expr) (d : PyData) : Prop := Ev X σ w e (dat X.K d)
section
variable {X : Cx} {e a b : Expr} {es : List Expr} {σ : L2.St} {w w' : Wd} {τ τ' : Ty} {pos : Pos} {ds : List (Option Ty)}
theorem Ev.grow (h : Ev X σ w e τ) (g : Grow w w') : Ev X σ w' e τ := fun w1 g1 => h w1 (g.trans g1)
theorem Tv.grow {c : Bool} (h : Tv X σ w e c) (g : Grow w w') : Tv X σ w' e c := fun w1 g1 => h w1 (g.trans g1)
theorem Av.grow {τs : List Ty} (h : Av X σ w es τs) (g : Grow w w') : Av X σ w' es τs := fun w1 g1 => h w1 (g.trans g1)
theorem Ev.imp (h : Ev X σ w e τ) (i : ∀ v G, τ.p v G → τ'.p v G) : Ev X σ w e τ' := fun w1 g Q k => h w1 g Q fun v w2 g2 hv => k v w2 g2 (i v _ hv)
theorem Ev.eq {d d' : PyData} (h : Dv X σ w e d) (i : d = d') : Dv X σ w e d' := i ▸ h
theorem Tv.eq {c c' : Bool} (h : Tv X σ w e c) (i : c = c') : Tv X σ w e c' := i ▸ h

/-! ### names, constants -/
theorem nm (i : Nat) {x : Str} (S : Sl w.G σ ds) (hd : ds[i]? = some (some τ) := by rfl) (hN : X.N[i]? = some x := by rfl) (hv : Vis X.env.scope x := by first | exact Or.inl rfl | exact Or.inr (Or.inl rfl) | exact Or.inr (Or.inr rfl))
    (hdb : (x == ("__debug__" : Str)) = false := by decide) (hcd : (x == ("__classdict__" : Str)) = false := by decide) : Ev X σ w (.Name x pos) τ := fun w1 g Q k => by
  obtain ⟨v, e1, e2⟩ := S.get hd
  exact toE (pe_var hN hv hdb hcd) ⟨v, e1, k v w1 (Grow.refl _) (τ.m g.g e2)⟩
theorem ci {i : Int} {j} : Dv X σ w (.Constant (.int i) j pos) (.int i) := fun w1 g Q k => toE pe_int (k _ w1 (Grow.refl _) (.int i))
theorem cb {c : Bool} {j} : Dv X σ w (.Constant (.bool c) j pos) (.bool c) := fun w1 g Q k => toE pe_bl (k _ w1 (Grow.refl _) (.bl c))
theorem cn {j} : Dv X σ w (.Constant .none j pos) .none := fun w1 g Q k => toE pe_non (k _ w1 (Grow.refl _) .non)
theorem cs {x : Str} {j} : Dv X σ w (.Constant (.str x) j pos) (.str x) := fun w1 g Q k => toE pe_str (k _ w1 (Grow.refl _) (.str x))
/-- a module's constant -/
theorem gi {x : Str} {i : Int} {t : Tok} (hm : X.mg x = some (.int i t)) (hg : Gl X x := by rfl) (hd : (x == ("__debug__" : Str)) = false := by decide) : Dv X σ w (.Name x pos) (.int i) := fun w1 g Q k =>
  toE (pe_glob (v := .int i) hg hm ⟨_, rfl⟩ hd) (k _ w1 (Grow.refl _) (.int i))

/-! ### reading data -/
theorem Dp.int_iff {K : PySem.W.Frag} {G : Hp} {v : V} {i : Int} (h : Dp K G v (.int i)) : v = .int i := by cases h; rfl
theorem Dp.bool_iff {K : PySem.W.Frag} {G : Hp} {v : V} {i : Bool} (h : Dp K G v (.bool i)) : v = .bl i := by cases h; rfl
theorem Dp.str_iff {K : PySem.W.Frag} {G : Hp} {v : V} {i : Str} (h : Dp K G v (.str i)) : v = .str i := by cases h; rfl
theorem Dp.none_iff {K : PySem.W.Frag} {G : Hp} {v : V} (h : Dp K G v .none) : v = .non := by cases h; rfl

/-! ### two operands -/
theorem ev_op {op : Operator} {r : R2} {τa τb : Ty} (ho : OpR X (binaryOp op) r) (ha : Ev X σ w a τa) (hb : Ev X σ w b τb)
    (k : ∀ (x y : V) (w3 : Wd) (Q : VK), Grow w w3 → τa.p x w3.G → τb.p y w3.G → (∀ v w4, Grow w3 w4 → τ.p v w4.G → Q v w4.H) → r x y w3.H Q) : Ev X σ w (.BinOp a op b pos) τ := fun w1 g Q q =>
  toE (pe_op ho uE uE) (ha w1 g _ fun x w2 g2 hx => hb w2 (g.trans g2) _ fun y w3 g3 hy => k x y w3 Q ((g.trans g2).trans g3) (τa.m g3.g hx) hy fun v w4 g4 hv => q v w4 ((g2.trans g3).trans g4) hv)
theorem ev_cmp {op : CmpOp} {r : R2} {τa τb : Ty} (ho : OpR X (compareOp op) r) (ha : Ev X σ w a τa) (hb : Ev X σ w b τb) (hm : behindInMarks op b = false)
    (k : ∀ (x y : V) (w3 : Wd) (Q : VK), Grow w w3 → τa.p x w3.G → τb.p y w3.G → (∀ v w4, Grow w3 w4 → τ.p v w4.G → Q v w4.H) → r x y w3.H Q) : Ev X σ w (.Compare a [op] [b] pos) τ := fun w1 g Q q =>
  toE (pe_cmpR ho uE uE hm) (ha w1 g _ fun x w2 g2 hx => hb w2 (g.trans g2) _ fun y w3 g3 hy => k x y w3 Q ((g.trans g2).trans g3) (τa.m g3.g hx) hy fun v w4 g4 hv => q v w4 ((g2.trans g3).trans g4) hv)
theorem tv_cmp {op : CmpOp} {r : R2} {τa τb : Ty} {c : Bool} (ho : OpR X (compareOp op) r) (ha : Ev X σ w a τa) (hb : Ev X σ w b τb) (hm : behindInMarks op b = false)
    (k : ∀ (x y : V) (w3 : Wd) (Q : VK), Grow w w3 → τa.p x w3.G → τb.p y w3.G → (∀ w4, Grow w3 w4 → Q (.bl c) w4.H) → r x y w3.H Q) : Tv X σ w (.Compare a [op] [b] pos) c := fun w1 g Q q =>
  toT (pt_cmpR ho uE uE hm) (ha w1 g _ fun x w2 g2 hx => hb w2 (g.trans g2) _ fun y w3 g3 hy => k x y w3 _ ((g.trans g2).trans g3) (τa.m g3.g hx) hy fun w4 g4 => ⟨c, rfl, q w4 ((g2.trans g3).trans g4)⟩)

section
variable {i j : Int}
theorem add (ha : Dv X σ w a (.int i)) (hb : Dv X σ w b (.int j)) : Dv X σ w (.BinOp a .Add b pos) (.int (i + j)) :=
  ev_op op_add ha hb fun x y w3 Q _ hx hy q => ⟨i, j, Dp.int_iff hx, Dp.int_iff hy, q _ w3 (Grow.refl _) (.int _)⟩
theorem sub (ha : Dv X σ w a (.int i)) (hb : Dv X σ w b (.int j)) : Dv X σ w (.BinOp a .Sub b pos) (.int (i - j)) :=
  ev_op op_sub ha hb fun x y w3 Q _ hx hy q => ⟨i, j, Dp.int_iff hx, Dp.int_iff hy, q _ w3 (Grow.refl _) (.int _)⟩
theorem mul (ha : Dv X σ w a (.int i)) (hb : Dv X σ w b (.int j)) (hc : CMul i j) : Dv X σ w (.BinOp a .Mult b pos) (.int (i * j)) :=
  ev_op op_mul ha hb fun x y w3 Q _ hx hy q => ⟨i, j, Dp.int_iff hx, Dp.int_iff hy, hc, q _ w3 (Grow.refl _) (.int _)⟩
theorem fdiv (ha : Dv X σ w a (.int i)) (hb : Dv X σ w b (.int j)) (hc : 0 < j ∧ j < 1073741824) : Dv X σ w (.BinOp a .FloorDiv b pos) (.int (i / j)) :=
  ev_op op_fdiv ha hb fun x y w3 Q _ hx hy q => ⟨i, j, Dp.int_iff hx, Dp.int_iff hy, hc, q _ w3 (Grow.refl _) (.int _)⟩
theorem imod (ha : Dv X σ w a (.int i)) (hb : Dv X σ w b (.int j)) (hc : 0 < j) : Dv X σ w (.BinOp a .Mod b pos) (.int (i % j)) :=
  ev_op op_mod ha hb fun x y w3 Q _ hx hy q => ⟨i, j, Dp.int_iff hx, Dp.int_iff hy, hc, q _ w3 (Grow.refl _) (.int _)⟩
theorem ipow (ha : Dv X σ w a (.int i)) (hb : Dv X σ w b (.int j)) (hc : CPow i j) : Dv X σ w (.BinOp a .Pow b pos) (.int (i ^ j.toNat)) :=
  ev_op op_pow ha hb fun x y w3 Q _ hx hy q => ⟨i, j, Dp.int_iff hx, Dp.int_iff hy, hc, q _ w3 (Grow.refl _) (.int _)⟩
end
/-! ### comparisons of flat data, as values and as tests -/
/-- flat values -/
inductive Fl : PyData → V → Prop where
  | non : Fl .none .non
  | bl (b : Bool) : Fl (.bool b) (.bl b)
  | int (i : Int) : Fl (.int i) (.int i)
  | str (x : Str) : Fl (.str x) (.str x)
theorem Fl.of {K : PySem.W.Frag} {G : Hp} {v u : V} {d : PyData} (f : Fl d u) (h : Dp K G v d) : v = u := by cases f <;> (cases h; rfl)
section
variable {d d' : PyData} {x y : V}
theorem eqF (ha : Dv X σ w a d) (hb : Dv X σ w b d') (f : Fl d x) (f' : Fl d' y) (hs : scal x y = true) : Dv X σ w (.Compare a [.Eq] [b] pos) (.bool (decide (x = y))) :=
  ev_cmp op_eq ha hb (nomark _) fun u v w3 Q _ hx hy q => by rw [f.of hx, f'.of hy]; exact ⟨hs, q _ w3 (Grow.refl _) (.bl _)⟩
theorem neF (ha : Dv X σ w a d) (hb : Dv X σ w b d') (f : Fl d x) (f' : Fl d' y) (hs : scal x y = true) : Dv X σ w (.Compare a [.NotEq] [b] pos) (.bool (!decide (x = y))) :=
  ev_cmp op_ne ha hb (nomark _) fun u v w3 Q _ hx hy q => by rw [f.of hx, f'.of hy]; exact ⟨hs, q _ w3 (Grow.refl _) (.bl _)⟩
theorem t_eqF (ha : Dv X σ w a d) (hb : Dv X σ w b d') (f : Fl d x) (f' : Fl d' y) (hs : scal x y = true) : Tv X σ w (.Compare a [.Eq] [b] pos) (decide (x = y)) :=
  tv_cmp op_eq ha hb (nomark _) fun u v w3 Q _ hx hy q => by rw [f.of hx, f'.of hy]; exact ⟨hs, q w3 (Grow.refl _)⟩
theorem t_neF (ha : Dv X σ w a d) (hb : Dv X σ w b d') (f : Fl d x) (f' : Fl d' y) (hs : scal x y = true) : Tv X σ w (.Compare a [.NotEq] [b] pos) (!decide (x = y)) :=
  tv_cmp op_ne ha hb (nomark _) fun u v w3 Q _ hx hy q => by rw [f.of hx, f'.of hy]; exact ⟨hs, q w3 (Grow.refl _)⟩
end
section
variable {i j : Int}
theorem dec_int2 {i j : Int} : decide (V.int i = V.int j) = decide (i = j) := by
  by_cases h : i = j
  · subst h; simp
  · rw [decide_eq_false h, decide_eq_false (fun q => h (by injection q))]
theorem eqI (ha : Dv X σ w a (.int i)) (hb : Dv X σ w b (.int j)) : Dv X σ w (.Compare a [.Eq] [b] pos) (.bool (decide (i = j))) := by
  have h := eqF (pos := pos) ha hb (.int i) (.int j) rfl
  rw [dec_int2] at h
  exact h
theorem neI (ha : Dv X σ w a (.int i)) (hb : Dv X σ w b (.int j)) : Dv X σ w (.Compare a [.NotEq] [b] pos) (.bool (!decide (i = j))) := by
  have h := neF (pos := pos) ha hb (.int i) (.int j) rfl
  rw [dec_int2] at h
  exact h
theorem t_eqI (ha : Dv X σ w a (.int i)) (hb : Dv X σ w b (.int j)) : Tv X σ w (.Compare a [.Eq] [b] pos) (decide (i = j)) := by
  have h := t_eqF (pos := pos) ha hb (.int i) (.int j) rfl
  rw [dec_int2] at h
  exact h
theorem t_neI (ha : Dv X σ w a (.int i)) (hb : Dv X σ w b (.int j)) : Tv X σ w (.Compare a [.NotEq] [b] pos) (!decide (i = j)) := by
  have h := t_neF (pos := pos) ha hb (.int i) (.int j) rfl
  rw [dec_int2] at h
  exact h
theorem lt (ha : Dv X σ w a (.int i)) (hb : Dv X σ w b (.int j)) : Dv X σ w (.Compare a [.Lt] [b] pos) (.bool (decide (i < j))) :=
  ev_cmp op_lt ha hb (nomark _) fun x y w3 Q _ hx hy q => ⟨i, j, Dp.int_iff hx, Dp.int_iff hy, q _ w3 (Grow.refl _) (.bl _)⟩
theorem le (ha : Dv X σ w a (.int i)) (hb : Dv X σ w b (.int j)) : Dv X σ w (.Compare a [.LtE] [b] pos) (.bool (decide (i ≤ j))) :=
  ev_cmp op_le ha hb (nomark _) fun x y w3 Q _ hx hy q => ⟨i, j, Dp.int_iff hx, Dp.int_iff hy, q _ w3 (Grow.refl _) (.bl _)⟩
theorem gt (ha : Dv X σ w a (.int i)) (hb : Dv X σ w b (.int j)) : Dv X σ w (.Compare a [.Gt] [b] pos) (.bool (decide (j < i))) :=
  ev_cmp op_gt ha hb (nomark _) fun x y w3 Q _ hx hy q => ⟨i, j, Dp.int_iff hx, Dp.int_iff hy, q _ w3 (Grow.refl _) (.bl _)⟩
theorem ge (ha : Dv X σ w a (.int i)) (hb : Dv X σ w b (.int j)) : Dv X σ w (.Compare a [.GtE] [b] pos) (.bool (decide (j ≤ i))) :=
  ev_cmp op_ge ha hb (nomark _) fun x y w3 Q _ hx hy q => ⟨i, j, Dp.int_iff hx, Dp.int_iff hy, q _ w3 (Grow.refl _) (.bl _)⟩
theorem t_lt (ha : Dv X σ w a (.int i)) (hb : Dv X σ w b (.int j)) : Tv X σ w (.Compare a [.Lt] [b] pos) (decide (i < j)) :=
  tv_cmp op_lt ha hb (nomark _) fun x y w3 Q _ hx hy q => ⟨i, j, Dp.int_iff hx, Dp.int_iff hy, q w3 (Grow.refl _)⟩
theorem t_le (ha : Dv X σ w a (.int i)) (hb : Dv X σ w b (.int j)) : Tv X σ w (.Compare a [.LtE] [b] pos) (decide (i ≤ j)) :=
  tv_cmp op_le ha hb (nomark _) fun x y w3 Q _ hx hy q => ⟨i, j, Dp.int_iff hx, Dp.int_iff hy, q w3 (Grow.refl _)⟩
theorem t_gt (ha : Dv X σ w a (.int i)) (hb : Dv X σ w b (.int j)) : Tv X σ w (.Compare a [.Gt] [b] pos) (decide (j < i)) :=
  tv_cmp op_gt ha hb (nomark _) fun x y w3 Q _ hx hy q => ⟨i, j, Dp.int_iff hx, Dp.int_iff hy, q w3 (Grow.refl _)⟩
theorem t_ge (ha : Dv X σ w a (.int i)) (hb : Dv X σ w b (.int j)) : Tv X σ w (.Compare a [.GtE] [b] pos) (decide (j ≤ i)) :=
  tv_cmp op_ge ha hb (nomark _) fun x y w3 Q _ hx hy q => ⟨i, j, Dp.int_iff hx, Dp.int_iff hy, q w3 (Grow.refl _)⟩
end
/-! ### is None -/
/-- a kind whose values are none, or never none -/
def Isn (τ : Ty) (c : Bool) : Prop := ∀ v G, τ.p v G → decide (v = .non) = c
theorem isn_dat {K : PySem.W.Frag} {d : PyData} (h : d ≠ .none) : Isn (dat K d) false := fun v G hv => by
  cases hv with
  | non => exact absurd rfl h
  | _ => rfl
theorem isn_none {K : PySem.W.Frag} : Isn (dat K .none) true := fun v G hv => by cases hv; rfl
theorem isn_ref {a : Addr} : Isn (ex (.ref a)) false := fun v G hv => by
  have e : v = .ref a := hv
  subst e
  rfl
section
variable {c : Bool} {j : Nat} {p2 : Pos}
theorem isN (ha : Ev X σ w a τ) (h : Isn τ c) : Dv X σ w (.Compare a [.Is] [.Constant .none j p2] pos) (.bool c) :=
  ev_cmp op_isN ha cn (nomark _) fun x y w3 Q _ hx hy q => ⟨Dp.none_iff hy, by rw [h _ _ hx]; exact q _ w3 (Grow.refl _) (.bl _)⟩
theorem notN (ha : Ev X σ w a τ) (h : Isn τ c) : Dv X σ w (.Compare a [.IsNot] [.Constant .none j p2] pos) (.bool (!c)) :=
  ev_cmp op_notN ha cn (nomark _) fun x y w3 Q _ hx hy q => ⟨Dp.none_iff hy, by rw [h _ _ hx]; exact q _ w3 (Grow.refl _) (.bl _)⟩
theorem t_isN (ha : Ev X σ w a τ) (h : Isn τ c) : Tv X σ w (.Compare a [.Is] [.Constant .none j p2] pos) c :=
  tv_cmp op_isN ha cn (nomark _) fun x y w3 Q _ hx hy q => ⟨Dp.none_iff hy, by rw [h _ _ hx]; exact q w3 (Grow.refl _)⟩
theorem t_notN (ha : Ev X σ w a τ) (h : Isn τ c) : Tv X σ w (.Compare a [.IsNot] [.Constant .none j p2] pos) (!c) :=
  tv_cmp op_notN ha cn (nomark _) fun x y w3 Q _ hx hy q => ⟨Dp.none_iff hy, by rw [h _ _ hx]; exact q w3 (Grow.refl _)⟩
end
/-! ### tests -/
theorem t_val {c : Bool} (h : Dv X σ w e (.bool c)) (he : ∀ whole, isTrue e X.env whole = (do let v ← whole; standAt e.pos; holding [v] (truthy v)) := by intro _; rfl) : Tv X σ w e c := fun w1 g Q k =>
  toT (pt_val uE he) (h w1 g _ fun v w2 g2 hv => ⟨c, Dp.bool_iff hv, k w2 g2⟩)
theorem t_not {c : Bool} (h : Tv X σ w a c) : Tv X σ w (.UnaryOp .Not a pos) (!c) := fun w1 g Q k => toT (pt_not uT) (h w1 g _ fun w2 g2 => k w2 g2)
theorem TvW.t {c : Bool} (h : TvW X σ w e c) : Tv X σ w e c := fun w1 g Q k => toT uW.pt (h w1 g Q k)
section
variable {rest : List Expr} {c d : Bool}
theorem and1 (h : Tv X σ w a c) : TvW X σ w (.BoolOp .And [a] pos) c := fun w1 g Q k => toW (pw_and1 uT) (h w1 g Q k)
theorem or1 (h : Tv X σ w a c) : TvW X σ w (.BoolOp .Or [a] pos) c := fun w1 g Q k => toW (pw_or1 uT) (h w1 g Q k)
theorem andT (h : Tv X σ w a true) (h2 : TvW X σ w (.BoolOp .And (b :: rest) pos) d) : TvW X σ w (.BoolOp .And (a :: b :: rest) pos) d := fun w1 g Q k =>
  toW (pw_and uT uW) (h w1 g _ fun w2 g2 => iteT (h2 w2 (g.trans g2) Q fun w3 g3 => k w3 (g2.trans g3)))
theorem andF (h : Tv X σ w a false) : TvW X σ w (.BoolOp .And (a :: b :: rest) pos) false := fun w1 g Q k =>
  toW (pw_and uT uW) (h w1 g _ fun w2 g2 => iteF (k w2 g2))
theorem and' (h : Tv X σ w a c) (h2 : c = true → TvW X σ w (.BoolOp .And (b :: rest) pos) d) : TvW X σ w (.BoolOp .And (a :: b :: rest) pos) (c && d) := by
  cases c with
  | true => exact andT h (h2 rfl)
  | false => exact andF h
theorem orT (h : Tv X σ w a true) : TvW X σ w (.BoolOp .Or (a :: b :: rest) pos) true := fun w1 g Q k =>
  toW (pw_or uT uW) (h w1 g _ fun w2 g2 => iteT (k w2 g2))
theorem orF (h : Tv X σ w a false) (h2 : TvW X σ w (.BoolOp .Or (b :: rest) pos) d) : TvW X σ w (.BoolOp .Or (a :: b :: rest) pos) d := fun w1 g Q k =>
  toW (pw_or uT uW) (h w1 g _ fun w2 g2 => iteF (h2 w2 (g.trans g2) Q fun w3 g3 => k w3 (g2.trans g3)))
theorem or' (h : Tv X σ w a c) (h2 : c = false → TvW X σ w (.BoolOp .Or (b :: rest) pos) d) : TvW X σ w (.BoolOp .Or (a :: b :: rest) pos) (c || d) := by
  cases c with
  | true => exact orT h
  | false => exact orF h (h2 rfl)
/-! .. as values -/
theorem v1 {op} (h : Ev X σ w a τ) : Ev X σ w (.BoolOp op [a] pos) τ := fun w1 g Q k => toE (pe_one uE) (h w1 g Q k)
theorem vandT (h : Dv X σ w a (.bool true)) (h2 : Ev X σ w (.BoolOp .And (b :: rest) pos) τ) : Ev X σ w (.BoolOp .And (a :: b :: rest) pos) τ := fun w1 g Q k =>
  toE (pe_and uE uE) (h w1 g _ fun v w2 g2 hv => ⟨true, Dp.bool_iff hv, iteT (h2 w2 (g.trans g2) Q fun v w3 g3 => k v w3 (g2.trans g3))⟩)
theorem vandF (h : Dv X σ w a (.bool false)) : Dv X σ w (.BoolOp .And (a :: b :: rest) pos) (.bool false) := fun w1 g Q k =>
  toE (pe_and uE (uE (e := .BoolOp .And (b :: rest) pos))) (h w1 g _ fun v w2 g2 hv => ⟨false, Dp.bool_iff hv, iteF (k _ w2 g2 (.bl false))⟩)
theorem vand (h : Dv X σ w a (.bool c)) (h2 : c = true → Dv X σ w (.BoolOp .And (b :: rest) pos) (.bool d)) : Dv X σ w (.BoolOp .And (a :: b :: rest) pos) (.bool (c && d)) := by
  cases c with
  | true => exact vandT h (h2 rfl)
  | false => exact vandF h
theorem vnot (h : Dv X σ w a (.bool c)) : Dv X σ w (.UnaryOp .Not a pos) (.bool (!c)) := fun w1 g Q k => toE (pe_not uE) (h w1 g _ fun v w2 g2 hv => ⟨c, Dp.bool_iff hv, k _ w2 g2 (.bl _)⟩)
end
theorem ifT {c : Expr} (h : Tv X σ w c true) (ha : Ev X σ w a τ) : Ev X σ w (.IfExp c a b pos) τ := fun w1 g Q k =>
  toE (pe_ifExp uT uE (uE (e := b))) (h w1 g _ fun w2 g2 => iteT (ha w2 (g.trans g2) Q fun v w3 g3 => k v w3 (g2.trans g3)))
theorem ifF {c : Expr} (h : Tv X σ w c false) (hb : Ev X σ w b τ) : Ev X σ w (.IfExp c a b pos) τ := fun w1 g Q k =>
  toE (pe_ifExp uT (uE (e := a)) uE) (h w1 g _ fun w2 g2 => iteF (hb w2 (g.trans g2) Q fun v w3 g3 => k v w3 (g2.trans g3)))

/-! ### argument lists, displays -/
theorem a0 : Av X σ w [] [] := fun w1 g Q k => toA pa_nil (k _ w1 (Grow.refl _) .nil)
theorem ac {τs : List Ty} (h : Ev X σ w e τ) (h2 : Av X σ w es τs) (hs : starEach (e :: es) X.env = (false, eval e X.env) :: starEach es X.env := by rfl) : Av X σ w (e :: es) (τ :: τs) := fun w1 g Q k =>
  toA (pa_cons uE uA hs) (h w1 g _ fun v w2 g2 hv => h2 w2 (g.trans g2) _ fun vs w3 g3 hvs => k _ w3 (g2.trans g3) (.cons (τ.m g3.g hv) hvs))
theorem tup_ {τs : List Ty} {x1} (h : Av X σ w es τs) (hl : τs.length ≤ sizeLine := by first | decide | (simp only [List.length_cons, List.length_nil]; decide)) : Ev X σ w (.Tuple es x1 pos) (tupT X.K τs) := fun w1 g Q k =>
  toE (pe_tup uA) (h w1 g _ fun vs w2 g2 hvs => ⟨by rw [hvs.length]; exact hl, fun p hp => k _ (w2.new p (.tup vs)) (g2.trans (Grow.new hp)) ⟨p, vs, rfl, SqT.of Wd.new_at, hvs.mono (Grow.new hp).g⟩⟩)
theorem lst_ {τs : List Ty} (h : Av X σ w es τs) (hl : τs.length ≤ sizeLine := by first | decide | (simp only [List.length_cons, List.length_nil]; decide)) : Ev X σ w (.List es pos) (lstT X.K τs) := fun w1 g Q k =>
  toE (pe_lst uA) (h w1 g _ fun vs w2 g2 hvs => ⟨by rw [hvs.length]; exact hl, fun p hp => k _ (w2.new p (.lst vs)) (g2.trans (Grow.new hp)) ⟨p, vs, rfl, SqL.of Wd.new_at, hvs.mono (Grow.new hp).g⟩⟩)
theorem tupD {ds : List PyData} {x1} (h : Av X σ w es (ds.map (dat X.K))) (hl : ds.length ≤ sizeLine := by first | decide | (simp only [List.length_cons, List.length_nil]; decide)) : Dv X σ w (.Tuple es x1 pos) (.tuple ds) :=
  (tup_ h (by rw [List.length_map]; exact hl)).imp fun _ _ q => dat_tuple.mpr q
theorem lstD {ds : List PyData} (h : Av X σ w es (ds.map (dat X.K))) (hl : ds.length ≤ sizeLine := by first | decide | (simp only [List.length_cons, List.length_nil]; decide)) : Dv X σ w (.List es pos) (.list ds) :=
  (lst_ h (by rw [List.length_map]; exact hl)).imp fun _ _ q => dat_list.mpr q

/-! ### items -/
theorem atI_tys {τs : List Ty} {vs : List V} {G : Hp} {i : Int} {τ : Ty} (h : Tys τs vs G) (e : atI τs i = some τ) : ∃ v, atI vs i = some v ∧ τ.p v G := by
  unfold atI at e ⊢
  rw [h.length]
  cases q : ixN τs.length i with
  | none =>
    rw [q] at e
    cases e
  | some j =>
    rw [q] at e
    obtain ⟨v, h1, h2⟩ := h.at (i := j) e
    exact ⟨v, h1, h2⟩
theorem ixT {τs : List Ty} {i : Int} (ha : Ev X σ w a (tupT X.K τs)) (hb : Dv X σ w b (.int i)) (hi : atI τs i = some τ) (hs : PlainIx b := by intro _ _; rfl) : Ev X σ w (.Subscript a b pos) τ := fun w1 g Q k =>
  toE (pe_ix ix_tup uE uE hs) (ha w1 g _ fun x w2 g2 ⟨p, vs, ex, h1, h2⟩ => hb w2 (g.trans g2) _ fun y w3 g3 hy => by
    obtain ⟨v, h3, h4⟩ := atI_tys (h2.mono g3.g) hi
    exact ⟨p, vs, i, v, ex, Dp.int_iff hy, sm_seqT (g3.g.trans w3.sub) h1, h3, k v w3 (g2.trans g3) h4⟩)
end
end K27
/-! ## Core3 -/
/-! The calculus, third part: statements, loops, comprehensions, calls. -/
namespace K27
open PySem L2 PySem.Spec PyProof.Rows

section
variable {X : Cx} {e a b : Expr} {es : List Expr} {σ : L2.St} {w w' : Wd} {τ τ' : Ty} {pos : Pos} {ds : List (Option Ty)} {rest body : List Stmt} {D : Ends}

/-! ### statements -/
theorem w_setv (i : Nat) {x : Str} {pos' : Pos} (hN : X.N.Nodup) (he : Ev X σ w e τ) (k : ∀ v w', Grow w w' → τ.p v w'.G → wS X rest D (σ.set i (some v)) w'.H) (hi : X.N[i]? = some x := by rfl) (hx : Loc X.env.scope x := by first | exact Or.inl rfl | exact Or.inr rfl)
    (hs : swapsWith e (some (.Name x pos')) pos.line X.env = pure false := by rfl) (hf : X.fn x = true ∨ X.env.scope.names.lookup x = some .local := by first | exact .inl rfl | exact .inr rfl) :
    wS X (.Assign [.Name x pos'] e pos :: rest) D σ w.H :=
  wS_cons (toS1 (ps_set hN hi hx uE hs hf) (he w (Grow.refl _) _ fun v w2 g2 hv => k v w2 g2 hv))
theorem w_set (i : Nat) {x : Str} {pos' : Pos} (hN : X.N.Nodup) (S : Sl w.G σ ds) (he : Ev X σ w e τ) (k : ∀ σ' w', Grow w w' → Sl w'.G σ' (ds.set i (some τ)) → wS X rest D σ' w'.H) (hi : X.N[i]? = some x := by rfl) (hx : Loc X.env.scope x := by first | exact Or.inl rfl | exact Or.inr rfl)
    (hs : swapsWith e (some (.Name x pos')) pos.line X.env = pure false := by rfl) (hf : X.fn x = true ∨ X.env.scope.names.lookup x = some .local := by first | exact .inl rfl | exact .inr rfl) :
    wS X (.Assign [.Name x pos'] e pos :: rest) D σ w.H :=
  w_setv i hN he (fun v w' g hv => k _ w' g ((S.mono g.g).put hv i)) hi hx hs hf
theorem w_ret (he : Ev X σ w e τ) (k : ∀ v w', Grow w w' → τ.p v w'.G → D.rt v w'.H) : wS X (.Return (some e) pos :: rest) D σ w.H :=
  wS_cons (toS1 (ps_ret uE) (he w (Grow.refl _) _ fun v w2 g2 hv => k v w2 g2 hv))
theorem w_retN (k : D.rt .non w.H) : wS X (.Return none pos :: rest) D σ w.H := wS_cons (toS1 ps_retN k)
theorem w_if {c : Expr} {A B : List Stmt} {b : Bool} (hc : Tv X σ w c b) (hA : b = true → ∀ w', Grow w w' → wS X A { D with nx := wS X rest D } σ w'.H) (hB : b = false → ∀ w', Grow w w' → wS X B { D with nx := wS X rest D } σ w'.H) :
    wS X (.If c A B pos :: rest) D σ w.H :=
  wS_cons (toS1 (ps_if uT uS uS) (hc w (Grow.refl _) _ fun w2 g2 => by
    cases b with
    | true => exact iteT (hA rfl w2 g2)
    | false => exact iteF (hB rfl w2 g2)))
/-- an if without else whose branch does not come back, or is joined by hand -/
theorem w_when {c : Expr} {A : List Stmt} {b : Bool} (hc : Tv X σ w c b) (hA : b = true → ∀ w', Grow w w' → wS X A { D with nx := wS X rest D } σ w'.H) (hB : b = false → ∀ w', Grow w w' → wS X rest D σ w'.H) :
    wS X (.If c A [] pos :: rest) D σ w.H := w_if hc hA fun hb w' g => wS_nil (hB hb w' g)
theorem w_drop (he : Ev X σ w e τ) (k : ∀ w', Grow w w' → wS X rest D σ w'.H) (hs : swapsWith e none pos.line X.env = pure false := by rfl) : wS X (.Expr e pos :: rest) D σ w.H :=
  wS_cons (toS1 (ps_expr uE hs) (he w (Grow.refl _) _ fun v w2 g2 hv => k w2 g2))
/-- name += int -/
theorem w_inc (i : Nat) {x : Str} {pos' : Pos} {n m : Int} (hN : X.N.Nodup) (S : Sl w.G σ ds) (hd : ds[i]? = some (some (dat X.K (.int n)))) (he : Dv X σ w e (.int m)) (k : ∀ σ' w', Grow w w' → Sl w'.G σ' (ds.set i (some (dat X.K (.int (n + m))))) → wS X rest D σ' w'.H)
    (hi : X.N[i]? = some x := by rfl) (hx : Loc X.env.scope x := by first | exact Or.inl rfl | exact Or.inr rfl) (hf : X.fn x = true ∨ X.env.scope.names.lookup x = some .local := by first | exact .inl rfl | exact .inr rfl) :
    wS X (.AugAssign (.Name x pos') .Add e pos :: rest) D σ w.H := by
  obtain ⟨v, e1, e2⟩ := S.get hd
  refine wS_cons (toS1 (ps_aug hN hi hx uE ip_add hf) ⟨v, e1, he w (Grow.refl _) _ fun u w2 g2 hu => ⟨n, m, Dp.int_iff e2, Dp.int_iff hu, k _ w2 g2 ((S.mono g2.g).put (τ := dat X.K (.int (n + m))) (Dp.int _) i)⟩⟩)
theorem w_pass (k : wS X rest D σ w.H) : wS X (.Pass pos :: rest) D σ w.H := wS_cons (toS1 ps_pass k)
theorem w_cont (k : D.ct σ w.H) : wS X (.Continue pos :: rest) D σ w.H := wS_cons (toS1 ps_continue k)
theorem w_brk (k : D.bk σ w.H) : wS X (.Break pos :: rest) D σ w.H := wS_cons (toS1 ps_break k)

/-! ### what is walked -/
def wI (X : Cx) (tg iter : Expr) : TI := fun σ H R => ∀ pins s, Inv X pins σ H s → wpAny (model X.prog X.w) X.A (eval iter X.env) (fun v s1 => wpAny (model X.prog X.w) X.A (pyIter v) (PIE X pins σ tg R) X.xe s1) X.xe s
theorem uI {tg iter : Expr} : PI X tg iter (wI X tg iter) := ⟨fun pins s _ _ _ I h => h pins s I⟩
theorem toI {tg iter : Expr} {wi : TI} {H : Hp} {R : It → Hp → Prop} (p : PI X tg iter wi) (h : wi σ H R) : wI X tg iter σ H R := fun pins s I => p.run pins s σ H R I h
/-- J yields things of these kinds, one after another, as long as what stood at g stands -/
def Yields (g : Hp) (J : It) (τs : List Ty) : Prop := ∀ w : Wd, Same g w.G →
  (∀ i τ, τs[i]? = some τ → J.go i w.H ∧ ∀ x H', J.yld i w.H x H' → ∃ w', w'.H = H' ∧ Grow w w' ∧ τ.p x w'.G) ∧ J.stop τs.length w.H
def Iv (X : Cx) (σ : L2.St) (w : Wd) (tg iter : Expr) (τs : List Ty) : Prop := ∀ w1, Grow w w1 → ∀ R : It → Hp → Prop, (∀ J w2, Grow w1 w2 → Yields w2.G J τs → R J w2.H) → wI X tg iter σ w1.H R
/-- .. as long as what is grown from w0 stands -/
def YieldsG (w0 : Wd) (J : It) (τs : List Ty) : Prop := ∀ w : Wd, Grow w0 w →
  (∀ i τ, τs[i]? = some τ → J.go i w.H ∧ ∀ x H', J.yld i w.H x H' → ∃ w', w'.H = H' ∧ Grow w w' ∧ τ.p x w'.G) ∧ J.stop τs.length w.H
def IvG (X : Cx) (σ : L2.St) (w : Wd) (tg iter : Expr) (τs : List Ty) : Prop := ∀ w1, Grow w w1 → ∀ R : It → Hp → Prop, (∀ J w2, Grow w1 w2 → YieldsG w2 J τs → R J w2.H) → wI X tg iter σ w1.H R
theorem Iv.wk {tg iter : Expr} {τs : List Ty} (h : Iv X σ w tg iter τs) : IvG X σ w tg iter τs := fun w1 g R k => h w1 g R fun J w2 g2 y => k J w2 g2 fun w3 g3 => y w3 g3.g
theorem Iv.grow {tg iter : Expr} {τs : List Ty} (h : Iv X σ w tg iter τs) (g : Grow w w') : Iv X σ w' tg iter τs := fun w1 g1 => h w1 (g.trans g1)
theorem iv_list {tg : Expr} {τs : List Ty} (h : Ev X σ w e (lstT X.K τs)) : Iv X σ w tg e τs := fun w1 g R k =>
  toI (pi_list uE) (h w1 g _ fun v w2 g2 ⟨a, vs, ev, hs, ht⟩ => ⟨a, ev, ⟨vs, w2.sub.seq hs⟩, k _ w2 g2 fun w3 s3 => by
    have h3 : SqL X.K w3.H a vs := (s3.trans w3.sub).seq hs
    refine ⟨fun i τ hi => ?_, vs, h3, by rw [ht.length]; exact Nat.le_refl _⟩
    obtain ⟨v, e1, e2⟩ := ht.at hi
    refine ⟨⟨vs, v, h3, e1⟩, fun x H' ⟨eH, hx⟩ => ⟨w3, eH.symm, Grow.refl _, ?_⟩⟩
    have := hx vs h3
    rw [e1] at this
    cases this
    exact τ.m s3 e2⟩)
theorem iv_tup {tg : Expr} {τs : List Ty} (h : Ev X σ w e (tupT X.K τs)) : Iv X σ w tg e τs := fun w1 g R k =>
  toI (pi_tup uE) (h w1 g _ fun v w2 g2 ⟨a, vs, ev, hs, ht⟩ => ⟨a, ev, ⟨vs, sm_seqT w2.sub hs⟩, k _ w2 g2 fun w3 s3 => by
    have h3 : SqT X.K w3.H a vs := sm_seqT (s3.trans w3.sub) hs
    refine ⟨fun i τ hi => ?_, vs, h3, by rw [ht.length]; exact Nat.le_refl _⟩
    obtain ⟨v, e1, e2⟩ := ht.at hi
    refine ⟨⟨vs, v, h3, e1⟩, fun x H' ⟨eH, hx⟩ => ⟨w3, eH.symm, Grow.refl _, ?_⟩⟩
    have := hx vs h3
    rw [e1] at this
    cases this
    exact τ.m s3 e2⟩)
def rngT (K : PySem.W.Frag) (lo c : Int) (n : Nat) : List Ty := (List.range n).map fun i => dat K (.int (lo + (i : Nat) * c))
theorem rngT_at {K : PySem.W.Frag} {lo c : Int} {n i : Nat} {τ : Ty} (h : (rngT K lo c n)[i]? = some τ) : i < n ∧ τ = dat K (.int (lo + (i : Nat) * c)) := by
  unfold rngT at h
  rw [List.getElem?_map] at h
  by_cases hi : i < n
  · rw [List.getElem?_range hi] at h
    exact ⟨hi, (Option.some.inj h).symm⟩
  · rw [List.getElem?_eq_none (by simpa using hi)] at h
    cases h
theorem rngT_length {K : PySem.W.Frag} {lo c : Int} {n : Nat} : (rngT K lo c n).length = n := by unfold rngT; simp
theorem yields_rng1 {K : PySem.W.Frag} {g : Hp} {lo : Int} {n : Nat} : Yields g (Itr lo n) (rngT K lo 1 n) := fun w s => by
  refine ⟨fun i τ hi => ?_, by show n ≤ (rngT K lo 1 n).length; rw [rngT_length]; exact Nat.le_refl _⟩
  obtain ⟨h1, h2⟩ := rngT_at hi
  refine ⟨h1, fun x H' ⟨eH, ex⟩ => ⟨w, eH.symm, Grow.refl _, ?_⟩⟩
  rw [h2, ex, Int.mul_one]
  exact .int _
theorem iv_rng1 {tg : Expr} {p : Pos} {n : Int} (hm : X.mg "range" = none) (h : Dv X σ w e (.int n)) (hb : -(2 ^ 62) ≤ n ∧ n < 2 ^ 62) (hg : Gl X "range" := by rfl) (hs : starEach [e] X.env = [(false, eval e X.env)] := by rfl) :
    Iv X σ w tg (.Call (.Name "range" p) [e] [] pos) (rngT X.K 0 1 n.toNat) := fun w1 g R k =>
  toI (pi_range1 hg hm (pa_cons uE pa_nil (by rw [hs]; rfl)) hs) (h w1 g _ fun v w2 g2 hv => ⟨n, by rw [Dp.int_iff hv], hb.1, hb.2, k _ w2 g2 yields_rng1⟩)
theorem iv_rng2 {tg : Expr} {p : Pos} {n m : Int} (hm : X.mg "range" = none) (h : Dv X σ w a (.int n)) (h2 : Dv X σ w b (.int m)) (hb : -(2 ^ 62) ≤ n ∧ n < 2 ^ 62 ∧ -(2 ^ 62) ≤ m ∧ m < 2 ^ 62) (hg : Gl X "range" := by rfl)
    (hs : starEach [a, b] X.env = [(false, eval a X.env), (false, eval b X.env)] := by rfl) (hs2 : starEach [b] X.env = [(false, eval b X.env)] := by rfl) :
    Iv X σ w tg (.Call (.Name "range" p) [a, b] [] pos) (rngT X.K n 1 (m - n).toNat) := fun w1 g R k =>
  toI (pi_range2 hg hm (pa_cons uE (pa_cons uE pa_nil (by rw [hs2]; rfl)) (by rw [hs, hs2])) hs hs2) (h w1 g _ fun v w2 g2 hv => h2 w2 (g.trans g2) _ fun v' w3 g3 hv' => ⟨n, m, by rw [Dp.int_iff hv, Dp.int_iff hv'], hb, k _ w3 (g2.trans g3) yields_rng1⟩)
theorem yields_rng3 {K : PySem.W.Frag} {g : Hp} {lo c : Int} {n : Nat} : Yields g (Itc lo c n) (rngT K lo c n) := fun w s => by
  refine ⟨fun i τ hi => ?_, by show n ≤ (rngT K lo c n).length; rw [rngT_length]; exact Nat.le_refl _⟩
  obtain ⟨h1, h2⟩ := rngT_at hi
  refine ⟨h1, fun x H' ⟨eH, ex⟩ => ⟨w, eH.symm, Grow.refl _, ?_⟩⟩
  rw [h2, ex]
  exact .int _
theorem iv_rng3 {tg c : Expr} {p : Pos} {n m l : Int} {k : Nat} (hm : X.mg "range" = none) (h : Dv X σ w a (.int n)) (h2 : Dv X σ w b (.int m)) (h3 : Dv X σ w c (.int l)) (hb : RgC n m l k) (hg : Gl X "range" := by rfl)
    (hs : starEach [a, b, c] X.env = (false, eval a X.env) :: starEach [b, c] X.env := by rfl) (hs2 : starEach [b, c] X.env = (false, eval b X.env) :: starEach [c] X.env := by rfl) (hs3 : starEach [c] X.env = (false, eval c X.env) :: starEach [] X.env := by rfl) (hpl : (backTo pos (starEach [b, c] X.env)).any (·.1) = false := by rfl) :
    Iv X σ w tg (.Call (.Name "range" p) [a, b, c] [] pos) (rngT X.K n l k) := fun w1 g R q =>
  toI (pi_range3 hg hm (pa_cons uE (pa_cons uE (pa_cons uE pa_nil hs3) hs2) hs) hs hpl) (h w1 g _ fun v w2 g2 hv => h2 w2 (g.trans g2) _ fun v' w3 g3 hv' => h3 w3 ((g.trans g2).trans g3) _ fun v'' w4 g4 hv'' =>
    ⟨n, m, l, k, by rw [Dp.int_iff hv, Dp.int_iff hv', Dp.int_iff hv''], hb, q _ w4 ((g2.trans g3).trans g4) yields_rng3⟩)
theorem iv_enum {elts : List Expr} {kk : Nat} {tpos p : Pos} {τs : List Ty} (hm : X.mg "enumerate" = none) (h : Ev X σ w e (lstT X.K τs)) (hg : Gl X "enumerate" := by rfl) (hs : starEach [e] X.env = [(false, eval e X.env)] := by rfl) :
    Iv X σ w (.Tuple elts kk tpos) (.Call (.Name "enumerate" p) [e] [] pos) (τs.mapIdx fun i τ => tupT X.K [dat X.K (.int (i : Nat)), τ]) := fun w1 g R k =>
  toI (pi_enum hg hm (pa_cons uE pa_nil (by rw [hs]; rfl)) hs) (h w1 g _ fun v w2 g2 ⟨a, vs, ev, hsq, ht⟩ => ⟨a, vs, by rw [ev], w2.sub.seq hsq, k _ w2 g2 fun w3 s3 => by
    have h3 : SqL X.K w3.H a vs := (s3.trans w3.sub).seq hsq
    refine ⟨fun i τ hi => ?_, vs, h3, by rw [ht.length, List.length_mapIdx]; exact Nat.le_refl _⟩
    rw [List.getElem?_mapIdx] at hi
    cases q : τs[i]? with
    | none =>
      rw [q] at hi
      cases hi
    | some τ' =>
      rw [q] at hi
      have hi' : τ = tupT X.K [dat X.K (.int (i : Nat)), τ'] := (Option.some.inj hi).symm
      obtain ⟨v, e1, e2⟩ := ht.at q
      refine ⟨⟨vs, v, h3, e1⟩, fun x H' ⟨T, y, ex, hT, eH, hy⟩ => ?_⟩
      have hv := hy vs h3
      rw [e1] at hv
      cases hv
      refine ⟨w3.new T (.tup [.int (i : Nat), v]), eH.symm, Grow.new hT, ?_⟩
      rw [hi']
      exact ⟨T, _, ex, SqT.of Wd.new_at, .cons (.int _) (.cons (τ'.m ((s3.trans (Grow.new hT).g)) e2) .nil)⟩⟩)
def zipK (K : PySem.W.Frag) (τs us : List Ty) : List Ty := List.zipWith (fun τ u => tupT K [τ, u]) τs us
theorem zip_at {K : PySem.W.Frag} : ∀ {τs us : List Ty} {i : Nat} {τ : Ty}, (zipK K τs us)[i]? = some τ → ∃ a b, τs[i]? = some a ∧ us[i]? = some b ∧ τ = tupT K [a, b]
  | τs, us, i, τ, h => by
    unfold zipK at h
    rw [List.getElem?_zipWith] at h
    cases q : τs[i]? with
    | none =>
      rw [q] at h
      simp at h
    | some a =>
      cases r : us[i]? with
      | none =>
        rw [q, r] at h
        simp at h
      | some b =>
        rw [q, r] at h
        exact ⟨a, b, rfl, rfl, by simpa using h.symm⟩
theorem iv_zip {elts : List Expr} {kk : Nat} {tpos p : Pos} {τs us : List Ty} (hm : X.mg "zip" = none) (h : Ev X σ w a (lstT X.K τs)) (h2 : Ev X σ w b (lstT X.K us)) (hg : Gl X "zip" := by rfl)
    (hs : starEach [a, b] X.env = (false, eval a X.env) :: starEach [b] X.env := by rfl) (hs2 : starEach [b] X.env = (false, eval b X.env) :: starEach [] X.env := by rfl) (hpl : (backTo pos (starEach [b] X.env)).any (·.1) = false := by rfl) :
    Iv X σ w (.Tuple elts kk tpos) (.Call (.Name "zip" p) [a, b] [] pos) (zipK X.K τs us) := fun w1 g R k =>
  toI (pi_zip hg hm (pa_cons uE (pa_cons uE pa_nil hs2) hs) hs hpl) (h w1 g _ fun v w2 g2 ⟨p1, vs, ev, hsq, ht⟩ => h2 w2 (g.trans g2) _ fun v' w3 g3 ⟨p2, vs', ev', hsq', ht'⟩ => by
    have ht := ht.mono g3.g
    refine ⟨p1, p2, vs, vs', by rw [ev, ev'], (g3.g.trans w3.sub).seq hsq, w3.sub.seq hsq', k _ w3 (g2.trans g3) fun w4 s4 => ?_⟩
    have q1 : SqL X.K w4.H p1 vs := ((g3.g.trans s4).trans w4.sub).seq hsq
    have q2 : SqL X.K w4.H p2 vs' := (s4.trans w4.sub).seq hsq'
    refine ⟨fun i τ hi => ?_, vs, vs', q1, q2, ?_⟩
    · obtain ⟨τ1, τ2, e1, e2, e3⟩ := zip_at hi
      obtain ⟨v1, f1, f2⟩ := ht.at e1
      obtain ⟨v2, f3, f4⟩ := ht'.at e2
      refine ⟨⟨vs, vs', v1, v2, q1, q2, f1, f3⟩, fun x H' ⟨T, y, z, ex, hT, eH, hy, hz⟩ => ?_⟩
      have hv := hy vs q1
      rw [f1] at hv
      cases hv
      have hv' := hz vs' q2
      rw [f3] at hv'
      cases hv'
      refine ⟨w4.new T (.tup [v1, v2]), eH.symm, Grow.new hT, ?_⟩
      rw [e3]
      exact ⟨T, _, ex, SqT.of Wd.new_at, .cons (τ1.m (s4.trans (Grow.new hT).g) f2) (.cons (τ2.m (s4.trans (Grow.new hT).g) f4) .nil)⟩
    · have e : (zipK X.K τs us).length = min τs.length us.length := by unfold zipK; simp
      rw [e, ht.length, ht'.length]
      omega)

/-! ### targets -/
theorem g2 {K : PySem.W.Frag} {τ1 τ2 : Ty} {i j : Nat} {x : V} {Q : L2.St → Hp → Prop} (h : (tupT K [τ1, τ2]).p x w.G) (k : ∀ v1 v2, τ1.p v1 w.G → τ2.p v2 w.G → Q ((σ.set i (some v1)).set j (some v2)) w.H) :
    gTup K 2 (gCons (gName i) (gCons (gName j) gNil)) x σ w.H Q := by
  obtain ⟨a, vs, ev, hs, ht⟩ := h
  cases ht with
  | cons h1 t =>
    cases t with
    | cons h2 t =>
      cases t
      exact ⟨a, _, ev, sm_seqT w.sub hs, rfl, _, _, rfl, _, _, rfl, rfl, k _ _ h1 h2⟩

/-! ### for -/
/-- the end of a turn: the next turn's word -/
def Nxt (I : Nat → L2.St → Wd → Prop) (w : Wd) (i : Nat) : L2.St → Hp → Prop := fun σ H => ∃ w', w'.H = H ∧ Same w.G w'.G ∧ I i σ w'
theorem wS_mono {st : List Stmt} {D D' : Ends} {H : Hp} (h : wS X st D σ H) (h1 : ∀ σ H, D.nx σ H → D'.nx σ H) (h2 : ∀ v H, D.rt v H → D'.rt v H) (h3 : ∀ σ H, D.bk σ H → D'.bk σ H) (h4 : ∀ σ H, D.ct σ H → D'.ct σ H) : wS X st D' σ H :=
  fun pins s I => thn (h pins s I) fun f s' q => by
    cases f with
    | next => obtain ⟨σ', H', I', q⟩ := q; exact ⟨σ', H', I', h1 _ _ q⟩
    | cont => obtain ⟨σ', H', I', q⟩ := q; exact ⟨σ', H', I', h4 _ _ q⟩
    | brk => obtain ⟨σ', H', I', q⟩ := q; exact ⟨σ', H', I', h3 _ _ q⟩
    | ret v => obtain ⟨v', σ', H', I', r, q⟩ := q; exact ⟨v', σ', H', I', r, h2 _ _ q⟩
theorem w_forN {tg iter : Expr} {τs : List Ty} {g : TG} (hc : X.calm = true) (hp : PassesOwn (model X.prog X.w) X.A X.env X.xe) (hi : Iv X σ w tg iter τs) (hg : PG X tg g) (I : Nat → L2.St → Wd → Prop) (h0 : ∀ w', Grow w w' → I 0 σ w')
    (hs : ∀ i τ σ' w3 w4 x N, τs[i]? = some τ → I i σ' w3 → Grow w3 w4 → τ.p x w4.G → (∀ σ2 H2, Nxt I w4 (i + 1) σ2 H2 → N σ2 H2) → g x σ' w4.H fun σ2 H2 => wS X body { D with nx := N, ct := N, bk := wS X rest D } σ2 H2)
    (hd : ∀ σ' w', I τs.length σ' w' → wS X rest D σ' w'.H) (hf : ∀ x, foldedSetIterable iter X.env x = pure x) : wS X (.For tg iter body [] pos :: rest) D σ w.H :=
  wS_cons (toS1 (ps_for hp hc uI hg uS hf) (hi w (Grow.refl _) _ fun J w2 g2 hy => by
    refine ⟨fun i m σ' H' => m = τs.length - i ∧ i ≤ τs.length ∧ ∃ w', w'.H = H' ∧ Same w2.G w'.G ∧ I i σ' w', ⟨τs.length, rfl, Nat.zero_le _, w2, rfl, Same.refl _, h0 w2 g2⟩, ?_⟩
    rintro i m σ' H' ⟨em, hle, w3, eH, s3, hI⟩
    subst eH
    obtain ⟨y1, y2⟩ := hy w3 s3
    by_cases hlt : i < τs.length
    · obtain ⟨go, yl⟩ := y1 i _ (List.getElem?_eq_getElem hlt)
      refine .inr ⟨go, fun σ2 H2 => ∃ w', w'.H = H2 ∧ Same w2.G w'.G ∧ I (i + 1) σ2 w', fun σ2 H2 ⟨w', e1, e2, e3⟩ => ⟨τs.length - (i + 1), by omega, rfl, by omega, w', e1, e2, e3⟩, fun x H4 hyl => ?_⟩
      obtain ⟨w4, e4, g4, h4⟩ := yl x H4 hyl
      subst e4
      exact hs i _ σ' w3 w4 x _ (List.getElem?_eq_getElem hlt) hI g4 h4 fun σ2 H2 ⟨w', e1, e2, e3⟩ => ⟨w', e1, (s3.trans g4.g).trans e2, e3⟩
    · have e : i = τs.length := by omega
      subst e
      exact .inl ⟨y2, hd σ' w3 hI⟩))
/-- the target a name -/
theorem w_for {iter : Expr} {x : Str} {tp : Pos} {τs : List Ty} (j : Nat) (hc : X.calm = true) (hp : PassesOwn (model X.prog X.w) X.A X.env X.xe) (hN : X.N.Nodup) (hi : Iv X σ w (.Name x tp) iter τs) (I : Nat → L2.St → Wd → Prop) (h0 : ∀ w', Grow w w' → I 0 σ w')
    (hs : ∀ i τ σ' w3 w4 v, τs[i]? = some τ → I i σ' w3 → Grow w3 w4 → τ.p v w4.G → wS X body { D with nx := Nxt I w4 (i + 1), ct := Nxt I w4 (i + 1), bk := wS X rest D } (σ'.set j (some v)) w4.H)
    (hd : ∀ σ' w', I τs.length σ' w' → wS X rest D σ' w'.H) (hj : X.N[j]? = some x := by rfl) (hx : Loc X.env.scope x := by first | exact Or.inl rfl | exact Or.inr rfl) (hf : ∀ x, foldedSetIterable iter X.env x = pure x := by intro _; rfl)
    (hfn : X.fn x = true ∨ X.env.scope.names.lookup x = some .local := by first | exact .inl rfl | exact .inr rfl) : wS X (.For (.Name x tp) iter body [] pos :: rest) D σ w.H :=
  w_forN hc hp hi (pg_name hN hj hx hfn) I h0 (fun i τ σ' w3 w4 v N h1 h2 h3 h4 hN => wS_mono (hs i τ σ' w3 w4 v h1 h2 h3 h4) hN (fun _ _ q => q) (fun _ _ q => q) hN) hd hf
/-- the target a pair of names -/
theorem w_for2 {iter : Expr} {x y : Str} {px py tp : Pos} {kk : Nat} {τs : List Ty} (j k : Nat) (hc : X.calm = true) (hp : PassesOwn (model X.prog X.w) X.A X.env X.xe) (hN : X.N.Nodup) (hi : Iv X σ w (.Tuple [.Name x px, .Name y py] kk tp) iter τs) (I : Nat → L2.St → Wd → Prop) (h0 : ∀ w', Grow w w' → I 0 σ w')
    (hs : ∀ i τ σ' w3 w4, τs[i]? = some τ → I i σ' w3 → Grow w3 w4 → ∃ τ1 τ2, τ = tupT X.K [τ1, τ2] ∧ ∀ v1 v2, τ1.p v1 w4.G → τ2.p v2 w4.G → wS X body { D with nx := Nxt I w4 (i + 1), ct := Nxt I w4 (i + 1), bk := wS X rest D } ((σ'.set j (some v1)).set k (some v2)) w4.H)
    (hd : ∀ σ' w', I τs.length σ' w' → wS X rest D σ' w'.H) (hj : X.N[j]? = some x := by rfl) (hk : X.N[k]? = some y := by rfl) (hx : Loc X.env.scope x := by first | exact Or.inl rfl | exact Or.inr rfl) (hy : Loc X.env.scope y := by first | exact Or.inl rfl | exact Or.inr rfl)
    (hf : ∀ x, foldedSetIterable iter X.env x = pure x := by intro _; rfl) (hfn : X.fn x = true ∨ X.env.scope.names.lookup x = some .local := by first | exact .inl rfl | exact .inr rfl) (hfn2 : X.fn y = true ∨ X.env.scope.names.lookup y = some .local := by first | exact .inl rfl | exact .inr rfl) :
    wS X (.For (.Tuple [.Name x px, .Name y py] kk tp) iter body [] pos :: rest) D σ w.H :=
  w_forN hc hp hi (pg_tup hc (pgs_cons (pg_name hN hj hx hfn) (pgs_cons (pg_name hN hk hy hfn2) pgs_nil)) (by rfl) (by rfl)) I h0 (fun i τ σ' w3 w4 v N h1 h2 h3 h4 hN => by
    obtain ⟨τ1, τ2, e, q⟩ := hs i τ σ' w3 w4 h1 h2 h3
    subst e
    exact g2 h4 fun v1 v2 a b => wS_mono (q v1 v2 a b) hN (fun _ _ q => q) (fun _ _ q => q) hN) hd hf

/-! ### while -/
theorem w_while {c : Expr} (hp : PassesOwn (model X.prog X.w) X.A X.env X.xe) (I : Nat → L2.St → Wd → Prop) (m0 : Nat) (h0 : I m0 σ w)
    (hs : ∀ m σ' w', I m σ' w' → ∃ b, Tv X σ' w' c b ∧ (b = true → ∀ w2, Grow w' w2 → wS X body { D with nx := fun σ3 H3 => ∃ m' w3, m' < m ∧ w3.H = H3 ∧ I m' σ3 w3, ct := fun σ3 H3 => ∃ m' w3, m' < m ∧ w3.H = H3 ∧ I m' σ3 w3, bk := wS X rest D } σ' w2.H) ∧
      (b = false → ∀ w2, Grow w' w2 → wS X rest D σ' w2.H)) : wS X (.While c body [] pos :: rest) D σ w.H :=
  wS_cons (toS1 (ps_while hp uT uS) (by
    refine ⟨fun m σ' H' => ∃ w', w'.H = H' ∧ I m σ' w', ⟨m0, w, rfl, h0⟩, ?_⟩
    rintro m σ' H' ⟨w', eH, hI⟩
    subst eH
    obtain ⟨b, ht, h1, h2⟩ := hs m σ' w' hI
    refine ht w' (Grow.refl _) _ fun w2 g2 => ?_
    cases b with
    | true =>
      exact iteT ⟨_, fun σ3 H3 ⟨m', w3, e1, e2, e3⟩ => ⟨m', e1, w3, e2, e3⟩, h1 rfl w2 g2⟩
    | false => exact iteF (h2 rfl w2 g2)))

/-! ### comprehensions -/
/-- a block's context -/
abbrev Bk (X : Cx) (scope : Scope) (s0 : Shared) (H0 : Hp) (C : Addr) (cl : List (Str × Addr)) (fp : List Addr) : Cx := X.blk s0 H0 scope (compEnvC scope cl C X.env) fp
/-- a block's part, whatever its frame -/
def bE (X : Cx) (scope : Scope) (e : Expr) : TE := fun σ H Q => ∀ s0 H0 C cl fp, wE (Bk X scope s0 H0 C cl fp) e σ H Q
def bT (X : Cx) (scope : Scope) (e : Expr) : TT := fun σ H Q => ∀ s0 H0 C cl fp, wT (Bk X scope s0 H0 C cl fp) e σ H Q
theorem upe {scope : Scope} {s0 : Shared} {H0 : Hp} {C : Addr} {cl : List (Str × Addr)} {fp : List Addr} : PE (Bk X scope s0 H0 C cl fp) e (bE X scope e) := ⟨fun pins s _ _ _ I h => h s0 H0 C cl fp pins s I⟩
theorem upt {scope : Scope} {s0 : Shared} {H0 : Hp} {C : Addr} {cl : List (Str × Addr)} {fp : List Addr} : PT (Bk X scope s0 H0 C cl fp) e (bT X scope e) := ⟨fun pins s _ _ _ I h => h s0 H0 C cl fp pins s I⟩
/-- in a block: what comes of its element, its test -/
def BEv (X : Cx) (scope : Scope) (σ : L2.St) (w : Wd) (e : Expr) (τ : Ty) : Prop := ∀ s0 H0 C cl fp, Ev (Bk X scope s0 H0 C cl fp) σ w e τ
def BTv (X : Cx) (scope : Scope) (σ : L2.St) (w : Wd) (e : Expr) (b : Bool) : Prop := ∀ s0 H0 C cl fp, Tv (Bk X scope s0 H0 C cl fp) σ w e b
/-- what a run comes to may lean on its frame in nothing that is seen -/
theorem BEv.run {scope : Scope} (h : BEv X scope σ w e τ) {Q : VK} (k : ∀ v w', Grow w w' → τ.p v w'.G → Q v w'.H) : bE X scope e σ w.H Q := fun s0 H0 C cl fp => h s0 H0 C cl fp w (Grow.refl _) Q k
theorem BTv.run {scope : Scope} {b : Bool} (h : BTv X scope σ w e b) {Q : Bool → Hp → Prop} (k : ∀ w', Grow w w' → Q b w'.H) : bT X scope e σ w.H Q := fun s0 H0 C cl fp => h s0 H0 C cl fp w (Grow.refl _) Q k
/-- the kinds of the items that are kept -/
def keptT (n : Nat) (b : Nat → Bool) (υ : Nat → Ty) : List Ty := ((List.range n).filter b).map υ
theorem kept_yes {n : Nat} {b : Nat → Bool} {υ : Nat → Ty} (h : b n = true) : keptT (n + 1) b υ = keptT n b υ ++ [υ n] := by
  unfold keptT
  rw [List.range_succ, List.filter_append, List.map_append, List.filter_cons, if_pos h]
  rfl
theorem kept_no {n : Nat} {b : Nat → Bool} {υ : Nat → Ty} (h : b n = false) : keptT (n + 1) b υ = keptT n b υ := by
  unfold keptT
  rw [List.range_succ, List.filter_append, List.map_append, List.filter_cons, if_neg (by rw [h]; decide)]
  exact List.append_nil _
theorem kept_length (n : Nat) (b : Nat → Bool) (υ : Nat → Ty) : (keptT n b υ).length ≤ n := by
  unfold keptT
  rw [List.length_map]
  have := List.length_filter_le b (List.range n)
  rw [List.length_range] at this
  exact this
theorem small_big {n : Nat} (h : n ≤ 1000000) : n < sizeLine := Nat.lt_of_le_of_lt h (by decide)
/-- what a comprehension reads -/
theorem lc_read {elt tg iter : Expr} {ifs : List Expr} {scope : Scope} {own : List (Str × Nat)} {g : TG} {tt : TT} {τs : List Ty} {b : Nat → Bool} {υ : Nat → Ty} (hc : X.calm = true) (hN : X.N.Nodup) (hi : IvG X σ w tg iter τs) (ok : BlkOk X.N X.env.scope scope own)
    (hg : ∀ (s : Shared) (H : Hp) (C : Addr) (cl : List (Str × Addr)) (fp : List Addr), PG (Bk X scope s H C cl fp) tg g) (ht : ∀ (s : Shared) (H : Hp) (C : Addr) (cl : List (Str × Addr)) (fp : List Addr), PTs (Bk X scope s H C cl fp) ifs tt)
    (hz : τs.length ≤ 1000000)
    (hs : ∀ i τ w4 x (Q : L2.St → Hp → Prop), τs[i]? = some τ → Grow w w4 → τ.p x w4.G →
      (∀ σ2, L2.wipe σ2 (own.map (·.2)) = L2.wipe σ (own.map (·.2)) → (∀ Q' : Bool → Hp → Prop, (∀ w5, Grow w4 w5 → Q' (b i) w5.H) → tt σ2 w4.H Q') → (b i = true → ∀ w5, Grow w4 w5 → BEv X scope σ2 w5 elt (υ i)) → Q σ2 w4.H) →
      g x (L2.wipe σ (own.map (·.2))) w4.H Q) :
    ∀ w0, Grow w w0 → ∀ Q : VK, (∀ v w2, Grow w0 w2 → (lstT X.K (keptT τs.length b υ)).p v w2.G → Q v w2.H) → tLc (wI X tg iter) g tt (bE X scope elt) (own.map (·.2)) σ w0.H Q := fun w0 g0 Q k =>
  (hi w0 g0 _ fun J w2 g2 hy D hD => by
    -- the word: the list so far at D, all else grown
    let Pv : Nat → Hp → Prop := fun i H' => ∃ w', w'.H = H' ∧ Grow w2 w' ∧ ∃ acc, Own w' D (.lst acc) ∧ Tys (keptT i b υ) acc w'.G
    have fin : ∀ i H', Pv i H' → i = τs.length → Q (.ref D) H' := by
      rintro i H' ⟨w', eH, g3, acc, ow, ta⟩ ei
      subst eH ei
      have := k (.ref D) (w'.frz D (.lst acc) ow.at_) (g2.trans (g3.frz hD ow.at_)) ⟨D, acc, rfl, SqL.of Wd.frz_at, ta.mono (Wd.frz_same ow.free)⟩
      exact this
    refine ⟨fun i m H' => m = τs.length - i ∧ i ≤ τs.length ∧ Pv i H', ⟨τs.length, rfl, Nat.zero_le _, w2.lay D (.lst []) (w2.gnone hD), rfl, Grow.lay hD, [], Own.lay hD, .nil⟩, ?_⟩
    rintro i m H' ⟨em, hle, w3, eH, g3, acc, ow, ta⟩
    subst eH
    obtain ⟨y1, y2⟩ := hy w3 g3
    by_cases hlt : i < τs.length
    · obtain ⟨go, yl⟩ := y1 i _ (List.getElem?_eq_getElem hlt)
      refine .inr ⟨go, Pv (i + 1), fun H' p => ⟨τs.length - (i + 1), by omega, rfl, by omega, p⟩, fun x H4 hyl => ?_⟩
      obtain ⟨w4, e4, g4, h4⟩ := yl x H4 hyl
      subst e4
      have gw : Grow w w4 := ((g0.trans g2).trans g3).trans g4
      have ow4 := ow.grow g4
      have ta4 := ta.mono g4.g
      refine hs i _ w4 x _ (List.getElem?_eq_getElem hlt) gw h4 fun σ2 hw htt hel => ⟨hw, htt _ fun w5 g5 => ?_⟩
      cases hb : b i with
      | false => exact iteF ⟨w5, rfl, (g3.trans g4).trans g5, acc, ow4.grow g5, by rw [kept_no hb]; exact ta4.mono g5.g⟩
      | true =>
        refine iteT ((hel hb w5 g5).run fun v w6 g6 hv => ?_)
        have ow6 := (ow4.grow g5).grow g6
        have ta6 := (ta4.mono g5.g).mono g6.g
        have hl := ta6.length
        have hk := kept_length i b υ
        refine ⟨acc, ow6.at_, small_big (by omega), w6.lay D (.lst (acc ++ [v])) ow6.free, rfl, (((g3.trans g4).trans g5).trans g6).change hD, acc ++ [v], Own.self, ?_⟩
        rw [kept_yes hb]
        exact ta6.append (.cons hv .nil)
    · have e : i = τs.length := by omega
      exact .inl ⟨by rw [e]; exact y2, fin i _ ⟨w3, rfl, g3, acc, ow, ta⟩ e⟩)
/-- a comprehension's worth: as a value, and set to a name -/
structure LcV (X : Cx) (σ : L2.St) (w : Wd) (e : Expr) (τ : Ty) : Prop where
  ev : Ev X σ w e τ
  st : ∀ (i : Nat) (y : Str) (py spos : Pos), X.N[i]? = some y → X.env.scope.names.lookup y = some .local → swapsWith e (some (.Name y py)) spos.line X.env = pure true → ∀ D : Ends, (∀ v w2, Grow w w2 → τ.p v w2.G → D.nx (σ.set i (some v)) w2.H) → wS1 X (.Assign [.Name y py] e spos) D σ w.H
theorem lv_lc {elt tg iter : Expr} {ifs : List Expr} {scope : Scope} {own : List (Str × Nat)} {g : TG} {tt : TT} {τs : List Ty} {b : Nat → Bool} {υ : Nat → Ty} (hc : X.calm = true) (hN : X.N.Nodup) (hi : IvG X σ w tg iter τs) (ok : BlkOk X.N X.env.scope scope own)
    (hg : ∀ (s : Shared) (H : Hp) (C : Addr) (cl : List (Str × Addr)) (fp : List Addr), PG (Bk X scope s H C cl fp) tg g) (ht : ∀ (s : Shared) (H : Hp) (C : Addr) (cl : List (Str × Addr)) (fp : List Addr), PTs (Bk X scope s H C cl fp) ifs tt)
    (hz : τs.length ≤ 1000000)
    (hs : ∀ i τ w4 x (Q : L2.St → Hp → Prop), τs[i]? = some τ → Grow w w4 → τ.p x w4.G →
      (∀ σ2, L2.wipe σ2 (own.map (·.2)) = L2.wipe σ (own.map (·.2)) → (∀ Q' : Bool → Hp → Prop, (∀ w5, Grow w4 w5 → Q' (b i) w5.H) → tt σ2 w4.H Q') → (b i = true → ∀ w5, Grow w4 w5 → BEv X scope σ2 w5 elt (υ i)) → Q σ2 w4.H) →
      g x (L2.wipe σ (own.map (·.2))) w4.H Q)
    (hf : ∀ x, foldedSetIterable iter X.env x = pure x := by intro _; rfl) : LcV X σ w (.ListComp elt [⟨tg, iter, ifs, 0⟩] scope pos) (lstT X.K (keptT τs.length b υ)) :=
  ⟨fun w0 g0 Q k => toE (pe_lc hc hN uI ok hg ht (fun s H C cl fp => upe) hf) (lc_read hc hN hi ok hg ht hz hs w0 g0 Q k),
   fun i y py spos hy hl hsw D k => toS1 (ps_setLc hc hN hy hl hsw uI ok hg ht (fun s H C cl fp => upe) hf) (lc_read hc hN hi ok hg ht hz hs w (Grow.refl _) _ k)⟩
/-- name = [..], the name a plain local -/
theorem w_setLc (i : Nat) {y : Str} {py : Pos} {elt : Expr} {gs : List Comprehension} {scope : Scope} (S : Sl w.G σ ds) (h : LcV X σ w (.ListComp elt gs scope pos) τ) {spos : Pos} (k : ∀ σ' w', Grow w w' → Sl w'.G σ' (ds.set i (some τ)) → wS X rest D σ' w'.H)
    (hi : X.N[i]? = some y := by rfl) (hl : X.env.scope.names.lookup y = some .local := by rfl) (hs : swapsWith (.ListComp elt gs scope pos) (some (.Name y py)) spos.line X.env = pure true := by exact sw_true rfl rfl rfl rfl) :
    wS X (.Assign [.Name y py] (.ListComp elt gs scope pos) spos :: rest) D σ w.H :=
  wS_cons (h.st i y py spos hi hl hs _ fun v w' g hv => k _ w' g ((S.mono g.g).put hv i))
end
end K27
/-! ## Core4 -/
/-! The calculus, fourth part: comprehensions over names, items, built-in calls, own calls, fields and methods. -/
namespace K27
open PySem L2 PySem.Spec PyProof.Rows

/-! ### comprehensions whose target is a name, a pair of names -/
theorem wipe_get (σ : L2.St) : ∀ (vs : List Nat) (i : Nat), (L2.wipe σ vs)[i]? = if i ∈ vs then (σ[i]?).map (fun _ => none) else σ[i]?
  | [], i => by simp [L2.wipe]
  | v :: vs, i => by
    show ((L2.wipe σ vs).set v none)[i]? = _
    rw [List.getElem?_set, wipe_get σ vs, L2.wipe_length]
    by_cases e : v = i
    · subst e
      by_cases h : v < σ.length
      · simp [h]
      · simp [h]
    · have e' : ¬ i = v := fun q => e q.symm
      simp [e, e']
theorem wipe_set {σ : L2.St} {vs : List Nat} {j : Nat} {y : Option V} (h : j ∈ vs) : L2.wipe (σ.set j y) vs = L2.wipe σ vs := by
  refine List.ext_getElem? fun i => ?_
  rw [wipe_get, wipe_get]
  by_cases e : j = i
  · subst e
    rw [if_pos h, if_pos h, List.getElem?_set]
    by_cases hl : j < σ.length
    · simp [hl]
    · simp [hl]
  · rw [List.getElem?_set_ne e]
theorem wipe_wipe {σ : L2.St} {vs : List Nat} : L2.wipe (L2.wipe σ vs) vs = L2.wipe σ vs := by
  refine List.ext_getElem? fun i => ?_
  rw [wipe_get, wipe_get]
  by_cases e : i ∈ vs
  · simp only [e, if_true]
    cases σ[i]? <;> rfl
  · simp [e]
section
variable {X : Cx} {e a b : Expr} {es : List Expr} {σ : L2.St} {w w' : Wd} {τ τ' : Ty} {pos : Pos} {ds : List (Option Ty)}
/-- a name that a block stores: its own -/
def BN (X : Cx) (scope : Scope) (j : Nat) (x : Str) : Prop := X.N[j]? = some x ∧ ((relS scope X.env.scope).names.lookup x = some .local ∨ ((relS scope X.env.scope).names.lookup x = some .cell ∧ (scope.names.lookup x == some .cell) = true))
theorem bn_pg {scope : Scope} {j : Nat} {x : Str} {tp : Pos} (hN : X.N.Nodup) (h : BN X scope j x) : ∀ (s : Shared) (H : Hp) (C : Addr) (cl : List (Str × Addr)) (fp : List Addr), PG (Bk X scope s H C cl fp) (.Name x tp) (gName j) := fun s H C cl fp => by
  obtain ⟨h1, h2⟩ := h
  rcases h2 with h2 | ⟨h2, h3⟩
  · exact pg_name hN h1 (.inl h2) (.inr h2)
  · exact pg_name hN h1 (.inr h2) (.inl h3)
/-- [elt for x in iter] -/
theorem lcV {elt iter : Expr} {x : Str} {tp : Pos} {scope : Scope} {τs : List Ty} (own : List (Str × Nat)) (j : Nat) (υ : Nat → Ty) (hc : X.calm = true) (hN : X.N.Nodup) (S : Sl w.G σ ds) (hi : Iv X σ w (.Name x tp) iter τs) (hz : τs.length ≤ 1000000)
    (hs : ∀ i τ σ2 w4, τs[i]? = some τ → Grow w w4 → Sl w4.G σ2 ((wipeD ds (own.map (·.2))).set j (some τ)) → BEv X scope σ2 w4 elt (υ i))
    (ok : BlkOk X.N X.env.scope scope own := by first | exact blkOk_by (by decide +kernel) | exact blkOk_by (by dsimp only [cxOf, Cx.nox, Cx.wish, envOfC, Cx.blk, compEnvC]; decide +kernel)) (hb : BN X scope j x := by first | exact ⟨rfl, .inl rfl⟩ | exact ⟨rfl, .inr ⟨rfl, rfl⟩⟩) (hj : j ∈ own.map (·.2) := by decide) (hf : ∀ x, foldedSetIterable iter X.env x = pure x := by intro _; rfl) :
    LcV X σ w (.ListComp elt [⟨.Name x tp, iter, [], 0⟩] scope pos) (lstT X.K ((List.range τs.length).map υ)) := by
  have h := lv_lc (pos := pos) (b := fun _ => true) (υ := υ) (elt := elt) hc hN hi.wk ok (bn_pg hN hb) (fun _ _ _ _ _ => pts_nil) hz (fun i τ w4 v Q h1 h2 h3 k => k _ (by rw [wipe_set hj, wipe_wipe]) (fun Q' q => q w4 (Grow.refl _)) fun _ w5 g5 => hs i τ _ w5 h1 (h2.trans g5) (((S.mono (h2.trans g5).g).wipe _).put (τ.m g5.g h3) j)) hf
  have e : keptT τs.length (fun _ => true) υ = (List.range τs.length).map υ := by
    unfold keptT
    rw [List.filter_eq_self.mpr (fun _ _ => rfl)]
  rw [e] at h
  exact h
theorem lc {elt iter : Expr} {x : Str} {tp : Pos} {scope : Scope} {τs : List Ty} (own : List (Str × Nat)) (j : Nat) (υ : Nat → Ty) (hc : X.calm = true) (hN : X.N.Nodup) (S : Sl w.G σ ds) (hi : Iv X σ w (.Name x tp) iter τs) (hz : τs.length ≤ 1000000)
    (hs : ∀ i τ σ2 w4, τs[i]? = some τ → Grow w w4 → Sl w4.G σ2 ((wipeD ds (own.map (·.2))).set j (some τ)) → BEv X scope σ2 w4 elt (υ i))
    (ok : BlkOk X.N X.env.scope scope own := by first | exact blkOk_by (by decide +kernel) | exact blkOk_by (by dsimp only [cxOf, Cx.nox, Cx.wish, envOfC, Cx.blk, compEnvC]; decide +kernel)) (hb : BN X scope j x := by first | exact ⟨rfl, .inl rfl⟩ | exact ⟨rfl, .inr ⟨rfl, rfl⟩⟩) (hj : j ∈ own.map (·.2) := by decide) (hf : ∀ x, foldedSetIterable iter X.env x = pure x := by intro _; rfl) :
    Ev X σ w (.ListComp elt [⟨.Name x tp, iter, [], 0⟩] scope pos) (lstT X.K ((List.range τs.length).map υ)) :=
  (lcV own j υ hc hN S hi hz hs ok hb hj hf).ev
/-- [elt for x in iter if test] -/
theorem lcifGV {elt iter test : Expr} {x : Str} {tp : Pos} {scope : Scope} {τs : List Ty} (own : List (Str × Nat)) (j : Nat) (b : Nat → Bool) (υ : Nat → Ty) (hc : X.calm = true) (hN : X.N.Nodup) (S : Sl w.G σ ds) (hi : IvG X σ w (.Name x tp) iter τs) (hz : τs.length ≤ 1000000)
    (ht : ∀ i τ σ2 w4, τs[i]? = some τ → Grow w w4 → Sl w4.G σ2 ((wipeD ds (own.map (·.2))).set j (some τ)) → BTv X scope σ2 w4 test (b i))
    (hs : ∀ i τ σ2 w4, τs[i]? = some τ → b i = true → Grow w w4 → Sl w4.G σ2 ((wipeD ds (own.map (·.2))).set j (some τ)) → BEv X scope σ2 w4 elt (υ i))
    (ok : BlkOk X.N X.env.scope scope own := by first | exact blkOk_by (by decide +kernel) | exact blkOk_by (by dsimp only [cxOf, Cx.nox, Cx.wish, envOfC, Cx.blk, compEnvC]; decide +kernel)) (hb : BN X scope j x := by first | exact ⟨rfl, .inl rfl⟩ | exact ⟨rfl, .inr ⟨rfl, rfl⟩⟩) (hj : j ∈ own.map (·.2) := by decide) (hf : ∀ x, foldedSetIterable iter X.env x = pure x := by intro _; rfl) :
    LcV X σ w (.ListComp elt [⟨.Name x tp, iter, [test], 0⟩] scope pos) (lstT X.K (keptT τs.length b υ)) :=
  lv_lc (pos := pos) (b := b) (υ := υ) (elt := elt) hc hN hi ok (bn_pg hN hb) (fun _ _ _ _ _ => pts_one upt) hz (fun i τ w4 v Q h1 h2 h3 k =>
    k _ (by rw [wipe_set hj, wipe_wipe]) (fun Q' q => (ht i τ _ w4 h1 h2 (((S.mono h2.g).wipe _).put h3 j)).run q) fun hbi w5 g5 => hs i τ _ w5 h1 hbi (h2.trans g5) (((S.mono (h2.trans g5).g).wipe _).put (τ.m g5.g h3) j)) hf
theorem lcifV {elt iter test : Expr} {x : Str} {tp : Pos} {scope : Scope} {τs : List Ty} (own : List (Str × Nat)) (j : Nat) (b : Nat → Bool) (υ : Nat → Ty) (hc : X.calm = true) (hN : X.N.Nodup) (S : Sl w.G σ ds) (hi : Iv X σ w (.Name x tp) iter τs) (hz : τs.length ≤ 1000000)
    (ht : ∀ i τ σ2 w4, τs[i]? = some τ → Grow w w4 → Sl w4.G σ2 ((wipeD ds (own.map (·.2))).set j (some τ)) → BTv X scope σ2 w4 test (b i))
    (hs : ∀ i τ σ2 w4, τs[i]? = some τ → b i = true → Grow w w4 → Sl w4.G σ2 ((wipeD ds (own.map (·.2))).set j (some τ)) → BEv X scope σ2 w4 elt (υ i))
    (ok : BlkOk X.N X.env.scope scope own := by first | exact blkOk_by (by decide +kernel) | exact blkOk_by (by dsimp only [cxOf, Cx.nox, Cx.wish, envOfC, Cx.blk, compEnvC]; decide +kernel)) (hb : BN X scope j x := by first | exact ⟨rfl, .inl rfl⟩ | exact ⟨rfl, .inr ⟨rfl, rfl⟩⟩) (hj : j ∈ own.map (·.2) := by decide) (hf : ∀ x, foldedSetIterable iter X.env x = pure x := by intro _; rfl) :
    LcV X σ w (.ListComp elt [⟨.Name x tp, iter, [test], 0⟩] scope pos) (lstT X.K (keptT τs.length b υ)) :=
  lcifGV own j b υ hc hN S hi.wk hz ht hs ok hb hj hf
theorem lcif {elt iter test : Expr} {x : Str} {tp : Pos} {scope : Scope} {τs : List Ty} (own : List (Str × Nat)) (j : Nat) (b : Nat → Bool) (υ : Nat → Ty) (hc : X.calm = true) (hN : X.N.Nodup) (S : Sl w.G σ ds) (hi : Iv X σ w (.Name x tp) iter τs) (hz : τs.length ≤ 1000000)
    (ht : ∀ i τ σ2 w4, τs[i]? = some τ → Grow w w4 → Sl w4.G σ2 ((wipeD ds (own.map (·.2))).set j (some τ)) → BTv X scope σ2 w4 test (b i))
    (hs : ∀ i τ σ2 w4, τs[i]? = some τ → b i = true → Grow w w4 → Sl w4.G σ2 ((wipeD ds (own.map (·.2))).set j (some τ)) → BEv X scope σ2 w4 elt (υ i))
    (ok : BlkOk X.N X.env.scope scope own := by first | exact blkOk_by (by decide +kernel) | exact blkOk_by (by dsimp only [cxOf, Cx.nox, Cx.wish, envOfC, Cx.blk, compEnvC]; decide +kernel)) (hb : BN X scope j x := by first | exact ⟨rfl, .inl rfl⟩ | exact ⟨rfl, .inr ⟨rfl, rfl⟩⟩) (hj : j ∈ own.map (·.2) := by decide) (hf : ∀ x, foldedSetIterable iter X.env x = pure x := by intro _; rfl) :
    Ev X σ w (.ListComp elt [⟨.Name x tp, iter, [test], 0⟩] scope pos) (lstT X.K (keptT τs.length b υ)) :=
  (lcifV own j b υ hc hN S hi hz ht hs ok hb hj hf).ev
/-- [elt for x, y in iter] -/
theorem lc2V {elt iter : Expr} {x y : Str} {px py tp : Pos} {kk : Nat} {scope : Scope} {τs : List Ty} (own : List (Str × Nat)) (j k : Nat) (υ : Nat → Ty) (hc : X.calm = true) (hN : X.N.Nodup) (S : Sl w.G σ ds) (hi : Iv X σ w (.Tuple [.Name x px, .Name y py] kk tp) iter τs) (hz : τs.length ≤ 1000000)
    (hs : ∀ i τ, τs[i]? = some τ → ∃ τ1 τ2, τ = tupT X.K [τ1, τ2] ∧ ∀ σ2 w4, Grow w w4 → Sl w4.G σ2 (((wipeD ds (own.map (·.2))).set j (some τ1)).set k (some τ2)) → BEv X scope σ2 w4 elt (υ i))
    (ok : BlkOk X.N X.env.scope scope own := by first | exact blkOk_by (by decide +kernel) | exact blkOk_by (by dsimp only [cxOf, Cx.nox, Cx.wish, envOfC, Cx.blk, compEnvC]; decide +kernel)) (hb : BN X scope j x := by first | exact ⟨rfl, .inl rfl⟩ | exact ⟨rfl, .inr ⟨rfl, rfl⟩⟩) (hb2 : BN X scope k y := by first | exact ⟨rfl, .inl rfl⟩ | exact ⟨rfl, .inr ⟨rfl, rfl⟩⟩)
    (hj : j ∈ own.map (·.2) := by decide) (hk : k ∈ own.map (·.2) := by decide) (hf : ∀ x, foldedSetIterable iter X.env x = pure x := by intro _; rfl) :
    LcV X σ w (.ListComp elt [⟨.Tuple [.Name x px, .Name y py] kk tp, iter, [], 0⟩] scope pos) (lstT X.K ((List.range τs.length).map υ)) := by
  have h := lv_lc (pos := pos) (b := fun _ => true) (υ := υ) (elt := elt) hc hN hi.wk ok (fun s H C cl fp => pg_tup (X := Bk X scope s H C cl fp) hc (pgs_cons (bn_pg hN hb s H C cl fp) (pgs_cons (bn_pg hN hb2 s H C cl fp) pgs_nil)) (by rfl) (by rfl)) (fun _ _ _ _ _ => pts_nil) hz (fun i τ w4 v Q h1 h2 h3 q => by
    obtain ⟨τ1, τ2, e, r⟩ := hs i τ h1
    subst e
    exact g2 h3 fun v1 v2 a1 a2 => q _ (by rw [wipe_set hk, wipe_set hj, wipe_wipe]) (fun Q' q => q w4 (Grow.refl _)) fun _ w5 g5 =>
      r _ w5 (h2.trans g5) ((((S.mono (h2.trans g5).g).wipe _).put (τ1.m g5.g a1) j).put (τ2.m g5.g a2) k)) hf
  have e : keptT τs.length (fun _ => true) υ = (List.range τs.length).map υ := by
    unfold keptT
    rw [List.filter_eq_self.mpr (fun _ _ => rfl)]
  rw [e] at h
  exact h
theorem lc2 {elt iter : Expr} {x y : Str} {px py tp : Pos} {kk : Nat} {scope : Scope} {τs : List Ty} (own : List (Str × Nat)) (j k : Nat) (υ : Nat → Ty) (hc : X.calm = true) (hN : X.N.Nodup) (S : Sl w.G σ ds) (hi : Iv X σ w (.Tuple [.Name x px, .Name y py] kk tp) iter τs) (hz : τs.length ≤ 1000000)
    (hs : ∀ i τ, τs[i]? = some τ → ∃ τ1 τ2, τ = tupT X.K [τ1, τ2] ∧ ∀ σ2 w4, Grow w w4 → Sl w4.G σ2 (((wipeD ds (own.map (·.2))).set j (some τ1)).set k (some τ2)) → BEv X scope σ2 w4 elt (υ i))
    (ok : BlkOk X.N X.env.scope scope own := by first | exact blkOk_by (by decide +kernel) | exact blkOk_by (by dsimp only [cxOf, Cx.nox, Cx.wish, envOfC, Cx.blk, compEnvC]; decide +kernel)) (hb : BN X scope j x := by first | exact ⟨rfl, .inl rfl⟩ | exact ⟨rfl, .inr ⟨rfl, rfl⟩⟩) (hb2 : BN X scope k y := by first | exact ⟨rfl, .inl rfl⟩ | exact ⟨rfl, .inr ⟨rfl, rfl⟩⟩)
    (hj : j ∈ own.map (·.2) := by decide) (hk : k ∈ own.map (·.2) := by decide) (hf : ∀ x, foldedSetIterable iter X.env x = pure x := by intro _; rfl) :
    Ev X σ w (.ListComp elt [⟨.Tuple [.Name x px, .Name y py] kk tp, iter, [], 0⟩] scope pos) (lstT X.K ((List.range τs.length).map υ)) :=
  (lc2V own j k υ hc hN S hi hz hs ok hb hb2 hj hk hf).ev

/-! ### data as lists and tuples of kinds -/
theorem asT {xs : List PyData} (h : Dv X σ w e (.tuple xs)) : Ev X σ w e (tupT X.K (xs.map (dat X.K))) := h.imp fun _ _ q => dat_tuple.mp q
theorem asL {xs : List PyData} (h : Dv X σ w e (.list xs)) : Ev X σ w e (lstT X.K (xs.map (dat X.K))) := h.imp fun _ _ q => dat_list.mp q
theorem ofT {xs : List PyData} (h : Ev X σ w e (tupT X.K (xs.map (dat X.K)))) : Dv X σ w e (.tuple xs) := h.imp fun _ _ q => dat_tuple.mpr q
theorem ofL {xs : List PyData} (h : Ev X σ w e (lstT X.K (xs.map (dat X.K)))) : Dv X σ w e (.list xs) := h.imp fun _ _ q => dat_list.mpr q
theorem Ev.lst {τs us : List Ty} (h : Ev X σ w e (lstT X.K τs)) (i : τs = us) : Ev X σ w e (lstT X.K us) := i ▸ h
theorem atI_map {α β : Type} {f : α → β} {xs : List α} {i : Int} {x : α} (h : atI xs i = some x) : atI (xs.map f) i = some (f x) := by
  unfold atI at h ⊢
  rw [List.length_map]
  cases q : ixN xs.length i with
  | none =>
    rw [q] at h
    cases h
  | some j =>
    rw [q] at h
    have h' : xs[j]? = some x := h
    show (xs.map f)[j]? = some (f x)
    rw [List.getElem?_map, h']
    rfl
/-- an item of a tuple's data, of a list's -/
theorem ixTD {xs : List PyData} {d : PyData} {i : Int} (ha : Dv X σ w a (.tuple xs)) (hb : Dv X σ w b (.int i)) (hi : atI xs i = some d) (hs : PlainIx b := by intro _ _; rfl) : Dv X σ w (.Subscript a b pos) d := ixT (asT ha) hb (atI_map hi) hs
theorem ixL {τs : List Ty} {i : Int} (ha : Ev X σ w a (lstT X.K τs)) (hb : Dv X σ w b (.int i)) (hi : atI τs i = some τ) (hs : PlainIx b := by intro _ _; rfl) : Ev X σ w (.Subscript a b pos) τ := fun w1 g Q k =>
  toE (pe_ix ix_list uE uE hs) (ha w1 g _ fun x w2 g2 ⟨p, vs, ex, h1, h2⟩ => hb w2 (g.trans g2) _ fun y w3 g3 hy => by
    obtain ⟨v, h3, h4⟩ := atI_tys (h2.mono g3.g) hi
    exact ⟨p, vs, i, v, ex, Dp.int_iff hy, (g3.g.trans w3.sub).seq h1, h3, k v w3 (g2.trans g3) h4⟩)
theorem ixLD {xs : List PyData} {d : PyData} {i : Int} (ha : Dv X σ w a (.list xs)) (hb : Dv X σ w b (.int i)) (hi : atI xs i = some d) (hs : PlainIx b := by intro _ _; rfl) : Dv X σ w (.Subscript a b pos) d := ixL (asL ha) hb (atI_map hi) hs

/-! ### built-in calls of one argument, of two -/
section
variable {x : Str} {p : Pos} {id T : String}
theorem bi1 {r : List V → Hp → VK → Prop} {τa : Ty} (hc : CallR X (.builtin id) r) (hm : X.mg x = none) (hv : bootBuiltins x = some (.builtin id)) (ha : Ev X σ w e τa)
    (k : ∀ (v : V) (w2 : Wd) (Q : VK), Grow w w2 → τa.p v w2.G → (∀ u w3, Grow w2 w3 → τ.p u w3.G → Q u w3.H) → r [v] w2.H Q) (hg : Gl X x := by rfl) (hn : x ≠ "__name__" := by decide) (hdb : (x == ("__debug__" : Str)) = false := by decide)
    (he : starEach [e] X.env = (false, eval e X.env) :: starEach [] X.env := by rfl) : Ev X σ w (.Call (.Name x p) [e] [] pos) τ := fun w1 g Q q =>
  toE (pe_callB hc hg hm hv (pa_cons uE pa_nil he) hn hdb he rfl) (ha w1 g _ fun v w2 g2 hv => k v w2 Q (g.trans g2) hv fun u w3 g3 hu => q u w3 (g2.trans g3) hu)
theorem bt1 {r : List V → Hp → VK → Prop} {τa : Ty} (hc : CallR X (.type T) r) (hm : X.mg x = none) (hv : bootBuiltins x = some (.type T)) (ha : Ev X σ w e τa)
    (k : ∀ (v : V) (w2 : Wd) (Q : VK), Grow w w2 → τa.p v w2.G → (∀ u w3, Grow w2 w3 → τ.p u w3.G → Q u w3.H) → r [v] w2.H Q) (hg : Gl X x := by rfl) (hn : x ≠ "__name__" := by decide) (hdb : (x == ("__debug__" : Str)) = false := by decide)
    (he : starEach [e] X.env = (false, eval e X.env) :: starEach [] X.env := by rfl) : Ev X σ w (.Call (.Name x p) [e] [] pos) τ := fun w1 g Q q =>
  toE (pe_callTy hc hg hm hv (pa_cons uE pa_nil he) hn hdb he rfl) (ha w1 g _ fun v w2 g2 hv => k v w2 Q (g.trans g2) hv fun u w3 g3 hu => q u w3 (g2.trans g3) hu)
theorem bi2 {r : List V → Hp → VK → Prop} {τa τb : Ty} (hc : CallR X (.builtin id) r) (hm : X.mg x = none) (hv : bootBuiltins x = some (.builtin id)) (ha : Ev X σ w a τa) (hb : Ev X σ w b τb)
    (k : ∀ (v v' : V) (w2 : Wd) (Q : VK), Grow w w2 → τa.p v w2.G → τb.p v' w2.G → (∀ u w3, Grow w2 w3 → τ.p u w3.G → Q u w3.H) → r [v, v'] w2.H Q) (hg : Gl X x := by rfl) (hn : x ≠ "__name__" := by decide) (hdb : (x == ("__debug__" : Str)) = false := by decide)
    (he : starEach [a, b] X.env = (false, eval a X.env) :: starEach [b] X.env := by rfl) (he2 : starEach [b] X.env = (false, eval b X.env) :: starEach [] X.env := by rfl) (hpl : (backTo pos (starEach [b] X.env)).any (·.1) = false := by rfl) : Ev X σ w (.Call (.Name x p) [a, b] [] pos) τ := fun w1 g Q q =>
  toE (pe_callB hc hg hm hv (pa_cons uE (pa_cons uE pa_nil he2) he) hn hdb he hpl) (ha w1 g _ fun v w2 g2 hv => hb w2 (g.trans g2) _ fun v' w3 g3 hv' => k v v' w3 Q ((g.trans g2).trans g3) (τa.m g3.g hv) hv' fun u w4 g4 hu => q u w4 ((g2.trans g3).trans g4) hu)
end
section
variable {p : Pos}
theorem lenL {τs : List Ty} (hm : X.mg "len" = none) (ha : Ev X σ w e (lstT X.K τs)) (hg : Gl X "len" := by rfl) (he : starEach [e] X.env = (false, eval e X.env) :: starEach [] X.env := by rfl) : Dv X σ w (.Call (.Name "len" p) [e] [] pos) (.int (τs.length : Nat)) :=
  bi1 call_len_seq hm boot_len ha (fun v w2 Q g ⟨q, vs, ev, hs, ht⟩ k => ⟨q, vs, by rw [ev], .inl (w2.sub.seq hs), by rw [ht.length]; exact k _ w2 (Grow.refl _) (.int _)⟩) hg (by decide) (by decide) he
theorem lenT {τs : List Ty} (hm : X.mg "len" = none) (ha : Ev X σ w e (tupT X.K τs)) (hg : Gl X "len" := by rfl) (he : starEach [e] X.env = (false, eval e X.env) :: starEach [] X.env := by rfl) : Dv X σ w (.Call (.Name "len" p) [e] [] pos) (.int (τs.length : Nat)) :=
  bi1 call_len_seq hm boot_len ha (fun v w2 Q g ⟨q, vs, ev, hs, ht⟩ k => ⟨q, vs, by rw [ev], .inr (sm_seqT w2.sub hs), by rw [ht.length]; exact k _ w2 (Grow.refl _) (.int _)⟩) hg (by decide) (by decide) he
theorem lenLD {xs : List PyData} (hm : X.mg "len" = none) (ha : Dv X σ w e (.list xs)) (hg : Gl X "len" := by rfl) (he : starEach [e] X.env = (false, eval e X.env) :: starEach [] X.env := by rfl) : Dv X σ w (.Call (.Name "len" p) [e] [] pos) (.int (xs.length : Nat)) := by
  have h := lenL (pos := pos) (p := p) hm (asL ha) hg he
  rw [List.length_map] at h
  exact h
theorem lenTD {xs : List PyData} (hm : X.mg "len" = none) (ha : Dv X σ w e (.tuple xs)) (hg : Gl X "len" := by rfl) (he : starEach [e] X.env = (false, eval e X.env) :: starEach [] X.env := by rfl) : Dv X σ w (.Call (.Name "len" p) [e] [] pos) (.int (xs.length : Nat)) := by
  have h := lenT (pos := pos) (p := p) hm (asT ha) hg he
  rw [List.length_map] at h
  exact h
theorem abs_ {i : Int} (hm : X.mg "abs" = none) (ha : Dv X σ w e (.int i)) (hg : Gl X "abs" := by rfl) (he : starEach [e] X.env = (false, eval e X.env) :: starEach [] X.env := by rfl) : Dv X σ w (.Call (.Name "abs" p) [e] [] pos) (.int (if i < 0 then -i else i)) :=
  bi1 call_abs hm (by decide +kernel) ha (fun v w2 Q g hv k => ⟨i, by rw [Dp.int_iff hv], k _ w2 (Grow.refl _) (.int _)⟩) hg (by decide) (by decide) he
theorem int_ {i : Int} (hm : X.mg "int" = none) (ha : Dv X σ w e (.int i)) (hg : Gl X "int" := by rfl) (he : starEach [e] X.env = (false, eval e X.env) :: starEach [] X.env := by rfl) : Dv X σ w (.Call (.Name "int" p) [e] [] pos) (.int i) :=
  bt1 call_int1 hm (by decide +kernel) ha (fun v w2 Q g hv k => .inl ⟨i, by rw [Dp.int_iff hv], k _ w2 (Grow.refl _) (.int _)⟩) hg (by decide) (by decide) he
theorem min2_ {i j : Int} (hc : X.calm = true) (hm : X.mg "min" = none) (ha : Dv X σ w a (.int i)) (hb : Dv X σ w b (.int j)) (hg : Gl X "min" := by rfl)
    (he : starEach [a, b] X.env = (false, eval a X.env) :: starEach [b] X.env := by rfl) (he2 : starEach [b] X.env = (false, eval b X.env) :: starEach [] X.env := by rfl) (hpl : (backTo pos (starEach [b] X.env)).any (·.1) = false := by rfl) : Dv X σ w (.Call (.Name "min" p) [a, b] [] pos) (.int (if j < i then j else i)) :=
  bi2 (call_min2 hc) hm (by decide +kernel) ha hb (fun v v' w2 Q g hv hv' k => ⟨i, j, by rw [Dp.int_iff hv, Dp.int_iff hv'], k _ w2 (Grow.refl _) (.int _)⟩) hg (by decide) (by decide) he he2 hpl
/-- list(x), tuple(x) of a list or tuple -/
theorem list_ {τs : List Ty} (hm : X.mg "list" = none) (ha : Ev X σ w e (lstT X.K τs) ∨ Ev X σ w e (tupT X.K τs)) (hg : Gl X "list" := by rfl) (he : starEach [e] X.env = (false, eval e X.env) :: starEach [] X.env := by rfl) : Ev X σ w (.Call (.Name "list" p) [e] [] pos) (lstT X.K τs) := by
  rcases ha with ha | ha
  · exact bt1 call_list_of hm (by decide +kernel) ha (fun v w2 Q g ⟨q, vs, ev, hs, ht⟩ k => ⟨q, vs, by rw [ev], .inl (w2.sub.seq hs), fun l hl => k _ (w2.new l (.lst vs)) (Grow.new hl) ⟨l, vs, rfl, SqL.of Wd.new_at, ht.mono (Grow.new hl).g⟩⟩) hg (by decide) (by decide) he
  · exact bt1 call_list_of hm (by decide +kernel) ha (fun v w2 Q g ⟨q, vs, ev, hs, ht⟩ k => ⟨q, vs, by rw [ev], .inr (sm_seqT w2.sub hs), fun l hl => k _ (w2.new l (.lst vs)) (Grow.new hl) ⟨l, vs, rfl, SqL.of Wd.new_at, ht.mono (Grow.new hl).g⟩⟩) hg (by decide) (by decide) he
theorem tuple_ {τs : List Ty} (hm : X.mg "tuple" = none) (ha : Ev X σ w e (lstT X.K τs) ∨ Ev X σ w e (tupT X.K τs)) (hg : Gl X "tuple" := by rfl) (he : starEach [e] X.env = (false, eval e X.env) :: starEach [] X.env := by rfl) : Ev X σ w (.Call (.Name "tuple" p) [e] [] pos) (tupT X.K τs) := by
  rcases ha with ha | ha
  · exact bt1 call_tuple_of hm (by decide +kernel) ha (fun v w2 Q g ⟨q, vs, ev, hs, ht⟩ k => ⟨q, vs, by rw [ev], .inl ⟨w2.sub.seq hs, fun l hl => k _ (w2.new l (.tup vs)) (Grow.new hl) ⟨l, vs, rfl, SqT.of Wd.new_at, ht.mono (Grow.new hl).g⟩⟩⟩) hg (by decide) (by decide) he
  · exact bt1 call_tuple_of hm (by decide +kernel) ha (fun v w2 Q g ⟨q, vs, ev, hs, ht⟩ k => ⟨q, vs, by rw [ev], .inr ⟨sm_seqT w2.sub hs, k _ w2 (Grow.refl _) ⟨q, vs, rfl, hs, ht⟩⟩⟩) hg (by decide) (by decide) he
/-- all(xs), any(xs) of bools -/
theorem bls_of {K : PySem.W.Frag} : ∀ {bs : List Bool} {vs : List V} {G : Hp}, Tys (bs.map fun b => dat K (.bool b)) vs G → vs = bs.map V.bl
  | [], _, _, h => by cases h; rfl
  | b :: bs, _, _, h => by
    cases h with
    | cons h1 h2 =>
      rw [Dp.bool_iff h1, bls_of h2]
      rfl
theorem all_ {bs : List Bool} (hc : X.calm = true) (hm : X.mg "all" = none) (ha : Ev X σ w e (lstT X.K (bs.map fun b => dat X.K (.bool b)))) (hg : Gl X "all" := by rfl) (he : starEach [e] X.env = (false, eval e X.env) :: starEach [] X.env := by rfl) : Dv X σ w (.Call (.Name "all" p) [e] [] pos) (.bool (bs.all id)) :=
  bi1 (cr_all hc) hm (by decide +kernel) ha (fun v w2 Q g ⟨q, vs, ev, hs, ht⟩ k => ⟨q, bs, by rw [ev], by rw [bls_of ht] at hs; exact w2.sub.seq hs, k _ w2 (Grow.refl _) (.bl _)⟩) hg (by decide) (by decide) he
theorem any_ {bs : List Bool} (hc : X.calm = true) (hm : X.mg "any" = none) (ha : Ev X σ w e (lstT X.K (bs.map fun b => dat X.K (.bool b)))) (hg : Gl X "any" := by rfl) (he : starEach [e] X.env = (false, eval e X.env) :: starEach [] X.env := by rfl) : Dv X σ w (.Call (.Name "any" p) [e] [] pos) (.bool (bs.any id)) :=
  bi1 (cr_any hc) hm (by decide +kernel) ha (fun v w2 Q g ⟨q, vs, ev, hs, ht⟩ k => ⟨q, bs, by rw [ev], by rw [bls_of ht] at hs; exact w2.sub.seq hs, k _ w2 (Grow.refl _) (.bl _)⟩) hg (by decide) (by decide) he
/-- list(range(n)), tuple(range(n)) -/
theorem rgV_tys {K : PySem.W.Frag} {G : Hp} (lo hi : Int) : Tys (rngT K lo 1 (hi - lo).toNat) (rgV lo hi) G := by
  unfold rngT rgV
  have go : ∀ l : List Nat, Tys (l.map fun i => dat K (.int (lo + (i : Nat) * 1))) (l.map fun i => V.int (lo + (i : Nat))) G := by
    intro l
    induction l with
    | nil => exact .nil
    | cons x l ih =>
      refine .cons ?_ ih
      show (dat K (PyData.int (lo + (x : Nat) * 1))).p (V.int (lo + (x : Nat))) G
      rw [Int.mul_one]
      exact .int _
  exact go _
theorem listR {q : Pos} {q2 : Pos} {n : Int} (hc : X.calm = true) (hm : X.mg "list" = none) (hm2 : X.mg "range" = none) (ha : Dv X σ w e (.int n)) (hb : 0 ≤ n ∧ n ≤ 1000) (hg : Gl X "list" := by rfl) (hg2 : Gl X "range" := by rfl)
    (he : starEach [e] X.env = (false, eval e X.env) :: starEach [] X.env := by rfl) (he2 : starEach [Expr.Call (.Name "range" q) [e] [] q2] X.env = (false, eval (Expr.Call (.Name "range" q) [e] [] q2) X.env) :: starEach [] X.env := by rfl) :
    Ev X σ w (.Call (.Name "list" p) [.Call (.Name "range" q) [e] [] q2] [] pos) (lstT X.K (rngT X.K 0 1 n.toNat)) := fun w1 g Q k =>
  toE (pe_listRg hc hg hm (prg_1 hg2 hm2 uE he) he2) (ha w1 g _ fun v w2 g2 hv => ⟨n, Dp.int_iff hv, RgOk.of_le (by omega) (by omega) (by omega) (by omega), fun l hl => k _ (w2.new l _) (g2.trans (Grow.new hl)) ⟨l, _, rfl, SqL.of Wd.new_at, by
    have := rgV_tys (K := X.K) (G := (w2.new l (.lst (rgV 0 n))).G) 0 n
    rw [Int.sub_zero] at this
    exact this⟩⟩)
theorem tupR {q : Pos} {q2 : Pos} {n : Int} (hc : X.calm = true) (hm : X.mg "tuple" = none) (hm2 : X.mg "range" = none) (ha : Dv X σ w e (.int n)) (hb : 0 ≤ n ∧ n ≤ 1000) (hg : Gl X "tuple" := by rfl) (hg2 : Gl X "range" := by rfl)
    (he : starEach [e] X.env = (false, eval e X.env) :: starEach [] X.env := by rfl) (he2 : starEach [Expr.Call (.Name "range" q) [e] [] q2] X.env = (false, eval (Expr.Call (.Name "range" q) [e] [] q2) X.env) :: starEach [] X.env := by rfl) :
    Ev X σ w (.Call (.Name "tuple" p) [.Call (.Name "range" q) [e] [] q2] [] pos) (tupT X.K (rngT X.K 0 1 n.toNat)) := fun w1 g Q k =>
  toE (pe_tupRg hc hg hm (prg_1 hg2 hm2 uE he) he2) (ha w1 g _ fun v w2 g2 hv => ⟨n, Dp.int_iff hv, RgOk.of_le (by omega) (by omega) (by omega) (by omega), fun l hl => k _ (w2.new l _) (g2.trans (Grow.new hl)) ⟨l, _, rfl, SqT.of Wd.new_at, by
    have := rgV_tys (K := X.K) (G := (w2.new l (.tup (rgV 0 n))).G) 0 n
    rw [Int.sub_zero] at this
    exact this⟩⟩)
end
/-! ### isinstance -/
def tyN : PyData → String
  | .none => "NoneType"
  | .bool _ => "bool"
  | .int _ => "int"
  | .str _ => "str"
  | .list _ => "list"
  | .tuple _ => "tuple"
  | .dict _ => "dict"
theorem tyx_of {K : PySem.W.Frag} {H : Hp} {v : V} {d : PyData} (h : Dp K H v d) : TyX K H v (.type (tyN d)) := by
  cases h with
  | non => exact .base .non
  | bl b => exact .base (.bl b)
  | int i => exact .base (.int i)
  | str x => exact .base (.str x)
  | lst hs _ =>
    rcases hs with (hs | ⟨o, hs⟩) | ⟨o, its, n, hk, hc, _⟩
    · exact .base (.lst hs)
    · exact .base (.frz hs)
    · exact .kList hk hc
  | tup hs _ =>
    rcases hs with (hs | ⟨o, hs⟩) | ⟨o, its, n, hk, hc, _⟩
    · exact .base (.tup hs)
    · exact .fTuple hs
    · exact .kTuple hk hc
/-- a built-in class as a value -/
theorem gty {x : Str} {n : String} (hm : X.mg x = none) (hv : bootBuiltins x = some (.type n)) (hg : Gl X x := by rfl) (hn : x ≠ "__name__" := by decide) (hd : (x == ("__debug__" : Str)) = false := by decide) : Ev X σ w (.Name x pos) (ex (.ty n)) := fun w1 g Q k =>
  toE (pe_bltn (v := .ty n) hg hm hv rfl hn hd) (k _ w1 (Grow.refl _) rfl)
theorem isi {p : Pos} {d : PyData} {n : String} {c : Bool} (hm : X.mg "isinstance" = none) (ha : Dv X σ w a d) (hb : Ev X σ w b (ex (.ty n))) (hk : kitB (tyN d) n = some c) (hg : Gl X "isinstance" := by rfl)
    (he : starEach [a, b] X.env = (false, eval a X.env) :: starEach [b] X.env := by rfl) (he2 : starEach [b] X.env = (false, eval b X.env) :: starEach [] X.env := by rfl) (hpl : (backTo pos (starEach [b] X.env)).any (·.1) = false := by rfl) :
    Dv X σ w (.Call (.Name "isinstance" p) [a, b] [] pos) (.bool c) :=
  bi2 call_isi hm (by decide +kernel) ha hb (fun v v' w2 Q g hv hv' k => ⟨v, .ty n, .type (tyN d), .type n, c, by rw [show v' = .ty n from hv'], .ty n, tyx_of (dp_mono w2.sub _ _ hv), kit_ty hk, k _ w2 (Grow.refl _) (.bl _)⟩) hg (by decide) (by decide) he he2 hpl
theorem isi2 {p : Pos} {d : PyData} {n m : String} {c c1 c2 : Bool} (hm : X.mg "isinstance" = none) (ha : Dv X σ w a d) (hb : Ev X σ w b (tupT X.K [ex (.ty n), ex (.ty m)])) (hk : kitB (tyN d) n = some c1) (hk2 : kitB (tyN d) m = some c2) (hcc : (c1 || c2) = c)
    (hnew : ∀ w1, Grow w w1 → ∀ Q : VK, (∀ q w2, Grow w1 w2 → w2.H q = some (.tup [.ty n, .ty m]) → Q (.ref q) w2.H) → wE X b σ w1.H Q) (hg : Gl X "isinstance" := by rfl)
    (he : starEach [a, b] X.env = (false, eval a X.env) :: starEach [b] X.env := by rfl) (he2 : starEach [b] X.env = (false, eval b X.env) :: starEach [] X.env := by rfl) (hpl : (backTo pos (starEach [b] X.env)).any (·.1) = false := by rfl) :
    Dv X σ w (.Call (.Name "isinstance" p) [a, b] [] pos) (.bool c) := fun w1 g Q q =>
  toE (pe_callB call_isiT hg hm (by decide +kernel) (pa_cons uE (pa_cons uE pa_nil he2) he) (by decide) (by decide) he hpl) (ha w1 g _ fun v w2 g2 hv => hnew w2 (g.trans g2) _ fun q' w3 g3 hq =>
    ⟨v, q', [.ty n, .ty m], .type (tyN d), [.type n, .type m], c, rfl, hq, .cons (.ty n) (.cons (.ty m) .nil), tyx_of (dp_mono (g3.g.trans w3.sub) _ _ hv),
      kitAny_cons (kit_ty hk) (fun h => kitAny_cons (kit_ty hk2) (fun h' => by rw [h, h'] at hcc; rw [← hcc]; exact kitAny_nil) (fun h' => by rw [h, h'] at hcc; exact hcc.symm)) (fun h => by rw [h] at hcc; exact hcc.symm), q _ w3 (g2.trans g3) (.bl _)⟩)

/-! ### own defs -/
/-- what a def is worth: by some index, under a condition, arguments of these kinds are answered by this kind -/
def spOf {ι : Type} (pre : ι → Prop) (as : ι → List Ty) (r : ι → Ty) : Sp := fun vs H Q _ => ∃ (i : ι) (w : Wd), w.H = H ∧ pre i ∧ Tys (as i) vs w.G ∧ ∀ v w', Grow w w' → (r i).p v w'.G → Q v w'.H
theorem spOf_len {ι : Type} {pre : ι → Prop} {as : ι → List Ty} {r : ι → Ty} {n : Nat} (h : ∀ i, (as i).length = n) : ∀ vs H Q E, spOf pre as r vs H Q E → vs.length = n := fun vs H Q E ⟨i, w, _, _, t, _⟩ => by rw [t.length, h i]
section
variable {ι : Type} {pre : ι → Prop} {as : ι → List Ty} {r : ι → Ty} {k : Nat} {f : Addr} {fd : FuncData} {ps : List Str} {x : Str} {p : Pos} {τs : List Ty}
theorem call_ (F : FnOk X.prog X.w X.K X.mg X.base CX0 k f fd ps (spOf pre as r)) (hr : Room k X.A) (hm : X.mg x = some (.ref f)) (hk : PySem.W.keepIn X.K (.ref f) = true) (hb : Binds X.K fd ps []) (i : ι) (hp : pre i) (ha : Av X σ w (e :: es) (as i))
    (hg : Gl X x := by rfl) (hdb : (x == ("__debug__" : Str)) = false := by decide) (he : starEach (e :: es) X.env = (false, eval e X.env) :: starEach es X.env := by rfl) (hpl : (backTo pos (starEach es X.env)).any (·.1) = false := by rfl) :
    Ev X σ w (.Call (.Name x p) (e :: es) [] pos) (r i) := fun w1 g Q q =>
  toE (pe_call F hr hg hm hk hb .nil pass0 uA hdb he hpl) (ha w1 g _ fun vs w2 g2 hvs => ⟨i, w2, rfl, hp, by rw [List.append_nil]; exact hvs, fun v w' g' hv => q v w' (g2.trans g') hv⟩)
end
/-! ### instances -/
/-- an instance of the class at C with these fields, in the order of their stores -/
def insT (C : Addr) (fs : List (Str × Ty)) : Ty := ⟨fun v G => ∃ a dx gs, v = .ref a ∧ G a = some (.ins C dx gs) ∧ Paired (fun (p : Str × V) (q : Str × Ty) => p.1 = q.1 ∧ q.2.p p.2 G) gs fs,
  fun e ⟨a, dx, gs, h1, h2, h3⟩ => ⟨a, dx, gs, h1, e _ _ h2, Paired.mapP h3 fun p q z => ⟨z.1, q.2.m e z.2⟩⟩⟩
theorem fields_get : ∀ {gs : List (Str × V)} {fs : List (Str × Ty)} {G : Hp} {f : Str} {τ : Ty}, Paired (fun (p : Str × V) (q : Str × Ty) => p.1 = q.1 ∧ q.2.p p.2 G) gs fs → fs.lookup f = some τ → ∃ v, gs.lookup f = some v ∧ τ.p v G
  | _, _, _, f, τ, .nil, h => by simp at h
  | _, _, _, f, τ, .cons (a := (g, v)) (b := (g', τ')) ⟨e, hv⟩ t, h => by
    have e : g = g' := e
    subst e
    rw [List.lookup_cons] at h ⊢
    split at h
    · cases h
      exact ⟨v, rfl, hv⟩
    · exact fields_get t h
theorem fields_none : ∀ {gs : List (Str × V)} {fs : List (Str × Ty)} {G : Hp} {f : Str}, Paired (fun (p : Str × V) (q : Str × Ty) => p.1 = q.1 ∧ q.2.p p.2 G) gs fs → fs.lookup f = none → gs.lookup f = none
  | _, _, _, f, .nil, h => rfl
  | _, _, _, f, .cons (a := (g, v)) (b := (g', τ')) ⟨e, hv⟩ t, h => by
    have e : g = g' := e
    subst e
    rw [List.lookup_cons] at h ⊢
    split at h
    · cases h
    · exact fields_none t h
theorem fld {C : Addr} {fs : List (Str × Ty)} {f : Str} (ha : Ev X σ w e (insT C fs)) (c : Cls X.K C) (n : NoAttr X.K C f) (hl : fs.lookup f = some τ) (hb : attributeBase e f X.env (eval e X.env) = eval e X.env := by rfl) : Ev X σ w (.Attribute e f pos) τ := fun w1 g Q k =>
  toE (pe_fld uE hb) (ha w1 g _ fun v w2 g2 ⟨a, dx, gs, ev, h1, h2⟩ => by
    obtain ⟨u, h3, h4⟩ := fields_get h2 hl
    exact ⟨a, C, dx, gs, u, ev, w2.sub _ _ h1, c, n, h3, k u w2 g2 h4⟩)
section
variable {ι : Type} {pre : ι → Prop} {as : ι → List Ty} {r : ι → Ty} {k : Nat} {f C : Addr} {fd : FuncData} {ps : List Str} {m : Str} {apos : Pos} {τs : List Ty} {fs : List (Str × Ty)} {o : Expr} {pl : Sem Bool}
theorem meth_ (F : FnOk X.prog X.w X.K X.mg X.base CX0 k f fd ps (spOf pre as r)) (hr : Room k X.A) (c : Cls X.K C) (hm : Meth X.K C m f) (hb : Binds X.K fd ps []) (i : ι) (hp : pre i) (ho : Ev X σ w o (insT C fs)) (hl : fs.lookup m = none) (ha : Av X σ w (e :: es) τs) (hi : as i = insT C fs :: τs)
    (hst : starEach (e :: es) X.env = (false, eval e X.env) :: starEach es X.env := by rfl) (hpl : (backTo pos (starEach es X.env)).any (·.1) = false := by rfl)
    (ht : eval (.Call (.Attribute o m apos) (e :: es) [] pos) X.env = (do
      let ov ← eval o X.env
      standAt apos.atName
      let (f, first) ← holding [ov] (getMethod ov m pl)
      callWith pos f first (backTo pos (starEach (e :: es) X.env)) (backToKw pos (keywordEach [] X.env))) := by rfl) :
    Ev X σ w (.Call (.Attribute o m apos) (e :: es) [] pos) (r i) := fun w1 g Q q =>
  toE (pe_meth (pl := pl) uE c hm F hr hb .nil pass0 uA hst hpl ht) (ho w1 g _ fun v w2 g2 hv => by
    obtain ⟨a, dx, gs, ev, h1, h2⟩ := id hv
    refine ⟨a, dx, gs, ev, w2.sub _ _ h1, fields_none h2 hl, ha w2 (g.trans g2) _ fun vs w3 g3 hvs => ⟨i, w3, rfl, hp, ?_, fun v w' g' hv => q v w' ((g2.trans g3).trans g') hv⟩⟩
    rw [List.append_nil, hi]
    exact .cons (Ty.m _ g3.g hv) hvs)
end
end
end K27
/-! ## Core5 -/
/-! The calculus, fifth part: slices, zip, isinstance of several classes, deep comparison, membership, in-place lists. -/
namespace K27
open PySem L2 PySem.Spec PyProof.Rows
section
variable {X : Cx} {e a b : Expr} {es : List Expr} {σ : L2.St} {w w' : Wd} {τ τ' : Ty} {pos : Pos} {ds : List (Option Ty)} {rest : List Stmt} {D : Ends}
theorem Tys.drop : ∀ {τs : List Ty} {vs : List V} {G : Hp} (n : Nat), Tys τs vs G → Tys (τs.drop n) (vs.drop n) G
  | _, _, _, 0, h => h
  | _, _, _, _ + 1, .nil => .nil
  | _, _, _, n + 1, .cons _ t => Tys.drop n t
theorem cut1 (vs : List V) : cutV vs (some 1) none = vs.drop 1 := by
  unfold cutV
  have e1 : HT.sIx vs.length 0 (some 1) = min 1 vs.length := HT.sIx_nat vs.length 0 1
  rw [e1, HT.sIx_none]
  have e2 : vs.drop (min 1 vs.length) = vs.drop 1 := by
    cases vs with
    | nil => rfl
    | cons v r => simp
  rw [e2]
  refine List.take_of_length_le ?_
  rw [List.length_drop]
  omega
/-- xs[1:] -/
theorem slL {τs : List Ty} {p2 p3 : Pos} {j : Nat} (ha : Ev X σ w a (lstT X.K τs)) : Ev X σ w (.Subscript a (.Slice (some (.Constant (.int 1) j p3)) none none p2) pos) (lstT X.K (τs.drop 1)) := fun w1 g Q k =>
  toE (pe_slice sl_list uE (po_some pe_int) po_none) (ha w1 g _ fun v w2 g2 ⟨p, vs, ev, hs, ht⟩ => ⟨1, rfl, p, vs, ev, w2.sub.seq hs, fun q hq => k _ (w2.new q _) (g2.trans (Grow.new hq)) ⟨q, vs.drop 1, rfl, by rw [← cut1]; exact SqL.of Wd.new_at, (ht.drop 1).mono (Grow.new hq).g⟩⟩)
theorem slT {τs : List Ty} {p2 p3 : Pos} {j : Nat} (ha : Ev X σ w a (tupT X.K τs)) (hne : τs ≠ []) : Ev X σ w (.Subscript a (.Slice (some (.Constant (.int 1) j p3)) none none p2) pos) (tupT X.K (τs.drop 1)) := fun w1 g Q k =>
  toE (pe_slice sl_tup uE (po_some pe_int) po_none) (ha w1 g _ fun v w2 g2 ⟨p, vs, ev, hs, ht⟩ => ⟨1, rfl, p, vs, ev, sm_seqT w2.sub hs, (by
    have hl := ht.length
    have hp : 0 < τs.length := List.length_pos_iff.mpr hne
    have e1 : HT.sIx vs.length 0 (some 1) = min 1 vs.length := HT.sIx_nat vs.length 0 1
    rw [e1]
    omega), fun q hq => k _ (w2.new q _) (g2.trans (Grow.new hq)) ⟨q, vs.drop 1, rfl, by rw [← cut1]; exact SqT.of Wd.new_at, (ht.drop 1).mono (Grow.new hq).g⟩⟩)
theorem iv_zipT {elts : List Expr} {kk : Nat} {tpos p : Pos} {τs us : List Ty} (hm : X.mg "zip" = none) (h : Ev X σ w a (tupT X.K τs)) (h2 : Ev X σ w b (tupT X.K us)) (hg : Gl X "zip" := by rfl)
    (hs : starEach [a, b] X.env = (false, eval a X.env) :: starEach [b] X.env := by rfl) (hs2 : starEach [b] X.env = (false, eval b X.env) :: starEach [] X.env := by rfl) (hpl : (backTo pos (starEach [b] X.env)).any (·.1) = false := by rfl) :
    Iv X σ w (.Tuple elts kk tpos) (.Call (.Name "zip" p) [a, b] [] pos) (zipK X.K τs us) := fun w1 g R k =>
  toI (RZ.pi_zipA hg hm (pa_cons uE (pa_cons uE pa_nil hs2) hs) hs hpl) (h w1 g _ fun v w2 g2 ⟨p1, vs, ev, hsq, ht⟩ => h2 w2 (g.trans g2) _ fun v' w3 g3 ⟨p2, vs', ev', hsq', ht'⟩ => by
    have ht := ht.mono g3.g
    refine ⟨p1, p2, vs, vs', by rw [ev, ev'], .inr ⟨sm_seqT (g3.g.trans w3.sub) hsq, sm_seqT w3.sub hsq', k _ w3 (g2.trans g3) fun w4 s4 => ?_⟩⟩
    have q1 : SqT X.K w4.H p1 vs := sm_seqT ((g3.g.trans s4).trans w4.sub) hsq
    have q2 : SqT X.K w4.H p2 vs' := sm_seqT (s4.trans w4.sub) hsq'
    refine ⟨fun i τ hi => ?_, vs, vs', q1, q2, ?_⟩
    · obtain ⟨τ1, τ2, e1, e2, e3⟩ := zip_at hi
      obtain ⟨v1, f1, f2⟩ := ht.at e1
      obtain ⟨v2, f3, f4⟩ := ht'.at e2
      refine ⟨⟨vs, vs', v1, v2, q1, q2, f1, f3⟩, fun x H' ⟨T, y, z, ex, hT, eH, hy, hz⟩ => ?_⟩
      have hv := hy vs q1
      rw [f1] at hv
      cases hv
      have hv' := hz vs' q2
      rw [f3] at hv'
      cases hv'
      refine ⟨w4.new T (.tup [v1, v2]), eH.symm, Grow.new hT, ?_⟩
      rw [e3]
      exact ⟨T, _, ex, SqT.of Wd.new_at, .cons (τ1.m (s4.trans (Grow.new hT).g) f2) (.cons (τ2.m (s4.trans (Grow.new hT).g) f4) .nil)⟩
    · have e : (zipK X.K τs us).length = min τs.length us.length := by unfold zipK; simp
      rw [e, ht.length, ht'.length]
      omega)
/-- isinstance(x, (T1, T2)) -/
theorem isiT {p p2 : Pos} {d : PyData} {n m : String} {c1 c2 : Bool} {b1 b2 : Expr} {kk : Nat} (hm : X.mg "isinstance" = none) (ha : Dv X σ w a d) (h1 : Ev X σ w b1 (ex (.ty n))) (h2 : Ev X σ w b2 (ex (.ty m))) (hk : kitB (tyN d) n = some c1) (hk2 : kitB (tyN d) m = some c2) (hg : Gl X "isinstance" := by rfl)
    (he : starEach [a, .Tuple [b1, b2] kk p2] X.env = (false, eval a X.env) :: starEach [.Tuple [b1, b2] kk p2] X.env := by rfl) (he2 : starEach [Expr.Tuple [b1, b2] kk p2] X.env = (false, eval (Expr.Tuple [b1, b2] kk p2) X.env) :: starEach [] X.env := by rfl)
    (hpl : (backTo pos (starEach [.Tuple [b1, b2] kk p2] X.env)).any (·.1) = false := by rfl) (hs1 : starEach [b1, b2] X.env = (false, eval b1 X.env) :: starEach [b2] X.env := by rfl) (hs2 : starEach [b2] X.env = (false, eval b2 X.env) :: starEach [] X.env := by rfl) :
    Dv X σ w (.Call (.Name "isinstance" p) [a, .Tuple [b1, b2] kk p2] [] pos) (.bool (c1 || c2)) := fun w1 g Q q =>
  toE (pe_callB call_isiT hg hm (by decide +kernel) (pa_cons uE (pa_cons (pe_tup (pa_cons uE (pa_cons uE pa_nil hs2) hs1)) pa_nil he2) he) (by decide) (by decide) he hpl)
    (ha w1 g _ fun v w2 g2 hv => h1 w2 (g.trans g2) _ fun v1 w3 g3 e1 => h2 w3 ((g.trans g2).trans g3) _ fun v2 w4 g4 e2 => ⟨(show 2 ≤ sizeLine by decide), fun q' hq => by
      have e1 : v1 = .ty n := e1
      have e2 : v2 = .ty m := e2
      subst e1 e2
      have gn := Grow.new (w := w4) (o := .tup [V.ty n, V.ty m]) hq
      refine ⟨v, q', [.ty n, .ty m], .type (tyN d), [.type n, .type m], c1 || c2, rfl, upd_same, .cons (.ty n) (.cons (.ty m) .nil), tyx_of (dp_mono (((g3.g.trans g4.g).trans w4.sub).trans gn.h) _ _ hv), ?_, q _ (w4.new q' _) (((g2.trans g3).trans g4).trans gn) (.bl _)⟩
      exact kitAny_cons (kit_ty hk) (fun h => by rw [h]; exact kitAny_cons (kit_ty hk2) (fun h' => by rw [h']; exact kitAny_nil) (fun h' => by rw [h']; rfl)) (fun h => by rw [h]; rfl)⟩)

/-! ### deep == of data; x in xs -/
theorem eqD {d d' : PyData} (hu : X.A.units + 64 < cLine) (ha : Dv X σ w a d) (hb : Dv X σ w b d') (h1 : SeqAt.shaped d = true) (h2 : SeqAt.shaped d' = true) : Dv X σ w (.Compare a [.Eq] [b] pos) (.bool (PyData.eqv d d')) :=
  ev_cmp (op_eqD hu) ha hb (nomark _) fun x y w3 Q _ hx hy q => ⟨d, d', dp_mono w3.sub _ _ hx, dp_mono w3.sub _ _ hy, h1, h2, q _ w3 (Grow.refl _) (.bl _)⟩
theorem neD {d d' : PyData} (hu : X.A.units + 64 < cLine) (ha : Dv X σ w a d) (hb : Dv X σ w b d') (h1 : SeqAt.shaped d = true) (h2 : SeqAt.shaped d' = true) : Dv X σ w (.Compare a [.NotEq] [b] pos) (.bool (!PyData.eqv d d')) :=
  ev_cmp (op_neD hu) ha hb (nomark _) fun x y w3 Q _ hx hy q => ⟨d, d', dp_mono w3.sub _ _ hx, dp_mono w3.sub _ _ hy, h1, h2, q _ w3 (Grow.refl _) (.bl _)⟩
theorem t_neD {d d' : PyData} (hu : X.A.units + 64 < cLine) (ha : Dv X σ w a d) (hb : Dv X σ w b d') (h1 : SeqAt.shaped d = true) (h2 : SeqAt.shaped d' = true) : Tv X σ w (.Compare a [.NotEq] [b] pos) (!PyData.eqv d d') :=
  tv_cmp (op_neD hu) ha hb (nomark _) fun x y w3 Q _ hx hy q => ⟨d, d', dp_mono w3.sub _ _ hx, dp_mono w3.sub _ _ hy, h1, h2, q w3 (Grow.refl _)⟩
theorem ints_of {K : PySem.W.Frag} : ∀ {ns : List Int} {vs : List V} {G : Hp}, Tys (ns.map fun n => dat K (.int n)) vs G → vs = ns.map V.int
  | [], _, _, h => by cases h; rfl
  | b :: bs, _, _, h => by
    cases h with
    | cons h1 h2 =>
      rw [Dp.int_iff h1, ints_of h2]
      rfl
theorem inV_ints (i : Int) (ns : List Int) : inV (.int i) (ns.map V.int) = decide (i ∈ ns) := by
  unfold inV
  rw [List.any_map, Bool.eq_iff_iff, List.any_eq_true, decide_eq_true_eq]
  constructor
  · rintro ⟨n, hn, h⟩
    have h : decide (n = i) = true := by simpa [eqV] using h
    rw [← of_decide_eq_true h]
    exact hn
  · intro h
    exact ⟨i, h, by simp [eqV]⟩
theorem flat_ints (ns : List Int) : (ns.map V.int).all flatV = true := by
  rw [List.all_eq_true]
  intro x hx
  obtain ⟨n, _, rfl⟩ := List.mem_map.mp hx
  rfl
theorem notInT {i : Int} {ns : List Int} (ha : Dv X σ w a (.int i)) (hb : Ev X σ w b (tupT X.K (ns.map fun n => dat X.K (.int n)))) (hm : behindInMarks .NotIn b = false := by rfl) : Dv X σ w (.Compare a [.NotIn] [b] pos) (.bool (!decide (i ∈ ns))) :=
  ev_cmp op_notIn_seq ha hb hm fun x y w3 Q _ hx ⟨p, vs, ey, hs, ht⟩ q => ⟨p, vs, ey, .inr (sm_seqT w3.sub hs), by rw [Dp.int_iff hx]; rfl, by rw [ints_of ht]; exact flat_ints ns, by
    rw [Dp.int_iff hx, ints_of ht, inV_ints]
    exact q _ w3 (Grow.refl _) (.bl _)⟩
theorem t_notInT {i : Int} {ns : List Int} (ha : Dv X σ w a (.int i)) (hb : Ev X σ w b (tupT X.K (ns.map fun n => dat X.K (.int n)))) (hm : behindInMarks .NotIn b = false := by rfl) : Tv X σ w (.Compare a [.NotIn] [b] pos) (!decide (i ∈ ns)) :=
  tv_cmp op_notIn_seq ha hb hm fun x y w3 Q _ hx ⟨p, vs, ey, hs, ht⟩ q => ⟨p, vs, ey, .inr (sm_seqT w3.sub hs), by rw [Dp.int_iff hx]; rfl, by rw [ints_of ht]; exact flat_ints ns, by
    rw [Dp.int_iff hx, ints_of ht, inV_ints]
    exact q w3 (Grow.refl _)⟩
theorem t_inT {i : Int} {ns : List Int} (ha : Dv X σ w a (.int i)) (hb : Ev X σ w b (tupT X.K (ns.map fun n => dat X.K (.int n)))) (hm : behindInMarks .In b = false := by rfl) : Tv X σ w (.Compare a [.In] [b] pos) (decide (i ∈ ns)) :=
  tv_cmp op_in_seq ha hb hm fun x y w3 Q _ hx ⟨p, vs, ey, hs, ht⟩ q => ⟨p, vs, ey, .inr (sm_seqT w3.sub hs), by rw [Dp.int_iff hx]; rfl, by rw [ints_of ht]; exact flat_ints ns, by
    rw [Dp.int_iff hx, ints_of ht, inV_ints]
    exact q w3 (Grow.refl _)⟩
/-- t + u -/
theorem catT {τs us : List Ty} (ha : Ev X σ w a (tupT X.K τs)) (hb : Ev X σ w b (tupT X.K us)) (h0 : τs ≠ []) (hz : τs.length + us.length ≤ 1000000) : Ev X σ w (.BinOp a .Add b pos) (tupT X.K (τs ++ us)) :=
  ev_op op_catT ha hb fun x y w3 Q _ ⟨p, vs, ex, hs, ht⟩ ⟨p2, vs2, ey, hs2, ht2⟩ q => by
    refine ⟨p, p2, vs, vs2, ex, ey, sm_seqT w3.sub hs, sm_seqT w3.sub hs2, fun z => ?_, ?_, fun z => ?_, fun z l hl => ?_⟩
    · have := ht.length
      rw [z] at this
      exact h0 (List.length_eq_zero_iff.mp this.symm)
    · rw [ht.length, ht2.length]
      exact Nat.le_trans hz (by decide)
    · subst z
      cases ht2
      rw [List.append_nil] at q
      exact q _ w3 (Grow.refl _) ⟨p, vs, rfl, hs, ht⟩
    · exact q _ (w3.new l _) (Grow.new hl) ⟨l, _, rfl, SqT.of Wd.new_at, (ht.append ht2).mono (Grow.new hl).g⟩
/-! ### lists that are being made -/
/-- name = [] or the like: a new list that may be changed -/
theorem w_newlist (i : Nat) {x : Str} {p2 pos' : Pos} {τs : List Ty} (hN : X.N.Nodup) (S : Sl w.G σ ds) (he : Av X σ w es τs) (hz : τs.length ≤ sizeLine)
    (k : ∀ σ' w' a vs, Grow w w' → w.H a = none → Own w' a (.lst vs) → Tys τs vs w'.G → Sl w'.G σ' (ds.set i (some (ex (.ref a)))) → wS X rest D σ' w'.H) (hi : X.N[i]? = some x := by rfl) (hx : Loc X.env.scope x := by first | exact Or.inl rfl | exact Or.inr rfl)
    (hs : swapsWith (.List es p2) (some (.Name x pos')) pos.line X.env = pure false := by rfl) (hf : X.fn x = true ∨ X.env.scope.names.lookup x = some .local := by first | exact .inl rfl | exact .inr rfl) :
    wS X (.Assign [.Name x pos'] (.List es p2) pos :: rest) D σ w.H :=
  wS_cons (toS1 (ps_set hN hi hx (pe_lst uA) hs hf) (he w (Grow.refl _) _ fun vs w2 g2 hv => ⟨by rw [hv.length]; exact hz, fun a ha => by
    have gl := Grow.lay (w := w2) (o := .lst vs) ha
    have n0 : w.H a = none := g2.h.free ha
    exact k _ (w2.lay a (.lst vs) (w2.gnone ha)) a vs (g2.trans gl) n0 (Own.lay ha) hv ((S.mono g2.g).put (τ := ex (.ref a)) rfl i)⟩))
/-- xs.append(e) of a list that may be changed -/
theorem w_app {o : Expr} {apos cpos : Pos} {l : Addr} {vs : List V} (ho : Ev X σ w o (ex (.ref l))) (ow : Own w l (.lst vs)) (he : Ev X σ w e τ) (hz : vs.length ≤ 1000000)
    (k : ∀ v w1, Grow w w1 → τ.p v w1.G → ∀ ow1 : Own w1 l (.lst vs), wS X rest D σ (w1.lay l (.lst (vs ++ [v])) ow1.free).H)
    (hs : starEach [e] X.env = (false, eval e X.env) :: starEach [] X.env := by rfl) (hbase : attributeBase o "append" X.env (eval o X.env) = eval o X.env := by rfl)
    (hfew : ((backTo cpos (starEach [e] X.env)).all (fun x => !x.1) && (backToKw cpos (keywordEach [] X.env)).all (fun x => x.1.isSome)
      && decide ([e].length + ([] : List Keyword).length + (if ([] : List Keyword).isEmpty then 0 else 1) < 30)) = true := by rfl)
    (hline : (apos.endLine == cpos.line) = true := by rfl) (hsw : swapsWith (.Call (.Attribute o "append" apos) [e] [] cpos) none pos.line X.env = pure false := by rfl) : wS X (.Expr (.Call (.Attribute o "append" apos) [e] [] cpos) pos :: rest) D σ w.H :=
  wS_cons (toS1 (ps_expr (pe_bm PySem.F.plainAttrs_list PySem.F.slot_list_append PySem.F.type_list_append mt_append uE (pa_cons uE pa_nil hs) hbase hfew hline hs rfl) hsw)
    (ho w (Grow.refl _) _ fun u w2 g2 eu => ⟨by
      have eu : u = .ref l := eu
      subst eu
      exact .inl ⟨rfl, _, SqL.of (ow.grow g2).at_⟩, he w2 g2 _ fun v w3 g3 hv => ⟨l, vs, v, eu, rfl, (ow.grow (g2.trans g3)).at_, small_big hz, k v w3 (g2.trans g3) hv (ow.grow (g2.trans g3))⟩⟩))
theorem Own.lst_len {K : PySem.W.Frag} {l : Addr} {vs : List V} {p : Pos} (hm : X.mg "len" = none) (ho : Ev X σ w e (ex (.ref l))) (ow : Own w l (.lst vs)) (hg : Gl X "len" := by rfl) (he : starEach [e] X.env = (false, eval e X.env) :: starEach [] X.env := by rfl) : Dv X σ w (.Call (.Name "len" p) [e] [] pos) (.int (vs.length : Nat)) :=
  bi1 call_len_seq hm boot_len ho (fun v w2 Q g ev k => ⟨l, vs, by rw [show v = .ref l from ev], .inl (SqL.of (ow.grow g).at_), k _ w2 (Grow.refl _) (.int _)⟩) hg (by decide) (by decide) he
/-- xs[i] of a list that may be changed -/
theorem ixO {l : Addr} {vs : List V} {τs : List Ty} {i : Int} (ho : Ev X σ w a (ex (.ref l))) (ow : Own w l (.lst vs)) (ht : Tys τs vs w.G) (hb : Dv X σ w b (.int i)) (hi : atI τs i = some τ) (hs : PlainIx b := by intro _ _; rfl) : Ev X σ w (.Subscript a b pos) τ := fun w1 g Q k =>
  toE (pe_ix ix_list uE uE hs) (ho w1 g _ fun x w2 g2 ex => hb w2 (g.trans g2) _ fun y w3 g3 hy => by
    obtain ⟨v, h3, h4⟩ := atI_tys (ht.mono ((g.trans g2).trans g3).g) hi
    exact ⟨l, vs, i, v, ex, Dp.int_iff hy, SqL.of (ow.grow ((g.trans g2).trans g3)).at_, h3, k v w3 (g2.trans g3) h4⟩)
/-- tuple(reversed(xs)) of a list that may be changed, or not -/
theorem Tys.reverse {τs : List Ty} {vs : List V} {G : Hp} (h : Tys τs vs G) : Tys τs.reverse vs.reverse G := by
  induction h with
  | nil => exact .nil
  | cons a t ih =>
    rw [List.reverse_cons, List.reverse_cons]
    exact ih.append (.cons a .nil)
theorem revO {l : Addr} {vs : List V} {τs : List Ty} {p p2 pos2 : Pos} (hc : X.calm = true) (hm : X.mg "tuple" = none) (hm2 : X.mg "reversed" = none) (ho : Ev X σ w e (ex (.ref l))) (ow : Own w l (.lst vs)) (ht : Tys τs vs w.G) (hg : Gl X "tuple" := by rfl) (hg2 : Gl X "reversed" := by rfl)
    (h1 : starEach [e] X.env = (false, eval e X.env) :: starEach [] X.env := by rfl) (h2 : starEach [Expr.Call (.Name "reversed" p2) [e] [] pos2] X.env = (false, eval (Expr.Call (.Name "reversed" p2) [e] [] pos2) X.env) :: starEach [] X.env := by rfl) :
    Ev X σ w (.Call (.Name "tuple" p) [.Call (.Name "reversed" p2) [e] [] pos2] [] pos) (tupT X.K τs.reverse) := fun w1 g Q k =>
  toE (RT.pe_tupRev hc hg hm hg2 hm2 uE h1 h2) (ho w1 g _ fun v w2 g2 ev => ⟨l, vs, ev, SqL.of (ow.grow (g.trans g2)).at_, fun q hq => k _ (w2.new q _) (g2.trans (Grow.new hq)) ⟨q, _, rfl, SqT.of Wd.new_at, (ht.mono ((g.trans g2).trans (Grow.new hq)).g).reverse⟩⟩)
end
end K27
/-! ## Core6 -/
/-! The calculus, sixth part: dicts whose keys are nested tuples of numbers. -/
namespace K27
open PySem L2 PySem.Spec PyProof.Rows

/-! ### tables -/
section
variable {κ α : Type} [DecidableEq κ]
def gt? (kvs : List (κ × α)) (k : κ) : Option α := (kvs.find? fun p => decide (p.1 = k)).map (·.2)
def ptK (kvs : List (κ × α)) (k : κ) (v : α) : List (κ × α) := if (gt? kvs k).isSome then kvs.map (fun p => if p.1 = k then (p.1, v) else p) else kvs ++ [(k, v)]
theorem gt_nil {k : κ} : gt? ([] : List (κ × α)) k = none := rfl
theorem gt_cons (p : κ × α) (kvs : List (κ × α)) (k : κ) : gt? (p :: kvs) k = if p.1 = k then some p.2 else gt? kvs k := by
  unfold gt?
  rw [List.find?_cons]
  by_cases h : p.1 = k
  · simp [h]
  · simp [h]
theorem ptK_new {kvs : List (κ × α)} {k : κ} {v : α} (h : gt? kvs k = none) : ptK kvs k v = kvs ++ [(k, v)] := by
  unfold ptK
  rw [h]
  rfl
theorem gt_append (a b : List (κ × α)) (k : κ) : gt? (a ++ b) k = (gt? a k).or (gt? b k) := by
  induction a with
  | nil => simp [gt?]
  | cons p a ih =>
    rw [List.cons_append, gt_cons, gt_cons, ih]
    by_cases h : p.1 = k
    · simp [h]
    · simp [h]
theorem gt_map {kvs : List (κ × α)} {k j : κ} {v : α} : gt? (kvs.map fun p => if p.1 = k then (p.1, v) else p) j = if j = k then (gt? kvs j).map fun _ => v else gt? kvs j := by
  induction kvs with
  | nil => simp [gt?]
  | cons p r ih =>
    rw [List.map_cons, gt_cons, gt_cons, ih]
    by_cases h1 : p.1 = k
    · by_cases h2 : j = k
      · subst h2
        simp [h1]
      · have h3 : ¬ p.1 = j := fun q => h2 (q.symm.trans h1)
        have h4 : ¬ k = j := fun q => h2 q.symm
        simp [h1, h2, h3, h4]
    · by_cases h2 : j = k
      · subst h2
        simp [h1]
      · simp [h1, h2]
theorem gt_ptK (kvs : List (κ × α)) (k j : κ) (v : α) : gt? (ptK kvs k v) j = if j = k then some v else gt? kvs j := by
  unfold ptK
  cases h : gt? kvs k with
  | none =>
    show gt? (kvs ++ [(k, v)]) j = _
    rw [gt_append, gt_cons, gt_nil]
    by_cases e : j = k
    · subst e
      simp [h]
    · have e' : ¬ k = j := fun q => e q.symm
      simp [e, e']
  | some u =>
    show gt? (kvs.map _) j = _
    rw [gt_map]
    by_cases e : j = k
    · subst e
      simp [h]
    · simp [e]
theorem gt_some_mem {kvs : List (κ × α)} {k : κ} {v : α} (h : gt? kvs k = some v) : (k, v) ∈ kvs := by
  induction kvs with
  | nil => simp [gt?] at h
  | cons p r ih =>
    rw [gt_cons] at h
    by_cases e : p.1 = k
    · rw [if_pos e] at h
      cases h
      rw [← e]
      exact List.mem_cons_self
    · rw [if_neg e] at h
      exact List.mem_cons_of_mem _ (ih h)
theorem gt_isSome {kvs : List (κ × α)} {k : κ} : (gt? kvs k).isSome = decide (k ∈ kvs.map (·.1)) := by
  induction kvs with
  | nil => simp [gt?]
  | cons p r ih =>
    rw [gt_cons, List.map_cons]
    by_cases e : p.1 = k
    · simp [e]
    · have e' : ¬ k = p.1 := fun q => e q.symm
      rw [if_neg e, ih]
      simp [e']
end

/-! ### a key is data -/
mutual
theorem dp_key {X : Cx} {pins : List (Addr × Obj)} {σ : L2.St} {H : Hp} {s : Shared} (I : Inv X pins σ H s) : ∀ (k : NestedKey) (v : V) (u : Value), Dp X.K H v k.data → RelV v u → NestedIs s.heap k u
  | .none, _, _, h, r => by
    cases h
    cases r
    exact .none
  | .num i, _, _, h, r => by
    cases h
    obtain ⟨t, rfl⟩ := r
    exact .int i t
  | .text x, _, _, h, r => by
    cases h
    obtain ⟨t, rfl⟩ := r
    exact .text x t
  | .tup ks, _, _, h, r => by
    cases h with
    | tup hs ha =>
      cases r
      obtain ⟨its, rv, ⟨o, ho, hc, n, hd⟩, _⟩ := I.tuple hs
      exact .tup ho hc hd (dp_keys I ks _ its ha rv)
theorem dp_keys {X : Cx} {pins : List (Addr × Obj)} {σ : L2.St} {H : Hp} {s : Shared} (I : Inv X pins σ H s) : ∀ (ks : List NestedKey) (vs : List V) (us : List Value), DpAll X.K H vs (NestedKey.datas ks) → Vals vs us → NestedAll s.heap ks us
  | [], _, _, h, r => by
    cases h
    cases r
    exact .nil
  | k :: ks, _, _, h, r => by
    cases h with
    | cons h1 h2 =>
      cases r with
      | cons r1 r2 => exact .cons (dp_key I k _ _ h1 r1) (dp_keys I ks _ _ h2 r2)
end

/-! ### the dict's object -/
abbrev NK := NestedKey
/-- the entries, as they stand -/
abbrev Ents := List (NK × Addr × Value)
def DObj (P : Program) (w : World) (xs : Ents) (d : Addr) : HO := .ext fun h => ∃ o es ep, h.get? d = some o ∧ o.ExactDict ∧ o.data = .dict es ep ∧ es.toList = xs.map (entryOfKey (nestedKind P w)) ∧ (xs.map (·.1)).Nodup
/-- one entry: its key's tuple and its value are data that stand -/
def EntOk (K : PySem.W.Frag) (G : Hp) (p : NK × PyData) (q : NK × Addr × Value) : Prop := p.1 = q.1 ∧ q.1.depth ≤ 8 ∧ Dp K G (.ref q.2.1) q.1.data ∧ ∃ v, RelV v q.2.2 ∧ Dp K G v p.2
/-- a dict that may be changed -/
structure OwnD (P : Program) (W : World) (K : PySem.W.Frag) (w : Wd) (d : Addr) (kvs : List (NK × PyData)) : Prop where
  ex : ∃ xs : Ents, Own w d (DObj P W xs d) ∧ (d == sysModules) = false ∧ Paired (EntOk K w.G) kvs xs
section
variable {P : Program} {W : World} {K : PySem.W.Frag} {w w' : Wd} {d : Addr} {kvs : List (NK × PyData)} {xs : Ents}
theorem ents_mono {G G' : Hp} (e : Same G G') (h : Paired (EntOk K G) kvs xs) : Paired (EntOk K G') kvs xs := Paired.mapP h fun p q ⟨h1, h2, h3, v, h4, h5⟩ => ⟨h1, h2, dp_mono e _ _ h3, v, h4, dp_mono e _ _ h5⟩
theorem OwnD.grow (o : OwnD P W K w d kvs) (g : Grow w w') : OwnD P W K w' d kvs := by
  obtain ⟨xs, h1, h2, h3⟩ := o.ex
  exact ⟨xs, h1.grow g, h2, ents_mono g.g h3⟩
theorem OwnD.at_ (o : OwnD P W K w d kvs) : ∃ u, w.H d = some u ∧ w.G d = none := by
  obtain ⟨xs, h1, _⟩ := o.ex
  exact ⟨_, h1.at_, h1.free⟩
theorem OwnD.other {p : Addr} {u : HO} {n : w.G p = none} (o : OwnD P W K w d kvs) (ne : d ≠ p) : OwnD P W K (w.lay p u n) d kvs := by
  obtain ⟨xs, h1, h2, h3⟩ := o.ex
  exact ⟨xs, h1.other ne, h2, h3⟩
theorem OwnD.frz {b : Addr} {u : HO} {h : w.H b = some u} (o : OwnD P W K w d kvs) (n : w.G b = none) (ne : d ≠ b) : OwnD P W K (w.frz b u h) d kvs := by
  obtain ⟨xs, h1, h2, h3⟩ := o.ex
  exact ⟨xs, h1.frz ne, h2, ents_mono (Wd.frz_same n) h3⟩
theorem ents_get {G : Hp} {k : NK} (h : Paired (EntOk K G) kvs xs) : (∀ v, gt? kvs k = some v → ∃ p u, atKey xs k = some p ∧ RelV u p.2 ∧ Dp K G u v) ∧ (gt? kvs k = none → atKey xs k = none) := by
  induction h with
  | nil => exact ⟨fun v h => by simp [gt?] at h, fun _ => rfl⟩
  | @cons p q l1 l2 hpq t ih =>
    obtain ⟨h1, h2, h3, u, h4, h5⟩ := hpq
    have e : atKey (q :: l2) k = if q.1 = k then some q.2 else atKey l2 k := by
      unfold atKey
      rw [List.find?_cons]
      by_cases z : q.1 = k
      · simp [z]
      · simp [z]
    rw [gt_cons, e, h1]
    by_cases z : q.1 = k
    · rw [if_pos z, if_pos z]
      exact ⟨fun v hv => by cases hv; exact ⟨q.2, u, rfl, h4, h5⟩, fun hv => by cases hv⟩
    · rw [if_neg z, if_neg z]
      exact ih
theorem ents_isSome {G : Hp} {k : NK} (h : Paired (EntOk K G) kvs xs) : (atKey xs k).isSome = (gt? kvs k).isSome := by
  cases q : gt? kvs k with
  | none =>
    rw [(ents_get h).2 q]
    rfl
  | some v =>
    obtain ⟨p, u, e, _⟩ := (ents_get h).1 v q
    rw [e]
    rfl
theorem ents_append {G : Hp} {l1 l2 : List (NK × PyData)} {y1 y2 : Ents} (a : Paired (EntOk K G) l1 y1) (b : Paired (EntOk K G) l2 y2) : Paired (EntOk K G) (l1 ++ l2) (y1 ++ y2) := by
  induction a with
  | nil => exact b
  | cons h t ih => exact .cons h ih
theorem ents_put {G : Hp} {k : NK} {a : Addr} {v : V} {u : Value} {dv : PyData} (h : Paired (EntOk K G) kvs xs) (hk : k.depth ≤ 8) (ha : Dp K G (.ref a) k.data) (rv : RelV v u) (hv : Dp K G v dv) : Paired (EntOk K G) (ptK kvs k dv) (storedH xs k a u) := by
  have hs := ents_isSome (k := k) h
  unfold ptK
  cases q : gt? kvs k with
  | none =>
    rw [q] at hs
    have e : atKey xs k = none := (ents_get h).2 q
    rw [storedH_new e]
    exact ents_append h (.cons ⟨rfl, hk, ha, v, rv, hv⟩ .nil)
  | some z =>
    obtain ⟨p, _, e, _⟩ := (ents_get h).1 z q
    rw [storedH_old e]
    show Paired _ (kvs.map _) _
    clear q hs e
    induction h with
    | nil => exact .nil
    | @cons p q l1 l2 hpq t ih =>
      obtain ⟨h1, h2, h3, u', h4, h5⟩ := hpq
      refine .cons ?_ ih
      show EntOk K G (if p.1 = k then (p.1, dv) else p) (if q.1 = k then (q.1, q.2.1, u) else q)
      by_cases z : q.1 = k
      · have z' : p.1 = k := h1.trans z
        rw [if_pos z, if_pos z']
        exact ⟨h1, h2, h3, v, rv, hv⟩
      · have z' : ¬ p.1 = k := fun e => z (h1.symm.trans e)
        rw [if_neg z, if_neg z']
        exact ⟨h1, h2, h3, u', h4, h5⟩
end
theorem dobj_new {P : Program} {W : World} {h : Heap} {d : Addr} {xs : Ents} (hd : ∃ o es ep, h.get? d = some o ∧ o.ExactDict ∧ o.data = .dict es ep ∧ es.toList = xs.map (entryOfKey (nestedKind P W)) ∧ (xs.map (·.1)).Nodup) {H : Hp} : ObjOk P W H h d (DObj P W xs d) := by
  obtain ⟨o, es, ep, h1, h2, h3, h4, h5⟩ := hd
  exact ⟨⟨o, es, ep, h1, h2, h3, h4, h5⟩, ⟨o, h1⟩, fun h1 h2 ⟨o, es, ep, a, b, c, d, e⟩ st => ⟨o, es, ep, st _ a, b, c, d, e⟩⟩
section
variable {X : Cx} {pins : List (Addr × Obj)} {σ : L2.St} {w : Wd} {s : Shared} {d a : Addr} {kvs : List (NK × PyData)} {xs : Ents} {k : NK} {A : Around} {E : Value → Shared → Prop}
theorem dict_of (I : Inv X pins σ w.H s) (o : Own w d (DObj X.prog X.w xs d)) (h : Paired (EntOk X.K w.G) kvs xs) : s.heap.DictOfH (nestedKind X.prog X.w) d xs := by
  obtain ⟨⟨ob, es, ep, h1, h2, h3, h4, h5⟩, hh, hh2⟩ := I.hok d _ o.at_
  refine ⟨ob, es, ep, h1, h2, h3, h4, ?_, h5⟩
  clear hh2 hh h4 h5 o
  induction h with
  | nil => intro x hx; cases hx
  | cons hpq t ih =>
    intro x hx
    rcases List.mem_cons.mp hx with e | hx
    · subst e
      obtain ⟨_, g2, g3, _⟩ := hpq
      exact ⟨dp_key I _ _ _ (dp_mono w.sub _ _ g3) rfl, g2⟩
    · exact ih x hx
theorem key_is (I : Inv X pins σ w.H s) (hk : k.depth ≤ 8) (h : Dp X.K w.G (.ref a) k.data) : (nestedKind X.prog X.w).is s.heap k a := ⟨dp_key I k _ _ (dp_mono w.sub _ _ h) rfl, hk⟩
end
/-- a key that is a tuple stands at an address -/
theorem key_ref {K : PySem.W.Frag} {G : Hp} {v : V} {ks : List NK} (h : Dp K G v (NestedKey.data (.tup ks))) : ∃ a, v = .ref a := by
  cases h with
  | tup hs _ => exact ⟨_, rfl⟩

section
variable {X : Cx} {e a b : Expr} {es : List Expr} {σ : L2.St} {w w' : Wd} {τ τ' : Ty} {pos : Pos} {ds : List (Option Ty)} {rest : List Stmt} {D : Ends} {d : Addr} {kvs : List (NK × PyData)} {ks : List NK} {dv : PyData}
/-! ### look-ups -/
theorem room8 (hu : X.A.units + 64 < cLine) : (nestedKind X.prog X.w).room X.A.in1 := by
  show X.A.units + 1 + 8 < cLine
  omega
theorem dget (hu : X.A.units + 64 < cLine) (ho : Ev X σ w a (ex (.ref d))) (ow : OwnD X.prog X.w X.K w d kvs) (hk : Dv X σ w b (NestedKey.data (.tup ks))) (hdp : (NestedKey.tup ks).depth ≤ 8) (hg : gt? kvs (.tup ks) = some dv) (hs : NoSl b := by intro _ _; rfl) : Dv X σ w (.Subscript a b pos) dv := fun w1 g Q k => by
  intro pins s I
  refine subD_of PySem.F.slot_dict_getitem.lookup hs (thn (ho w1 g (fun v H' => ∃ w2, w2.H = H' ∧ Grow w1 w2 ∧ v = .ref d) (fun v w2 g2 hv => ⟨w2, rfl, g2, hv⟩) pins s I) fun u s1 ⟨v, H1, I1, r1, w2, eH, g2, ev⟩ => ?_)
  subst eH ev
  obtain rfl : u = Value.ref d := r1
  refine thn (hk w2 (g.trans g2) (fun v H' => ∃ w3, w3.H = H' ∧ Grow w2 w3 ∧ Dp X.K w3.G v (NestedKey.data (.tup ks))) (fun v w3 g3 hv => ⟨w3, rfl, g3, hv⟩) pins s1 I1) fun u2 s2 ⟨v2, H2, I2, r2, w3, eH2, g3, hv2⟩ => ?_
  subst eH2
  obtain ⟨xs, h1, h2, h3⟩ := (ow.grow ((g.trans g2).trans g3)).ex
  obtain ⟨ka, eka⟩ := key_ref hv2
  subst eka
  obtain rfl : u2 = Value.ref ka := r2
  have dd := dict_of I2 h1 h3
  obtain ⟨p, u, e1, e2, e3⟩ := (ents_get h3).1 dv hg
  exact ⟨dd.typeIs, wpAny_getItem_heap (room8 hu) (key_is I2 hdp hv2) dd e1 ⟨u, w3.H, I2.tok _, e2, k u w3 (g2.trans g3) e3⟩⟩
theorem din_core {A : Around} {E : Value → Shared → Prop} {Q : Value → Shared → Prop} {pins : List (Addr × Obj)} {s : Shared} {ka : Addr} (neg : Bool) (hu : A.units + 64 < cLine) (I : Inv X pins σ w.H s) (ow : OwnD X.prog X.w X.K w d kvs) (hk : Dp X.K w.G (.ref ka) (NestedKey.data (.tup ks))) (hdp : (NestedKey.tup ks).depth ≤ 8)
    (q : ∀ s', Inv X pins σ w.H s' → Q (.bool (neg != (gt? kvs (.tup ks)).isSome)) s') : wpAny (model X.prog X.w) A (compareOp (if neg then .NotIn else .In) (.ref ka) (.ref d)) Q E s := by
  obtain ⟨xs, h1, h2, h3⟩ := ow.ex
  have dd := dict_of I h1 h3
  have r8 : (nestedKind X.prog X.w).room A.in1 := by
    show A.units + 1 + 8 < cLine
    omega
  have e : (valueAt (pairsH xs) (NestedKey.tup ks)).isSome = (gt? kvs (.tup ks)).isSome := by
    rw [valueAt_pairsH, Option.isSome_map]
    exact ents_isSome h3
  cases neg with
  | false =>
    refine in_keyed r8 (key_is I hdp hk) h2 ⟨xs, dd, rfl⟩ ?_
    rw [e]
    have := q _ (I.tok (s.toks + (nestedKind X.prog X.w).draws (.tup ks)))
    simpa using this
  | true =>
    refine notIn_keyed r8 (key_is I hdp hk) h2 ⟨xs, dd, rfl⟩ ?_
    rw [e]
    have := q _ (I.tok (s.toks + (nestedKind X.prog X.w).draws (.tup ks)))
    simpa using this
/-- k in d, k not in d: the two operands, then the look -/
theorem din_run (neg : Bool) (hu : X.A.units + 64 < cLine) (ha : Dv X σ w a (NestedKey.data (.tup ks))) (hdp : (NestedKey.tup ks).depth ≤ 8) (ho : Ev X σ w b (ex (.ref d))) (ow : OwnD X.prog X.w X.K w d kvs) {w1 : Wd} (g : Grow w w1) {Q : VK} (k : ∀ w2, Grow w1 w2 → Q (.bl (neg != (gt? kvs (.tup ks)).isSome)) w2.H)
    (pins : List (Addr × Obj)) (s : Shared) (I : Inv X pins σ w1.H s) :
    wpAny (model X.prog X.w) X.A (eval a X.env) (fun v s₁ => wpAny (model X.prog X.w) X.A (eval b X.env) (fun u s₂ => wpAny (model X.prog X.w) X.A (compareOp (if neg then .NotIn else .In) v u) (EP X pins σ Q) X.xe s₂) X.xe s₁) X.xe s := by
  refine thn (ha w1 g (fun v H' => ∃ w2, w2.H = H' ∧ Grow w1 w2 ∧ Dp X.K w2.G v (NestedKey.data (.tup ks))) (fun v w2 g2 hv => ⟨w2, rfl, g2, hv⟩) pins s I) fun u1 s1 ⟨v, H1, I1, r1, w2, eH, g2, hv⟩ => ?_
  subst eH
  refine thn (ho w2 (g.trans g2) (fun v H' => ∃ w3, w3.H = H' ∧ Grow w2 w3 ∧ v = .ref d) (fun v w3 g3 hv => ⟨w3, rfl, g3, hv⟩) pins s1 I1) fun u2 s2 ⟨v2, H2, I2, r2, w3, eH2, g3, ev⟩ => ?_
  subst eH2 ev
  obtain rfl : u2 = Value.ref d := r2
  obtain ⟨ka, eka⟩ := key_ref hv
  subst eka
  obtain rfl : u1 = Value.ref ka := r1
  exact din_core neg hu I2 (ow.grow ((g.trans g2).trans g3)) (dp_mono g3.g _ _ hv) hdp fun s' I' => ⟨.bl _, w3.H, I', rfl, k w3 (g2.trans g3)⟩
theorem t_din (hu : X.A.units + 64 < cLine) (ha : Dv X σ w a (NestedKey.data (.tup ks))) (hdp : (NestedKey.tup ks).depth ≤ 8) (ho : Ev X σ w b (ex (.ref d))) (ow : OwnD X.prog X.w X.K w d kvs) (hm : behindInMarks .In b = false := by rfl) : Tv X σ w (.Compare a [.In] [b] pos) (gt? kvs (.tup ks)).isSome := fun w1 g Q k => by
  have pc : PC X .In a b (fun σ' H Q' => ∀ pins s, Inv X pins σ' H s → wpAny (model X.prog X.w) X.A (eval a X.env) (fun v s₁ => wpAny (model X.prog X.w) X.A (eval b X.env) (fun u s₂ => wpAny (model X.prog X.w) X.A (compareOp .In v u) (EP X pins σ' Q') X.xe s₂) X.xe s₁) X.xe s) := ⟨fun pins s σ' H Q' I h => h pins s I⟩
  refine toT (pt_cmp pc hm) fun pins s I => ?_
  refine din_run (ks := ks) (kvs := kvs) false hu ha hdp ho ow g (fun w2 g2 => ⟨_, rfl, ?_⟩) pins s I
  have := k w2 g2
  simpa using this
theorem t_dnotin (hu : X.A.units + 64 < cLine) (ha : Dv X σ w a (NestedKey.data (.tup ks))) (hdp : (NestedKey.tup ks).depth ≤ 8) (ho : Ev X σ w b (ex (.ref d))) (ow : OwnD X.prog X.w X.K w d kvs) (hm : behindInMarks .NotIn b = false := by rfl) : Tv X σ w (.Compare a [.NotIn] [b] pos) (!(gt? kvs (.tup ks)).isSome) := fun w1 g Q k => by
  have pc : PC X .NotIn a b (fun σ' H Q' => ∀ pins s, Inv X pins σ' H s → wpAny (model X.prog X.w) X.A (eval a X.env) (fun v s₁ => wpAny (model X.prog X.w) X.A (eval b X.env) (fun u s₂ => wpAny (model X.prog X.w) X.A (compareOp .NotIn v u) (EP X pins σ' Q') X.xe s₂) X.xe s₁) X.xe s) := ⟨fun pins s σ' H Q' I h => h pins s I⟩
  refine toT (pt_cmp pc hm) fun pins s I => ?_
  refine din_run (ks := ks) (kvs := kvs) true hu ha hdp ho ow g (fun w2 g2 => ⟨_, rfl, ?_⟩) pins s I
  have := k w2 g2
  simpa using this

/-! ### a new dict, stores -/
theorem dnew_obj {P : Program} {W : World} {h : Heap} {H : Hp} : ObjOk P W H (h.push { cls := .type "dict", data := .dict #[] }) h.objs.size (DObj P W [] h.objs.size) := dobj_new (xs := []) ⟨_, #[], 0, Heap.get?_push_size _ rfl, ⟨rfl, rfl, rfl⟩, rfl, rfl, List.nodup_nil⟩
def tDNew (X : Cx) : TE := fun _ H Q => ∀ p, H p = none → (p == sysModules) = false → Q (.ref p) (upd H p (DObj X.prog X.w [] p))
theorem pe_dnew : PE X (.Dict [] [] pos) (tDNew X) := ⟨fun pins s σ H Q I h =>
  wpAny_Dict_empty ⟨.ref s.heap.objs.size, _, I.laid (a := s.heap.objs.size) (o := DObj X.prog X.w [] s.heap.objs.size) (t' := s.toks) (fun _ _ q => Heap.get?_push_of_some _ q) (Nat.le_refl _) dnew_obj, rfl, h _ (I.hok.fresh (Nat.le_refl _)) (beq_eq_false_iff_ne.mpr (Ne.symm (Nat.ne_of_lt I.big)))⟩⟩
theorem w_newdict (i : Nat) {x : Str} {p2 pos' : Pos} (hN : X.N.Nodup) (S : Sl w.G σ ds)
    (k : ∀ σ' w' a, Grow w w' → w.H a = none → OwnD X.prog X.w X.K w' a [] → Sl w'.G σ' (ds.set i (some (ex (.ref a)))) → wS X rest D σ' w'.H) (hi : X.N[i]? = some x := by rfl) (hx : Loc X.env.scope x := by first | exact Or.inl rfl | exact Or.inr rfl)
    (hs : swapsWith (.Dict [] [] p2) (some (.Name x pos')) pos.line X.env = pure false := by rfl) (hf : X.fn x = true ∨ X.env.scope.names.lookup x = some .local := by first | exact .inl rfl | exact .inr rfl) :
    wS X (.Assign [.Name x pos'] (.Dict [] [] p2) pos :: rest) D σ w.H :=
  wS_cons (toS1 (ps_set hN hi hx pe_dnew hs hf) (fun a ha hsys => by
    have gl := Grow.lay (w := w) (o := DObj X.prog X.w [] a) ha
    exact k _ (w.lay a _ (w.gnone ha)) a gl ha ⟨[], Own.lay ha, hsys, .nil⟩ ((S.mono gl.g).put (τ := ex (.ref a)) rfl i)))
/-- the heap behind d[k] = v -/
theorem dput_core {A : Around} {E : Value → Shared → Prop} {Q : Unit → Shared → Prop} {pins : List (Addr × Obj)} {s : Shared} {ka : Addr} {v : V} {u : Value} (hu : A.units + 64 < cLine) (I : Inv X pins σ w.H s) (ow : OwnD X.prog X.w X.K w d kvs) (hk : Dp X.K w.G (.ref ka) (NestedKey.data (.tup ks))) (hdp : (NestedKey.tup ks).depth ≤ 8)
    (rv : RelV v u) (hv : Dp X.K w.G v dv) (hz : kvs.length ≤ 1000000) (q : ∀ (o : HO) (n : w.G d = none) s', OwnD X.prog X.w X.K (w.lay d o n) d (ptK kvs (.tup ks) dv) → Inv X pins σ (w.lay d o n).H s' → Q () s') : wpAny (model X.prog X.w) A (setItem (.ref d) (.ref ka) u) Q E s := by
  obtain ⟨xs, h1, h2, h3⟩ := ow.ex
  have dd := dict_of I h1 h3
  have r8 : (nestedKind X.prog X.w).room A.in1 := by
    show A.units + 1 + 8 < cLine
    omega
  refine wpAny_setItem_heap (hsz := by rw [← Paired.length h3]; exact Nat.le_of_lt (small_big hz)) r8 (key_is I hdp hk) dd fun h' dd' hs => ?_
  obtain ⟨o, es, ep, g1, g2, g3, g4, g5, g6⟩ := dd'
  refine q (DObj X.prog X.w (storedH xs (.tup ks) ka u) d) h1.free _ ⟨_, Own.self, h2, ents_put h3 hdp hk rv hv⟩ ?_
  exact d_write I (by rw [h1.at_]; exact True.intro) hs ⟨o, g1⟩ (dobj_new ⟨o, es, ep, g1, g2, g3, g4, g6⟩)
/-- d[k] = v -/
theorem w_dput {value : Expr} {pos' : Pos} (hu : X.A.units + 64 < cLine) (hv : Dv X σ w value dv) (ho : Ev X σ w a (ex (.ref d))) (hk : Dv X σ w b (NestedKey.data (.tup ks))) (hdp : (NestedKey.tup ks).depth ≤ 8) (ow : OwnD X.prog X.w X.K w d kvs) (hz : kvs.length ≤ 1000000)
    (k : ∀ w1, Grow w w1 → ∀ (o : HO) (n : w1.G d = none), OwnD X.prog X.w X.K (w1.lay d o n) d (ptK kvs (.tup ks) dv) → wS X rest D σ (w1.lay d o n).H) (hs : swapsWith value (some (.Subscript a b pos')) pos.line X.env = pure false := by rfl) :
    wS X (.Assign [.Subscript a b pos'] value pos :: rest) D σ w.H :=
  wS_cons (fun pins s I => by
    refine wpAny_Assign_Subscript (thn (hv w (Grow.refl _) (fun v H' => ∃ w2, w2.H = H' ∧ Grow w w2 ∧ Dp X.K w2.G v dv) (fun v w2 g2 hv => ⟨w2, rfl, g2, hv⟩) pins s I) fun r s1 ⟨v, H1, I1, rv, w1, eH, g1, hdv⟩ => ?_) hs
    subst eH
    refine thn (ho w1 g1 (fun v H' => ∃ w3, w3.H = H' ∧ Grow w1 w3 ∧ v = .ref d) (fun v w3 g3 hv => ⟨w3, rfl, g3, hv⟩) pins s1 I1) fun u2 s2 ⟨v2, H2, I2, r2, w2, eH2, g2, ev⟩ => ?_
    subst eH2 ev
    obtain rfl : u2 = Value.ref d := r2
    refine thn (hk w2 (g1.trans g2) (fun v H' => ∃ w3, w3.H = H' ∧ Grow w2 w3 ∧ Dp X.K w3.G v (NestedKey.data (.tup ks))) (fun v w3 g3 hv => ⟨w3, rfl, g3, hv⟩) pins s2 I2) fun u3 s3 ⟨v3, H3, I3, r3, w3, eH3, g3, hk3⟩ => ?_
    subst eH3
    obtain ⟨ka, eka⟩ := key_ref hk3
    subst eka
    obtain rfl : u3 = Value.ref ka := r3
    have G := (g1.trans g2).trans g3
    exact dput_core hu I3 (ow.grow G) hk3 hdp rv (dp_mono (g2.g.trans g3.g) _ _ hdv) hz fun o n s' ow' I' => ⟨σ, _, I', k w3 G o n ow'⟩)
/-- d.setdefault(k, v), its value dropped -/
theorem w_setdef {value : Expr} {apos cpos : Pos} (hu : X.A.units + 64 < cLine) (ho : Ev X σ w a (ex (.ref d))) (hk : Dv X σ w b (NestedKey.data (.tup ks))) (hdp : (NestedKey.tup ks).depth ≤ 8) (hv : Dv X σ w value dv) (ow : OwnD X.prog X.w X.K w d kvs) (hz : kvs.length ≤ 1000000)
    (k1 : (gt? kvs (.tup ks)).isSome = true → ∀ w1, Grow w w1 → wS X rest D σ w1.H)
    (k2 : gt? kvs (.tup ks) = none → ∀ w1, Grow w w1 → ∀ (o : HO) (n : w1.G d = none), OwnD X.prog X.w X.K (w1.lay d o n) d (kvs ++ [(.tup ks, dv)]) → wS X rest D σ (w1.lay d o n).H)
    (m : M2 X a "setdefault" apos b value cpos := by exact ⟨rfl, rfl, rfl, rfl⟩) (hs : swapsWith (.Call (.Attribute a "setdefault" apos) [b, value] [] cpos) none pos.line X.env = pure false := by rfl) :
    wS X (.Expr (.Call (.Attribute a "setdefault" apos) [b, value] [] cpos) pos :: rest) D σ w.H := by
  refine wS_cons (toS1 (ps_expr (te := fun σ' H Q => ∀ pins s, Inv X pins σ' H s → wpAny (model X.prog X.w) X.A (eval (.Call (.Attribute a "setdefault" apos) [b, value] [] cpos) X.env) (EP X pins σ' Q) X.xe s) ⟨fun pins s σ' H Q I h => h pins s I⟩ hs) fun pins s I => ?_)
  refine wpAny_Call_method m.base m.few m.line PySem.F.plainAttrs_dict PySem.F.slot_dict_setdefault PySem.F.type_dict_setdefault (thn (ho w (Grow.refl _) (fun v H' => ∃ w3, w3.H = H' ∧ Grow w w3 ∧ v = .ref d) (fun v w3 g3 hv => ⟨w3, rfl, g3, hv⟩) pins s I) fun u1 s1 ⟨v1, H1, I1, r1, w1, eH, g1, ev⟩ => ?_)
  subst eH ev
  obtain rfl : u1 = Value.ref d := r1
  obtain ⟨xs1, h11, _, _⟩ := (ow.grow g1).ex
  obtain ⟨⟨ob, es, ep, o1, o2, o3, o4, o5⟩, _, _⟩ := I1.hok d _ h11.at_
  refine ⟨⟨ob, o1, o2.1⟩, fun c q => ?_, ?_⟩
  · cases q
    exact ⟨ob, o1, o2.2.1⟩
  rw [m.trees]
  refine Calls.callWith_builtin rfl (Calls.evalArgs_plain (Calls.spliced_cons (thn (hk w1 g1 (fun v H' => ∃ w3, w3.H = H' ∧ Grow w1 w3 ∧ Dp X.K w3.G v (NestedKey.data (.tup ks))) (fun v w3 g3 hv => ⟨w3, rfl, g3, hv⟩) pins s1 I1) fun u2 s2 ⟨v2, H2, I2, r2, w2, eH2, g2, hk2⟩ => ?_)))
  subst eH2
  obtain ⟨ka, eka⟩ := key_ref hk2
  subst eka
  obtain rfl : u2 = Value.ref ka := r2
  refine Calls.spliced_cons (thn (hv w2 (g1.trans g2) (fun v H' => ∃ w3, w3.H = H' ∧ Grow w2 w3 ∧ Dp X.K w3.G v dv) (fun v w3 g3 hv => ⟨w3, rfl, g3, hv⟩) pins s2 I2) fun u3 s3 ⟨v3, H3, I3, r3, w3, eH3, g3, hv3⟩ => Calls.spliced_nil ?_)
  subst eH3
  have G := (g1.trans g2).trans g3
  have hk3 := dp_mono g3.g _ _ hk2
  obtain ⟨xs, h1, h2, h3⟩ := (ow.grow G).ex
  have dd := dict_of I3 h1 h3
  refine call_setdefault_heap (knd := nestedKind X.prog X.w) (hsz := by rw [← Paired.length h3]; exact Nat.le_of_lt (small_big hz)) (room8 hu) (key_is I3 hdp hk3) h2 dd (fun p hp => ?_) fun hn h' dd' hs => ?_
  · have es := ents_isSome (k := .tup ks) h3
    rw [hp] at es
    have es : true = (gt? kvs (.tup ks)).isSome := es
    cases q : gt? kvs (.tup ks) with
    | none =>
      rw [q] at es
      cases es
    | some z =>
      obtain ⟨p', u, e1, e2, e3⟩ := (ents_get h3).1 z q
      rw [hp] at e1
      cases e1
      exact ⟨u, w3.H, I3.tok _, e2, k1 (by rw [q]; rfl) w3 G⟩
  · have es := ents_isSome (k := .tup ks) h3
    rw [hn] at es
    have q : gt? kvs (.tup ks) = none := by
      cases q : gt? kvs (.tup ks) with
      | none => rfl
      | some z =>
        rw [q] at es
        cases es
    obtain ⟨o, es', ep', e1, e2, e3, e4, e5, e6⟩ := dd'
    have fin := k2 q w3 G (DObj X.prog X.w (storedH xs (.tup ks) ka u3) d) h1.free ⟨_, Own.self, h2, by
      have := ents_put h3 hdp hk3 r3 hv3
      rw [ptK_new q] at this
      exact this⟩
    exact ⟨v3, _, d_write I3 (by rw [h1.at_]; exact True.intro) hs ⟨o, e1⟩ (dobj_new ⟨o, es', ep', e1, e2, e3, e4, e6⟩), r3, fin⟩
/-- {k: v} -/
theorem w_disp1 (i : Nat) {x : Str} {kx vx : Expr} {p2 pos' : Pos} (hN : X.N.Nodup) (S : Sl w.G σ ds) (hu : X.A.units + 64 < cLine) (hk : Dv X σ w kx (NestedKey.data (.tup ks))) (hdp : (NestedKey.tup ks).depth ≤ 8) (hv : Dv X σ w vx dv)
    (k : ∀ σ' w' a, Grow w w' → w.H a = none → OwnD X.prog X.w X.K w' a [(.tup ks, dv)] → Sl w'.G σ' (ds.set i (some (ex (.ref a)))) → wS X rest D σ' w'.H) (hi : X.N[i]? = some x := by rfl) (hx : Loc X.env.scope x := by first | exact Or.inl rfl | exact Or.inr rfl)
    (hsh : (evalEachOpt [some kx] X.env).zip ((evalEach [vx] X.env).map fun v => do let x ← v; standAt p2; pure x) = [(some (eval kx X.env), do let x ← eval vx X.env; standAt p2; pure x)] := by rfl)
    (hs : swapsWith (.Dict [some kx] [vx] p2) (some (.Name x pos')) pos.line X.env = pure false := by rfl) (hf : X.fn x = true ∨ X.env.scope.names.lookup x = some .local := by first | exact .inl rfl | exact .inr rfl) :
    wS X (.Assign [.Name x pos'] (.Dict [some kx] [vx] p2) pos :: rest) D σ w.H := by
  refine wS_cons (toS1 (ps_set (te := fun σ' H Q => ∀ pins s, Inv X pins σ' H s → wpAny (model X.prog X.w) X.A (eval (.Dict [some kx] [vx] p2) X.env) (EP X pins σ' Q) X.xe s) hN hi hx ⟨fun pins s σ' H Q I h => h pins s I⟩ hs hf) fun pins s I => ?_)
  rw [arm_eval_Dict, hsh]
  have dp := dictDisplay_pairs [(eval kx X.env, do let x ← eval vx X.env; standAt p2; pure x)] (by simp) (by simp)
  rw [show ([(some (eval kx X.env), do let x ← eval vx X.env; standAt p2; pure x)] : List (Option (Sem Value) × Sem Value)) = [(eval kx X.env, do let x ← eval vx X.env; standAt p2; pure x)].map (fun p => (some p.1, p.2)) from rfl, dp]
  have hn : w.H s.heap.objs.size = none := I.hok.fresh (Nat.le_refl _)
  have gl := Grow.lay (w := w) (o := DObj X.prog X.w [] s.heap.objs.size) hn
  have I1 : Inv X pins σ (w.lay s.heap.objs.size (DObj X.prog X.w [] s.heap.objs.size) (w.gnone hn)).H { s with heap := s.heap.push { cls := .type "dict", data := .dict #[] } } :=
    I.laid (a := s.heap.objs.size) (o := DObj X.prog X.w [] s.heap.objs.size) (t' := s.toks) (fun _ _ q => Heap.get?_push_of_some _ q) (Nat.le_refl _) dnew_obj
  have hsys : (s.heap.objs.size == sysModules) = false := beq_eq_false_iff_ne.mpr (Ne.symm (Nat.ne_of_lt I.big))
  have ow0 : OwnD X.prog X.w X.K (w.lay s.heap.objs.size (DObj X.prog X.w [] s.heap.objs.size) (w.gnone hn)) s.heap.objs.size [] := ⟨[], Own.lay hn, hsys, .nil⟩
  refine wpAny_bind (wpAny_standAt (wpAny_bind (wpAny_subDictH (knd := nestedKind X.prog X.w) (by show X.A.units + 8 < cLine; omega) (by simp) ?_)))
  rw [show evalPairs [(eval kx X.env, do let x ← eval vx X.env; standAt p2; pure x)] = evalPairs (pairTrees [some kx] [vx] X.env p2) from rfl]
  refine pairTrees_cons_walk (thn (hk _ gl (fun v H' => ∃ w3, w3.H = H' ∧ Grow (w.lay s.heap.objs.size (DObj X.prog X.w [] s.heap.objs.size) (w.gnone hn)) w3 ∧ Dp X.K w3.G v (NestedKey.data (.tup ks))) (fun v w3 g3 hv => ⟨w3, rfl, g3, hv⟩) pins _ I1) fun u2 s2 ⟨v2, H2, I2, r2, w2, eH2, g2, hk2⟩ => ?_)
  subst eH2
  obtain ⟨ka, eka⟩ := key_ref hk2
  subst eka
  obtain rfl : u2 = Value.ref ka := r2
  refine thn (hv w2 (gl.trans g2) (fun v H' => ∃ w3, w3.H = H' ∧ Grow w2 w3 ∧ Dp X.K w3.G v dv) (fun v w3 g3 hv => ⟨w3, rfl, g3, hv⟩) pins s2 I2) fun u3 s3 ⟨v3, H3, I3, r3, w3, eH3, g3, hv3⟩ => ?_
  subst eH3
  obtain ⟨xs, h1, h2, h3⟩ := (ow0.grow (g2.trans g3)).ex
  cases h3
  have hk3 := dp_mono g3.g _ _ hk2
  refine pairTrees_nil_walk ⟨[(.tup ks, ka, u3)], ⟨rfl, rfl, key_is I3 hdp hk3, True.intro⟩, dict_of I3 h1 .nil, fun h' tk dd' hs' => wpAny_pure ?_⟩
  obtain ⟨o, es', ep', e1, e2, e3, e4, e5, e6⟩ := dd'
  have ow3 : OwnD X.prog X.w X.K (w3.lay s.heap.objs.size (DObj X.prog X.w (storedAllH [] [(.tup ks, ka, u3)]) s.heap.objs.size) h1.free) s.heap.objs.size [(.tup ks, dv)] := ⟨_, Own.self, hsys, .cons ⟨rfl, hdp, hk3, v3, r3, hv3⟩ .nil⟩
  refine ⟨.ref s.heap.objs.size, _, d_write I3 (by rw [h1.at_]; exact True.intro) hs' ⟨o, e1⟩ (dobj_new ⟨o, es', ep', e1, e2, e3, e4, e6⟩), rfl, ?_⟩
  have G : Grow w (w3.lay s.heap.objs.size (DObj X.prog X.w (storedAllH [] [(.tup ks, ka, u3)]) s.heap.objs.size) h1.free) := ((gl.trans g2).trans g3).change hn
  exact k _ _ _ G hn ow3 ((S.mono G.g).put (τ := ex (.ref s.heap.objs.size)) rfl i)
end
end K27
/-! ## Core7 -/
/-! The calculus, seventh part: chains of comparisons, fields stored, instances made, list(d) of such dicts. -/
namespace K27
open PySem L2 PySem.Spec PyProof.Rows
theorem ents_tys {K : PySem.W.Frag} {G : Hp} {kvs : List (NK × PyData)} {xs : Ents} (h : Paired (EntOk K G) kvs xs) : Tys (kvs.map fun q => dat K q.1.data) ((xs.map fun x => x.2.1).map V.ref) G := by
  induction h with
  | nil => exact .nil
  | cons hpq t ih =>
    obtain ⟨g1, g2, g3, _⟩ := hpq
    refine .cons ?_ ih
    show Dp K G _ _
    rw [g1]
    exact g3
section
variable {X : Cx} {e a b c : Expr} {es : List Expr} {σ : L2.St} {w w' : Wd} {τ τ' : Ty} {pos : Pos} {ds : List (Option Ty)} {rest : List Stmt} {D : Ends}
/-- a <= b <= c -/
theorem t_chain {i j k : Int} (ha : Dv X σ w a (.int i)) (hb : Dv X σ w b (.int j)) (hc : Dv X σ w c (.int k)) (hm : lastMarks [.LtE, .LtE] [b, c] = false := by with_unfolding_all rfl) : Tv X σ w (.Compare a [.LtE, .LtE] [b, c] pos) (decide (i ≤ j) && decide (j ≤ k)) := fun w1 g Q q =>
  toT (pt_chain op_le op_le uE uE uE hm) (ha w1 g _ fun x w2 g2 hx => hb w2 (g.trans g2) _ fun y w3 g3 hy => by
    refine ⟨i, j, Dp.int_iff hx, Dp.int_iff hy, decide (i ≤ j), rfl, ?_⟩
    by_cases h : i ≤ j
    · rw [decide_eq_true h]
      refine iteT (hc w3 ((g.trans g2).trans g3) _ fun z w4 g4 hz => ⟨j, k, Dp.int_iff hy, Dp.int_iff hz, decide (j ≤ k), rfl, ?_⟩)
      have := q w4 ((g2.trans g3).trans g4)
      rw [decide_eq_true h, Bool.true_and] at this
      exact this
    · rw [decide_eq_false h]
      refine iteF ⟨false, rfl, ?_⟩
      have := q w3 (g2.trans g3)
      rw [decide_eq_false h, Bool.false_and] at this
      exact this)
/-! ### fields of an instance that is being made -/
/-- the fields' kinds -/
def Fds (gs : List (Str × V)) (fs : List (Str × Ty)) (G : Hp) : Prop := Paired (fun (p : Str × V) (q : Str × Ty) => p.1 = q.1 ∧ q.2.p p.2 G) gs fs
theorem Fds.mono {gs : List (Str × V)} {fs : List (Str × Ty)} {G G' : Hp} (e : Same G G') (h : Fds gs fs G) : Fds gs fs G' := Paired.mapP h fun p q z => ⟨z.1, q.2.m e z.2⟩
theorem Fds.len {gs : List (Str × V)} {fs : List (Str × Ty)} {G : Hp} (h : Fds gs fs G) : gs.length = fs.length := Paired.length h
theorem putF_new : ∀ {gs : List (Str × V)} {fs : List (Str × Ty)} {G : Hp} {f : Str} {v : V}, Fds gs fs G → fs.all (fun q => !decide (q.1 = f)) = true → putF f v gs = gs ++ [(f, v)]
  | _, _, _, f, v, .nil, _ => rfl
  | _, _, G, f, v, .cons (a := (g, x)) (b := (g', τ)) (l₁ := l1) (l₂ := l2) ⟨e, _⟩ t, h => by
    rw [List.all_cons, Bool.and_eq_true] at h
    have e : g = g' := e
    have h1 : ¬ g' = f := by simpa using h.1
    show (if g = f then (g, v) :: l1 else (g, x) :: putF f v l1) = _
    rw [if_neg (by rw [e]; exact h1), putF_new t h.2]
    rfl
theorem Fds.put {gs : List (Str × V)} {fs : List (Str × Ty)} {G : Hp} {f : Str} {v : V} {τ : Ty} (h : Fds gs fs G) (hn : fs.all (fun q => !decide (q.1 = f)) = true) (hv : τ.p v G) : Fds (putF f v gs) (fs ++ [(f, τ)]) G := by
  rw [putF_new h hn]
  have go : ∀ {gs : List (Str × V)} {fs : List (Str × Ty)}, Fds gs fs G → Fds (gs ++ [(f, v)]) (fs ++ [(f, τ)]) G := by
    intro gs fs h
    induction h with
    | nil => exact .cons ⟨rfl, hv⟩ .nil
    | cons a t ih => exact .cons a ih
  exact go h
theorem w_self {f : Str} {o value : Expr} {pos' : Pos} {x C dx : Addr} {gs : List (Str × V)} {fs : List (Str × Ty)} (hv : Ev X σ w value τ) (ho : Ev X σ w o (ex (.ref x))) (ow : Own w x (.ins C dx gs)) (F : Fds gs fs w.G) (c : Cls X.K C) (n : NoAttr X.K C f) (hn : fs.all (fun q => !decide (q.1 = f)) = true) (hz : fs.length < 900)
    (k : ∀ w1 gs1, Grow w w1 → ∀ n1 : w1.G x = none, Own (w1.lay x (.ins C dx gs1) n1) x (.ins C dx gs1) → Fds gs1 (fs ++ [(f, τ)]) w1.G → wS X rest D σ (w1.lay x (.ins C dx gs1) n1).H) (hs : swapsWith value (some (.Attribute o f pos')) pos.line X.env = pure false := by rfl) :
    wS X (.Assign [.Attribute o f pos'] value pos :: rest) D σ w.H :=
  wS_cons (toS1 (ps_fld uE uE hs) (hv w (Grow.refl _) _ fun v w1 g1 h1 => ho w1 g1 _ fun u w2 g2 eu => by
    have ow2 := ow.grow (g1.trans g2)
    have F2 := F.mono (g1.trans g2).g
    exact ⟨x, C, dx, gs, eu, ow2.at_, c, n, by rw [F2.len]; omega, k w2 (putF f v gs) (g1.trans g2) ow2.free Own.self (F2.put hn (τ.m g2.g h1))⟩))
theorem fldO {f : Str} {x C dx : Addr} {gs : List (Str × V)} {fs : List (Str × Ty)} (ho : Ev X σ w e (ex (.ref x))) (ow : Own w x (.ins C dx gs)) (F : Fds gs fs w.G) (c : Cls X.K C) (n : NoAttr X.K C f) (hl : fs.lookup f = some τ) (hb : attributeBase e f X.env (eval e X.env) = eval e X.env := by rfl) : Ev X σ w (.Attribute e f pos) τ := fun w1 g Q k =>
  toE (pe_fld uE hb) (ho w1 g _ fun v w2 g2 ev => by
    have ow2 := ow.grow (g.trans g2)
    obtain ⟨u, h3, h4⟩ := fields_get (F.mono (g.trans g2).g) hl
    exact ⟨x, C, dx, gs, u, ev, ow2.at_, c, n, h3, k u w2 g2 h4⟩)
/-- what an __init__ is worth: the instance at x is new to w0; its fields, in the order of their stores -/
def spIni {ι : Type} (C : Addr) (pre : ι → Prop) (as : ι → List Ty) (fs : ι → List (Str × Ty)) : Sp := fun vs H Q _ => ∃ (i : ι) (w0 w : Wd) (x dx : Addr) (us : List V), vs = .ref x :: us ∧ w.H = H ∧ Grow w0 w ∧ w0.H x = none ∧ Own w x (.ins C dx []) ∧ pre i ∧ Tys (as i) us w.G ∧
  ∀ w' gs, Grow w0 w' → Own w' x (.ins C dx gs) → Fds gs (fs i) w'.G → Q .non w'.H
theorem make_ {ι : Type} {C : Addr} {pre : ι → Prop} {as : ι → List Ty} {fs : ι → List (Str × Ty)} {k : Nat} {f : Addr} {fd : FuncData} {ps : List Str} {x : Str} {p : Pos} (M : Mk X.K C f) (F : FnOk X.prog X.w X.K X.mg X.base CX0 k f fd ps (spIni C pre as fs)) (hr : Room (k + 1) X.A) (hm : X.mg x = some (.ref C)) (hb : Binds X.K fd ps []) (i : ι) (hp : pre i) (ha : Av X σ w (e :: es) (as i))
    (hg : Gl X x := by rfl) (hdb : (x == ("__debug__" : Str)) = false := by decide) (he : starEach (e :: es) X.env = (false, eval e X.env) :: starEach es X.env := by rfl) (hpl : (backTo pos (starEach es X.env)).any (·.1) = false := by rfl) :
    Ev X σ w (.Call (.Name x p) (e :: es) [] pos) (insT C (fs i)) := fun w1 g Q q =>
  toE (pe_make M F hr hg hm hb .nil pass0 uA hdb he hpl) (ha w1 g _ fun vs w2 g2 hvs x dx hx hdx hne => by
    have g3 := Grow.new (w := w2) (o := .own x) hdx
    have hx3 : (w2.new dx (.own x)).H x = none := (upd_ne hne.symm).trans hx
    have g4 := Grow.lay (w := w2.new dx (.own x)) (o := .ins C dx []) hx3
    refine ⟨i, w2.new dx (.own x), (w2.new dx (.own x)).lay x (.ins C dx []) ((w2.new dx (.own x)).gnone hx3), x, dx, vs, by rw [List.append_nil], rfl, g4, hx3, Own.lay hx3, hp, hvs.mono (g3.trans g4).g, fun w' gs g' ow' F' => ⟨rfl, ?_⟩⟩
    exact q (.ref x) (w'.frz x _ ow'.at_) (g2.trans (((g3.trans g').frz hx) ow'.at_)) ⟨x, dx, gs, rfl, Wd.frz_at, F'.mono (Wd.frz_same ow'.free)⟩)
/-! ### list(d) -/
theorem cr_listD {d : Addr} {kvs : List (NK × PyData)} (hc : X.calm = true) (hz : kvs.length ≤ 1000000) : CallR X (.type "list") (fun xs H Q => ∃ (w2 : Wd), xs = [.ref d] ∧ w2.H = H ∧ OwnD X.prog X.w X.K w2 d kvs ∧ ∀ p vs, H p = none → Tys (kvs.map fun q => dat X.K q.1.data) vs w2.G → Q (.ref p) (upd H p (.lst vs))) := by
  intro pins s σ H xs us Q I r ⟨w2, ex, eH, ow2, q⟩
  subst ex eH
  obtain ⟨u, rfl, rx⟩ := r.one
  cases rx
  obtain ⟨ys, h1, h2, h3⟩ := ow2.ex
  obtain ⟨⟨o, es, ep, o1, o2, o3, o4, o5⟩, _, _⟩ := I.hok d _ h1.at_
  have l1 : es.size = ys.length := size_of_entries o4
  have l2 : kvs.length = ys.length := Paired.length h3
  refine PySem.W.kdl_call (kdl_raw h2 o2 o3) (I.ok.hd hc) o1 (by rw [l1, ← l2]; exact Nat.le_of_lt (small_big hz)) fun h' tk acc' c' kp e it => ?_
  have ea : acc'.toList = (ys.map fun x => x.2.1).map Value.ref := by
    refine List.ext_getElem? fun j => ?_
    have hl : acc'.toList.length = ys.length := by rw [Array.length_toList, it.1]; exact l1
    cases hj : acc'.toList[j]? with
    | none =>
      have h1 := List.getElem?_eq_none_iff.mp hj
      rw [List.getElem?_eq_none (by rw [List.length_map, List.length_map]; omega)]
    | some v =>
      obtain ⟨en, hen, hv⟩ := it.2 j v (by rw [← Array.getElem?_toList]; exact hj)
      have qe := entry_at o4 j
      rw [hen] at qe
      cases hb : ys[j]? with
      | none =>
        rw [hb] at qe
        cases qe
      | some b =>
        rw [hb] at qe
        have e2 : en = entryOfKey (nestedKind X.prog X.w) b := Option.some.inj qe
        rw [List.getElem?_map, List.getElem?_map, hb, hv, e2]
        rfl
  have ty : Tys (kvs.map fun q => dat X.K q.1.data) ((ys.map fun x => x.2.1).map V.ref) w2.G := ents_tys h3
  have rv : Vals ((ys.map fun x => x.2.1).map V.ref) acc'.toList := by rw [ea]; exact vals_refs _
  have hz' : ((ys.map fun x => x.2.1).map V.ref).length ≤ sizeLine := by rw [List.length_map, List.length_map, ← l2]; exact Nat.le_of_lt (small_big hz)
  exact ⟨.ref s.heap.objs.size, _, I.laid (t' := tk) (o := .lst ((ys.map fun x => x.2.1).map V.ref)) kp (Nat.le_refl _) ⟨hz', acc'.toList, c', rv, by rw [Array.toArray_toList]; exact e⟩, rfl, q _ _ (I.hok.fresh (Nat.le_refl _)) ty⟩
theorem listD {d : Addr} {kvs : List (NK × PyData)} {p : Pos} (hc : X.calm = true) (hm : X.mg "list" = none) (ho : Ev X σ w e (ex (.ref d))) (ow : OwnD X.prog X.w X.K w d kvs) (hz : kvs.length ≤ 1000000) (hg : Gl X "list" := by rfl) (he : starEach [e] X.env = (false, eval e X.env) :: starEach [] X.env := by rfl) :
    Ev X σ w (.Call (.Name "list" p) [e] [] pos) (lstT X.K (kvs.map fun q => dat X.K q.1.data)) := by
  exact bt1 (cr_listD hc hz) hm (by decide +kernel) ho (fun v w2 Q g ev k => ⟨w2, by rw [show v = .ref d from ev], rfl, ow.grow g, fun p vs hp ht => k _ (w2.new p (.lst vs)) (Grow.new hp) ⟨p, vs, rfl, SqL.of Wd.new_at, ht.mono (Grow.new hp).g⟩⟩) hg (by decide) (by decide) he
end
end K27
/-! ## Texts -/
/-! The text by its places, and what a def of it is worth to its callers. -/
namespace K27
open PySem L2 PySem.Spec PyProof.Rows
def top (i : Nat) : Stmt := PySem.Challenge.pw_agedcopy_k27_whole_least_numbers_of_mach.main.body.getD i (.Pass ⟨0, 0, 0, 0⟩)
abbrev sAgeError : Stmt := top 1
abbrev sBadMachine : Stmt := top 2
abbrev sRefused : Stmt := top 3
abbrev sis_integer : Stmt := top 7
abbrev sis_number : Stmt := top 8
abbrev sis_below : Stmt := top 9
abbrev sis_sequence : Stmt := top 10
abbrev sis_text : Stmt := top 11
abbrev sis_ascending : Stmt := top 12
abbrev sis_table : Stmt := top 14
abbrev scheck_tables : Stmt := top 15
abbrev sMachine : Stmt := top 16
abbrev scheck_starts : Stmt := top 17
abbrev sbehind : Stmt := top 18
abbrev scheck_bound : Stmt := top 20
abbrev spaired : Stmt := top 23
abbrev sPairWalk : Stmt := top 24
abbrev spair_walks : Stmt := top 25
abbrev sneed_modulus : Stmt := top 26
abbrev scommon_divisor : Stmt := top 27
abbrev sfirst_parting : Stmt := top 28
abbrev slog_back : Stmt := top 29
abbrev swrap_paper : Stmt := top 30
abbrev sis_enough : Stmt := top 31
abbrev sis_log : Stmt := top 32
abbrev swrap_holds : Stmt := top 33
abbrev sis_none_enough : Stmt := top 34
abbrev sleast_wrap : Stmt := top 35
abbrev sround_walk : Stmt := top 36
abbrev srounds_part : Stmt := top 37
abbrev snever_at : Stmt := top 38
abbrev snever_paper : Stmt := top 39
abbrev snever_holds : Stmt := top 40
abbrev s_law_box : Stmt := top 42
abbrev s_law_take : Stmt := top 43
abbrev s_law_pick : Stmt := top 44
abbrev s_law_machine : Stmt := top 45
abbrev s_law_parts : Stmt := top 48
abbrev s_law_round : Stmt := top 49
abbrev s_law_at : Stmt := top 50
abbrev s_law_is_enough : Stmt := top 51
abbrev s_law_least : Stmt := top 52
abbrev s_law_heard : Stmt := top 53
abbrev s_law_refused_right : Stmt := top 54
abbrev slaw : Stmt := top 55
abbrev sRefusedInit : Stmt := inClass sRefused 0
abbrev sMachineInit : Stmt := inClass sMachine 0
abbrev sPairInit : Stmt := inClass sPairWalk 0
abbrev sPairAt : Stmt := inClass sPairWalk 1
abbrev sPairEnds : Stmt := inClass sPairWalk 2

/-- the built-in names that the text uses are still the built-in ones -/
structure Bu (mg : Str → Option Value) : Prop where
  len_ : mg "len" = none
  range_ : mg "range" = none
  list_ : mg "list" = none
  tuple_ : mg "tuple" = none
  enumerate_ : mg "enumerate" = none
  isinstance_ : mg "isinstance" = none
  int_ : mg "int" = none
  bool_ : mg "bool" = none
  str_ : mg "str" = none
  all_ : mg "all" = none
  any_ : mg "any" = none
  zip_ : mg "zip" = none
  sorted_ : mg "sorted" = none
  min_ : mg "min" = none
  abs_ : mg "abs" = none
  reversed_ : mg "reversed" = none
  repr_ : mg "repr" = none
  super_ : mg "super" = none

/-- a def of the text behind its top -/
structure DefAt (K : PySem.W.Frag) (mg : Str → Option Value) (x : Str) (st : Stmt) (ps : List Str) : Prop where
  ex : ∃ f fd, Fun K x x st f fd ∧ mg x = some (.ref f) ∧ Binds K fd ps []
/-- a def that may be called -/
structure Cal (P : Program) (w : World) (K : PySem.W.Frag) (mg : Str → Option Value) (base : Heap) (k : Nat) (x : Str) (ps : List Str) (sp : Sp) : Prop where
  ex : ∃ f fd, FnOk P w K mg base CX0 k f fd ps sp ∧ mg x = some (.ref f) ∧ PySem.W.keepIn K (.ref f) = true ∧ Binds K fd ps []
/-- the context of a def's body -/
abbrev BX (P : Program) (w : World) (K : PySem.W.Frag) (mg : Str → Option Value) (base : Heap) (N : List Str) (x : Str) (st : Stmt) (f : Addr) (cdv : Value) (A : Around) (outer : List Env) (s : Shared) (H : Hp) (E : XK) : Cx :=
  (cxOf CX0 P w K mg base N x (defScope st) f cdv A outer s H E).nox
theorem def_ok {P : Program} {w : World} {K : PySem.W.Frag} {mg : Str → Option Value} {base : Heap} {k : Nat} {x : Str} {st : Stmt} {N ps : List Str} {ι : Type} {pre : ι → Prop} {as : ι → List Ty} {r : ι → Ty}
    (D : DefAt K mg x st ps) (S : FnScope N ps (defScope st)) (len : ∀ i, (as i).length = ps.length)
    (h : ∀ (f : Addr) (cdv : Value) (A : Around) (outer : List Env) (s : Shared) (H : Hp) (E : XK) (i : ι) (w0 : Wd) (Q : VK) (σ : L2.St), Room k (A.deeper (envOfC x (defScope st) s.heap.objs.size f cdv)) → pre i →
      Sl w0.G σ ((as i).map some ++ List.replicate (N.length - ps.length) none) → (∀ v w', Grow w0 w' → (r i).p v w'.G → Q v w'.H) →
      wS (BX P w K mg base N x st f cdv A outer s H E) (defBody st) { nx := fun _ H' => Q .non H', rt := Q } σ w0.H) :
    Cal P w K mg base (k + 1) x ps (spOf pre as r) := by
  obtain ⟨f, fd, F, hm, hb⟩ := D.ex
  refine ⟨f, fd, F.ok S (spOf_len len) fun cdv A outer s H vs Q E hr ⟨i, w0, eH, hp, ht, q⟩ => ⟨_, uS, ?_⟩, hm, F.kp, hb⟩
  subst eH
  have hl : vs.length = ps.length := by rw [ht.length, len i]
  have S0 := Sl.start (N := N) ht
  rw [hl] at S0
  exact h f cdv A outer s w0.H E i w0 Q _ hr hp S0 q
theorem call_c {P : Program} {W : World} {K : PySem.W.Frag} {mg : Str → Option Value} {base : Heap} {X : Cx} {σ : L2.St} {w : Wd} {e : Expr} {es : List Expr} {pos p : Pos} {ι : Type} {pre : ι → Prop} {as : ι → List Ty} {r : ι → Ty} {k : Nat} {x : Str} {ps : List Str} (c : Cal P W K mg base k x ps (spOf pre as r)) (hr : Room k X.A) (i : ι) (hp : pre i) (ha : Av X σ w (e :: es) (as i))
    (h1 : X.prog = P := by rfl) (h2 : X.w = W := by rfl) (h3 : X.K = K := by rfl) (h4 : X.mg = mg := by rfl) (h5 : X.base = base := by rfl)
    (hg : Gl X x := by rfl) (hdb : (x == ("__debug__" : Str)) = false := by decide) (he : starEach (e :: es) X.env = (false, eval e X.env) :: starEach es X.env := by rfl) (hpl : (backTo pos (starEach es X.env)).any (·.1) = false := by rfl) :
    Ev X σ w (.Call (.Name x p) (e :: es) [] pos) (r i) := by
  subst h1 h2 h3 h4 h5
  obtain ⟨f, fd, F, hm, hk, hb⟩ := c.ex
  exact call_ F hr hm hk hb i hp ha hg hdb he hpl
abbrev n_int : List Str := ["value"]
abbrev p_int : List Str := ["value"]
theorem sc_int : FnScope n_int p_int (defScope sis_integer) := ⟨rfl, rfl, rfl, by decide +kernel, rfl, by decide +kernel, by decide +kernel⟩
abbrev n_num : List Str := ["value"]
abbrev p_num : List Str := ["value"]
theorem sc_num : FnScope n_num p_num (defScope sis_number) := ⟨rfl, rfl, rfl, by decide +kernel, rfl, by decide +kernel, by decide +kernel⟩
abbrev n_bel : List Str := ["value", "most"]
abbrev p_bel : List Str := ["value", "most"]
theorem sc_bel : FnScope n_bel p_bel (defScope sis_below) := ⟨rfl, rfl, rfl, by decide +kernel, rfl, by decide +kernel, by decide +kernel⟩
abbrev n_seq : List Str := ["value"]
abbrev p_seq : List Str := ["value"]
theorem sc_seq : FnScope n_seq p_seq (defScope sis_sequence) := ⟨rfl, rfl, rfl, by decide +kernel, rfl, by decide +kernel, by decide +kernel⟩
abbrev n_txt : List Str := ["value"]
abbrev p_txt : List Str := ["value"]
theorem sc_txt : FnScope n_txt p_txt (defScope sis_text) := ⟨rfl, rfl, rfl, by decide +kernel, rfl, by decide +kernel, by decide +kernel⟩
abbrev n_asc : List Str := ["value", "most", "number", "one", "other"]
abbrev p_asc : List Str := ["value", "most"]
theorem sc_asc : FnScope n_asc p_asc (defScope sis_ascending) := ⟨rfl, rfl, rfl, by decide +kernel, rfl, by decide +kernel, by decide +kernel⟩
abbrev n_table : List Str := ["value", "states", "state"]
abbrev p_table : List Str := ["value", "states"]
theorem sc_table : FnScope n_table p_table (defScope sis_table) := ⟨rfl, rfl, rfl, by decide +kernel, rfl, by decide +kernel, by decide +kernel⟩
abbrev n_ctab : List Str := ["tables", "states", "at", "table"]
abbrev p_ctab : List Str := ["tables"]
theorem sc_ctab : FnScope n_ctab p_ctab (defScope scheck_tables) := ⟨rfl, rfl, rfl, by decide +kernel, rfl, by decide +kernel, by decide +kernel⟩
abbrev n_minit : List Str := ["self", "tables"]
abbrev p_minit : List Str := ["self", "tables"]
theorem sc_minit : FnScope n_minit p_minit (defScope sMachineInit) := ⟨rfl, rfl, rfl, by decide +kernel, rfl, by decide +kernel, by decide +kernel⟩
abbrev n_starts : List Str := ["machine", "value"]
abbrev p_starts : List Str := ["machine", "value"]
theorem sc_starts : FnScope n_starts p_starts (defScope scheck_starts) := ⟨rfl, rfl, rfl, by decide +kernel, rfl, by decide +kernel, by decide +kernel⟩
abbrev n_behind : List Str := ["tables", "state", "log", "deed"]
abbrev p_behind : List Str := ["tables", "state", "log"]
theorem sc_behind : FnScope n_behind p_behind (defScope sbehind) := ⟨rfl, rfl, rfl, by decide +kernel, rfl, by decide +kernel, by decide +kernel⟩
abbrev n_bound : List Str := ["value"]
abbrev p_bound : List Str := ["value"]
theorem sc_bound : FnScope n_bound p_bound (defScope scheck_bound) := ⟨rfl, rfl, rfl, by decide +kernel, rfl, by decide +kernel, by decide +kernel⟩
abbrev n_paired : List Str := ["tables", "pairs", "found", "one", "other", "table"]
abbrev p_paired : List Str := ["tables", "pairs"]
theorem sc_paired : FnScope n_paired p_paired (defScope spaired) := ⟨rfl, rfl, rfl, by decide +kernel, rfl, by decide +kernel, by decide +kernel⟩
abbrev n_pinit : List Str := ["self", "machine", "state", "known", "layer", "other"]
abbrev p_pinit : List Str := ["self", "machine", "state"]
theorem sc_pinit : FnScope n_pinit p_pinit (defScope sPairInit) := ⟨rfl, rfl, rfl, by decide +kernel, rfl, by decide +kernel, by decide +kernel⟩
abbrev n_pat : List Str := ["self", "length"]
abbrev p_pat : List Str := ["self", "length"]
theorem sc_pat : FnScope n_pat p_pat (defScope sPairAt) := ⟨rfl, rfl, rfl, by decide +kernel, rfl, by decide +kernel, by decide +kernel⟩
abbrev n_pends : List Str := ["self", "length", "pair"]
abbrev p_pends : List Str := ["self", "length"]
theorem sc_pends : FnScope n_pends p_pends (defScope sPairEnds) := ⟨rfl, rfl, rfl, by decide +kernel, rfl, by decide +kernel, by decide +kernel⟩
abbrev n_pwalks : List Str := ["machine", "states", "state"]
abbrev p_pwalks : List Str := ["machine", "states"]
theorem sc_pwalks : FnScope n_pwalks p_pwalks (defScope spair_walks) := ⟨rfl, rfl, rfl, by decide +kernel, rfl, by decide +kernel, by decide +kernel⟩
abbrev n_nmod : List Str := ["modulus"]
abbrev p_nmod : List Str := ["modulus"]
theorem sc_nmod : FnScope n_nmod p_nmod (defScope sneed_modulus) := ⟨rfl, rfl, rfl, by decide +kernel, rfl, by decide +kernel, by decide +kernel⟩
abbrev n_cdiv : List Str := ["one", "other"]
abbrev p_cdiv : List Str := ["one", "other"]
theorem sc_cdiv : FnScope n_cdiv p_cdiv (defScope scommon_divisor) := ⟨rfl, rfl, rfl, by decide +kernel, rfl, by decide +kernel, by decide +kernel⟩
abbrev n_first : List Str := ["walk", "modulus", "bound", "last", "length"]
abbrev p_first : List Str := ["walk", "modulus", "bound"]
theorem sc_first : FnScope n_first p_first (defScope sfirst_parting) := ⟨rfl, rfl, rfl, by decide +kernel, rfl, by decide +kernel, by decide +kernel⟩
abbrev n_logback : List Str := ["machine", "walk", "length", "pair", "found", "at", "ahead", "one", "other", "deed", "table"]
abbrev p_logback : List Str := ["machine", "walk", "length"]
theorem sc_logback : FnScope n_logback p_logback (defScope slog_back) := ⟨rfl, rfl, rfl, by decide +kernel, rfl, by decide +kernel, by decide +kernel⟩
abbrev n_wpaper : List Str := ["machine", "modulus", "states", "bound", "walks", "found", "some", "length", "state", "other", "log", "walk", "one"]
abbrev p_wpaper : List Str := ["machine", "modulus", "states", "bound"]
theorem sc_wpaper : FnScope n_wpaper p_wpaper (defScope swrap_paper) := ⟨rfl, rfl, rfl, by decide +kernel, rfl, by decide +kernel, by decide +kernel⟩
abbrev n_enough : List Str := ["machine", "modulus", "states", "bound"]
abbrev p_enough : List Str := ["machine", "modulus", "states", "bound"]
theorem sc_enough : FnScope n_enough p_enough (defScope sis_enough) := ⟨rfl, rfl, rfl, by decide +kernel, rfl, by decide +kernel, by decide +kernel⟩
abbrev n_islog : List Str := ["machine", "value", "deed"]
abbrev p_islog : List Str := ["machine", "value"]
theorem sc_islog : FnScope n_islog p_islog (defScope sis_log) := ⟨rfl, rfl, rfl, by decide +kernel, rfl, by decide +kernel, by decide +kernel⟩
abbrev n_wholds : List Str := ["machine", "modulus", "value", "states", "bound", "lot", "state", "other", "log"]
abbrev p_wholds : List Str := ["machine", "modulus", "value", "states", "bound"]
theorem sc_wholds : FnScope n_wholds p_wholds (defScope swrap_holds) := ⟨rfl, rfl, rfl, by decide +kernel, rfl, by decide +kernel, by decide +kernel⟩
abbrev n_none : List Str := ["walk", "turns"]
abbrev p_none : List Str := ["walk"]
theorem sc_none : FnScope n_none p_none (defScope sis_none_enough) := ⟨rfl, rfl, rfl, by decide +kernel, rfl, by decide +kernel, by decide +kernel⟩
abbrev n_least : List Str := ["machine", "states", "bound", "walks", "modulus", "walk"]
abbrev p_least : List Str := ["machine", "states", "bound"]
theorem sc_least : FnScope n_least p_least (defScope sleast_wrap) := ⟨rfl, rfl, rfl, by decide +kernel, rfl, by decide +kernel, by decide +kernel⟩
abbrev n_round : List Str := ["tables", "starts", "goals", "size", "rest", "least", "known", "waiting", "at", "goal", "some", "pair", "length", "deed", "table", "knot", "found"]
abbrev p_round : List Str := ["tables", "starts", "goals", "size", "rest", "least"]
theorem sc_round : FnScope n_round p_round (defScope sround_walk) := ⟨rfl, rfl, rfl, by decide +kernel, rfl, by decide +kernel, by decide +kernel⟩
abbrev n_part : List Str := ["tables", "home", "steps", "waiting", "edges", "at", "pair", "table", "after", "back", "is_new", "found"]
abbrev p_part : List Str := ["tables", "home"]
theorem sc_part : FnScope n_part p_part (defScope srounds_part) := ⟨rfl, rfl, rfl, by decide +kernel, rfl, by decide +kernel, by decide +kernel⟩
abbrev n_nat : List Str := ["machine", "state", "home", "tables", "part", "starts", "goals", "around", "rest", "ahead", "behind_it", "size", "lack", "more", "other"]
abbrev p_nat : List Str := ["machine", "state", "home"]
theorem sc_nat : FnScope n_nat p_nat (defScope snever_at) := ⟨rfl, rfl, rfl, by decide +kernel, rfl, by decide +kernel, by decide +kernel⟩
abbrev n_npaper : List Str := ["machine", "states", "state", "one", "other", "found"]
abbrev p_npaper : List Str := ["machine", "states"]
theorem sc_npaper : FnScope n_npaper p_npaper (defScope snever_paper) := ⟨rfl, rfl, rfl, by decide +kernel, rfl, by decide +kernel, by decide +kernel⟩
abbrev n_nholds : List Str := ["machine", "value", "states", "lot", "state", "other", "ahead", "around", "after", "tables", "pair", "log"]
abbrev p_nholds : List Str := ["machine", "value", "states"]
theorem sc_nholds : FnScope n_nholds p_nholds (defScope snever_holds) := ⟨rfl, rfl, rfl, by decide +kernel, rfl, by decide +kernel, by decide +kernel⟩
abbrev n_lbox : List Str := ["_law_script", "_law_k", "_law_cell", "_law_great"]
abbrev p_lbox : List Str := ["_law_script", "_law_k"]
theorem sc_lbox : FnScope n_lbox p_lbox (defScope s_law_box) := ⟨rfl, rfl, rfl, by decide +kernel, rfl, by decide +kernel, by decide +kernel⟩
abbrev n_ltake : List Str := ["_law_box_here", "_law_many", "_law_digit", "_law_raw"]
abbrev p_ltake : List Str := ["_law_box_here", "_law_many"]
theorem sc_ltake : FnScope n_ltake p_ltake (defScope s_law_take) := ⟨rfl, rfl, rfl, by decide +kernel, rfl, by decide +kernel, by decide +kernel⟩
abbrev n_lpick : List Str := ["_law_box_here", "_law_some"]
abbrev p_lpick : List Str := ["_law_box_here", "_law_some"]
theorem sc_lpick : FnScope n_lpick p_lpick (defScope s_law_pick) := ⟨rfl, rfl, rfl, by decide +kernel, rfl, by decide +kernel, by decide +kernel⟩
abbrev n_lmach : List Str := ["_law_box_here", "_law_states", "_law_deeds", "_law_found", "_law_turn", "_law_way", "_law_table", "_law_one", "_law_other", "_law_state"]
abbrev p_lmach : List Str := ["_law_box_here", "_law_states", "_law_deeds"]
theorem sc_lmach : FnScope n_lmach p_lmach (defScope s_law_machine) := ⟨rfl, rfl, rfl, by decide +kernel, rfl, by decide +kernel, by decide +kernel⟩
abbrev n_lparts : List Str := ["_law_done", "_law_state"]
abbrev p_lparts : List Str := ["_law_done", "_law_state"]
theorem sc_lparts : FnScope n_lparts p_lparts (defScope s_law_parts) := ⟨rfl, rfl, rfl, by decide +kernel, rfl, by decide +kernel, by decide +kernel⟩
abbrev n_lround : List Str := ["_law_tables", "_law_lot", "_law_most", "_law_known", "_law_parts_here", "_law_here", "_law_length", "_law_key", "_law_later", "_law_done", "_law_table", "_law_state"]
abbrev p_lround : List Str := ["_law_tables", "_law_lot", "_law_most"]
theorem sc_lround : FnScope n_lround p_lround (defScope s_law_round) := ⟨rfl, rfl, rfl, by decide +kernel, rfl, by decide +kernel, by decide +kernel⟩
abbrev n_lat : List Str := ["_law_told", "_law_length", "_law_parts_here", "_law_first", "_law_turn"]
abbrev p_lat : List Str := ["_law_told", "_law_length"]
theorem sc_lat : FnScope n_lat p_lat (defScope s_law_at) := ⟨rfl, rfl, rfl, by decide +kernel, rfl, by decide +kernel, by decide +kernel⟩
abbrev n_lenough : List Str := ["_law_told", "_law_modulus", "_law_bound", "_law_parts_here", "_law_first", "_law_turn", "_law_last", "_law_length"]
abbrev p_lenough : List Str := ["_law_told", "_law_modulus", "_law_bound"]
theorem sc_lenough : FnScope n_lenough p_lenough (defScope s_law_is_enough) := ⟨rfl, rfl, rfl, by decide +kernel, rfl, by decide +kernel, by decide +kernel⟩
abbrev n_lleast : List Str := ["_law_told", "_law_bound", "_law_parts_here", "_law_first", "_law_turn", "_law_modulus", "_law_again"]
abbrev p_lleast : List Str := ["_law_told", "_law_bound"]
theorem sc_lleast : FnScope n_lleast p_lleast (defScope s_law_least) := ⟨rfl, rfl, rfl, by decide +kernel, rfl, by decide +kernel, by decide +kernel⟩
abbrev n_lheard : List Str := ["_law_ask", "fault"]
abbrev p_lheard : List Str := ["_law_ask"]
theorem sc_lheard : FnScope n_lheard p_lheard (defScope s_law_heard) := ⟨rfl, rfl, rfl, by decide +kernel, rfl, by decide +kernel, by decide +kernel⟩
abbrev n_lref : List Str := ["_law_box_here", "_law_machine_here", "_law_bad", "_law_asks", "_law_ask"]
abbrev p_lref : List Str := ["_law_box_here", "_law_machine_here"]
theorem sc_lref : FnScope n_lref p_lref (defScope s_law_refused_right) := ⟨rfl, rfl, rfl, by decide +kernel, rfl, by decide +kernel, by decide +kernel⟩
abbrev n_law : List Str := ["_law_script", "_law_k", "_law_box_here", "_law_states", "_law_tables", "_law_machine_here", "_law_everyone", "_law_lot", "_law_some", "_law_told", "_law_due", "_law_paper", "_law_last", "_law_bound", "_law_least_here", "_law_modulus", "_law_state"]
abbrev p_law : List Str := ["_law_script"]
theorem sc_law : FnScope n_law p_law (defScope slaw) := ⟨rfl, rfl, rfl, by decide +kernel, rfl, by decide +kernel, by decide +kernel⟩

section
variable {P : Program} {w : World} {K : PySem.W.Frag} {mg : Str → Option Value} {base : Heap}
def isInt : PyData → Bool
  | .int _ => true
  | _ => false
def isIntB : PyData → Bool
  | .int _ => true
  | .bool _ => true
  | _ => false
def isBl : PyData → Bool
  | .bool _ => true
  | _ => false
theorem kit_int (d : PyData) : kitB (tyN d) "int" = some (isIntB d) := by
  cases d with
  | none => exact (by decide +kernel : kitB "NoneType" "int" = some false)
  | bool _ => exact (by decide +kernel : kitB "bool" "int" = some true)
  | int _ => exact (by decide +kernel : kitB "int" "int" = some true)
  | str _ => exact (by decide +kernel : kitB "str" "int" = some false)
  | list _ => exact (by decide +kernel : kitB "list" "int" = some false)
  | tuple _ => exact (by decide +kernel : kitB "tuple" "int" = some false)
  | dict _ => exact (by decide +kernel : kitB "dict" "int" = some false)
theorem kit_bool (d : PyData) : kitB (tyN d) "bool" = some (isBl d) := by
  cases d with
  | none => exact (by decide +kernel : kitB "NoneType" "bool" = some false)
  | bool _ => exact (by decide +kernel : kitB "bool" "bool" = some true)
  | int _ => exact (by decide +kernel : kitB "int" "bool" = some false)
  | str _ => exact (by decide +kernel : kitB "str" "bool" = some false)
  | list _ => exact (by decide +kernel : kitB "list" "bool" = some false)
  | tuple _ => exact (by decide +kernel : kitB "tuple" "bool" = some false)
  | dict _ => exact (by decide +kernel : kitB "dict" "bool" = some false)
def isLs : PyData → Bool
  | .list _ => true
  | _ => false
theorem kit_list (d : PyData) : kitB (tyN d) "list" = some (isLs d) := by
  cases d with
  | none => exact (by decide +kernel : kitB "NoneType" "list" = some false)
  | bool _ => exact (by decide +kernel : kitB "bool" "list" = some false)
  | int _ => exact (by decide +kernel : kitB "int" "list" = some false)
  | str _ => exact (by decide +kernel : kitB "str" "list" = some false)
  | list _ => exact (by decide +kernel : kitB "list" "list" = some true)
  | tuple _ => exact (by decide +kernel : kitB "tuple" "list" = some false)
  | dict _ => exact (by decide +kernel : kitB "dict" "list" = some false)
def isTp : PyData → Bool
  | .tuple _ => true
  | _ => false
theorem kit_tuple (d : PyData) : kitB (tyN d) "tuple" = some (isTp d) := by
  cases d with
  | none => exact (by decide +kernel : kitB "NoneType" "tuple" = some false)
  | bool _ => exact (by decide +kernel : kitB "bool" "tuple" = some false)
  | int _ => exact (by decide +kernel : kitB "int" "tuple" = some false)
  | str _ => exact (by decide +kernel : kitB "str" "tuple" = some false)
  | list _ => exact (by decide +kernel : kitB "list" "tuple" = some false)
  | tuple _ => exact (by decide +kernel : kitB "tuple" "tuple" = some true)
  | dict _ => exact (by decide +kernel : kitB "dict" "tuple" = some false)
def isSt : PyData → Bool
  | .str _ => true
  | _ => false
theorem kit_str (d : PyData) : kitB (tyN d) "str" = some (isSt d) := by
  cases d with
  | none => exact (by decide +kernel : kitB "NoneType" "str" = some false)
  | bool _ => exact (by decide +kernel : kitB "bool" "str" = some false)
  | int _ => exact (by decide +kernel : kitB "int" "str" = some false)
  | str _ => exact (by decide +kernel : kitB "str" "str" = some true)
  | list _ => exact (by decide +kernel : kitB "list" "str" = some false)
  | tuple _ => exact (by decide +kernel : kitB "tuple" "str" = some false)
  | dict _ => exact (by decide +kernel : kitB "dict" "str" = some false)
theorem c_int (D : DefAt K mg "is_integer" sis_integer ["value"]) (B : Bu mg) : Cal P w K mg base 1 "is_integer" ["value"] (spOf (fun _ : PyData => True) (fun d => [dat K d]) (fun d => dat K (.bool (isInt d)))) :=
  def_ok (N := n_int) D sc_int (fun _ => rfl) fun f cdv A outer s H E d w0 Q σ hr _ S q => by
    show wS _ (_ :: _) _ _ _
    refine w_ret (vand (isi B.isinstance_ (nm 0 S) (gty B.int_ (by decide +kernel)) (kit_int d)) fun _ => v1 (vnot (isi B.isinstance_ (nm 0 S) (gty B.bool_ (by decide +kernel)) (kit_bool d)))) fun v w' g h => q v w' g ?_
    have e : (isIntB d && !isBl d) = isInt d := by cases d <;> rfl
    rw [e] at h
    exact h
end
end K27
/-! ## Core8 -/
/-! The calculus, eighth part: loops and comprehensions over a list of plain Lean things. -/
namespace K27
open PySem L2 PySem.Spec PyProof.Rows
section
variable {α β : Type}
theorem range_get (xs : List α) : (List.range xs.length).map (fun i => xs[i]?) = xs.map some := by
  refine List.ext_getElem? fun i => ?_
  rw [List.getElem?_map, List.getElem?_map]
  by_cases h : i < xs.length
  · rw [List.getElem?_range h, List.getElem?_eq_getElem h]
    simp [h]
  · rw [List.getElem?_eq_none (by simpa using h), List.getElem?_eq_none (by omega)]
    rfl
def elimO (d : β) (f : α → β) : Option α → β
  | some x => f x
  | none => d
theorem range_map (xs : List α) (d : β) (f : α → β) : (List.range xs.length).map (fun (i : Nat) => elimO d f xs[i]?) = xs.map f := by
  have h := congrArg (List.map (elimO d f)) (range_get xs)
  rw [List.map_map, List.map_map] at h
  exact h
theorem range_kept (xs : List α) (d : β) (b : α → Bool) (f : α → β) : ((List.range xs.length).filter fun (i : Nat) => elimO false b xs[i]?).map (fun (i : Nat) => elimO d f xs[i]?) = (xs.filter b).map f := by
  have h := congrArg (fun l => (l.filter (elimO false b)).map (elimO d f)) (range_get xs)
  simp only [List.filter_map, List.map_map] at h
  exact h
end
section
variable {X : Cx} {e a b : Expr} {es : List Expr} {σ : L2.St} {w w' : Wd} {τ τ' : Ty} {pos : Pos} {ds : List (Option Ty)} {rest body : List Stmt} {D : Ends} {α : Type}
theorem at_map {xs : List α} {κ : α → Ty} {i : Nat} {τ : Ty} (h : (xs.map κ)[i]? = some τ) : ∃ x, xs[i]? = some x ∧ τ = κ x := by
  rw [List.getElem?_map] at h
  cases q : xs[i]? with
  | none =>
    rw [q] at h
    cases h
  | some x =>
    rw [q] at h
    exact ⟨x, rfl, (Option.some.inj h).symm⟩
/-- [elt for x in iter], the source's items being of kinds κ x -/
theorem lcMV {elt iter : Expr} {x : Str} {tp : Pos} {scope : Scope} {xs : List α} {κ : α → Ty} (own : List (Str × Nat)) (j : Nat) (υ : α → Ty) (hc : X.calm = true) (hN : X.N.Nodup) (S : Sl w.G σ ds) (hi : Iv X σ w (.Name x tp) iter (xs.map κ)) (hz : xs.length ≤ 1000000)
    (hs : ∀ (i : Nat) y σ2 w4, xs[i]? = some y → Grow w w4 → Sl w4.G σ2 ((wipeD ds (own.map (·.2))).set j (some (κ y))) → BEv X scope σ2 w4 elt (υ y))
    (ok : BlkOk X.N X.env.scope scope own := by first | exact blkOk_by (by decide +kernel) | exact blkOk_by (by dsimp only [cxOf, Cx.nox, Cx.wish, envOfC, Cx.blk, compEnvC]; decide +kernel)) (hb : BN X scope j x := by first | exact ⟨rfl, .inl rfl⟩ | exact ⟨rfl, .inr ⟨rfl, rfl⟩⟩) (hj : j ∈ own.map (·.2) := by decide) (hf : ∀ x, foldedSetIterable iter X.env x = pure x := by intro _; rfl) :
    LcV X σ w (.ListComp elt [⟨.Name x tp, iter, [], 0⟩] scope pos) (lstT X.K (xs.map υ)) := by
  have h := lcV (pos := pos) own j (fun (i : Nat) => elimO (ex .non) υ xs[i]?) hc hN S hi (by rw [List.length_map]; exact hz) (fun i τ σ2 w4 h1 h2 h3 => by
    obtain ⟨y, e1, e2⟩ := at_map h1
    rw [e1]
    rw [e2] at h3
    exact hs i y σ2 w4 e1 h2 h3) ok hb hj hf
  rw [List.length_map, range_map] at h
  exact h
theorem lcM {elt iter : Expr} {x : Str} {tp : Pos} {scope : Scope} {xs : List α} {κ : α → Ty} (own : List (Str × Nat)) (j : Nat) (υ : α → Ty) (hc : X.calm = true) (hN : X.N.Nodup) (S : Sl w.G σ ds) (hi : Iv X σ w (.Name x tp) iter (xs.map κ)) (hz : xs.length ≤ 1000000)
    (hs : ∀ (i : Nat) y σ2 w4, xs[i]? = some y → Grow w w4 → Sl w4.G σ2 ((wipeD ds (own.map (·.2))).set j (some (κ y))) → BEv X scope σ2 w4 elt (υ y))
    (ok : BlkOk X.N X.env.scope scope own := by first | exact blkOk_by (by decide +kernel) | exact blkOk_by (by dsimp only [cxOf, Cx.nox, Cx.wish, envOfC, Cx.blk, compEnvC]; decide +kernel)) (hb : BN X scope j x := by first | exact ⟨rfl, .inl rfl⟩ | exact ⟨rfl, .inr ⟨rfl, rfl⟩⟩) (hj : j ∈ own.map (·.2) := by decide) (hf : ∀ x, foldedSetIterable iter X.env x = pure x := by intro _; rfl) :
    Ev X σ w (.ListComp elt [⟨.Name x tp, iter, [], 0⟩] scope pos) (lstT X.K (xs.map υ)) :=
  (lcMV own j υ hc hN S hi hz hs ok hb hj hf).ev
theorem lcifGMV {elt iter test : Expr} {x : Str} {tp : Pos} {scope : Scope} {xs : List α} {κ : α → Ty} (own : List (Str × Nat)) (j : Nat) (b : α → Bool) (υ : α → Ty) (hc : X.calm = true) (hN : X.N.Nodup) (S : Sl w.G σ ds) (hi : IvG X σ w (.Name x tp) iter (xs.map κ)) (hz : xs.length ≤ 1000000)
    (ht : ∀ (i : Nat) y σ2 w4, xs[i]? = some y → Grow w w4 → Sl w4.G σ2 ((wipeD ds (own.map (·.2))).set j (some (κ y))) → BTv X scope σ2 w4 test (b y))
    (hs : ∀ (i : Nat) y σ2 w4, xs[i]? = some y → b y = true → Grow w w4 → Sl w4.G σ2 ((wipeD ds (own.map (·.2))).set j (some (κ y))) → BEv X scope σ2 w4 elt (υ y))
    (ok : BlkOk X.N X.env.scope scope own := by first | exact blkOk_by (by decide +kernel) | exact blkOk_by (by dsimp only [cxOf, Cx.nox, Cx.wish, envOfC, Cx.blk, compEnvC]; decide +kernel)) (hb : BN X scope j x := by first | exact ⟨rfl, .inl rfl⟩ | exact ⟨rfl, .inr ⟨rfl, rfl⟩⟩) (hj : j ∈ own.map (·.2) := by decide) (hf : ∀ x, foldedSetIterable iter X.env x = pure x := by intro _; rfl) :
    LcV X σ w (.ListComp elt [⟨.Name x tp, iter, [test], 0⟩] scope pos) (lstT X.K ((xs.filter b).map υ)) := by
  have h := lcifGV (pos := pos) own j (fun (i : Nat) => elimO false b xs[i]?) (fun (i : Nat) => elimO (ex .non) υ xs[i]?) hc hN S hi (by rw [List.length_map]; exact hz) (fun i τ σ2 w4 h1 h2 h3 => by
    obtain ⟨y, e1, e2⟩ := at_map h1
    rw [e1]
    rw [e2] at h3
    exact ht i y σ2 w4 e1 h2 h3) (fun i τ σ2 w4 h1 hb h2 h3 => by
    obtain ⟨y, e1, e2⟩ := at_map h1
    rw [e1] at hb ⊢
    rw [e2] at h3
    exact hs i y σ2 w4 e1 hb h2 h3) ok hb hj hf
  unfold keptT at h
  rw [List.length_map, range_kept] at h
  exact h
theorem lcifMV {elt iter test : Expr} {x : Str} {tp : Pos} {scope : Scope} {xs : List α} {κ : α → Ty} (own : List (Str × Nat)) (j : Nat) (b : α → Bool) (υ : α → Ty) (hc : X.calm = true) (hN : X.N.Nodup) (S : Sl w.G σ ds) (hi : Iv X σ w (.Name x tp) iter (xs.map κ)) (hz : xs.length ≤ 1000000)
    (ht : ∀ (i : Nat) y σ2 w4, xs[i]? = some y → Grow w w4 → Sl w4.G σ2 ((wipeD ds (own.map (·.2))).set j (some (κ y))) → BTv X scope σ2 w4 test (b y))
    (hs : ∀ (i : Nat) y σ2 w4, xs[i]? = some y → b y = true → Grow w w4 → Sl w4.G σ2 ((wipeD ds (own.map (·.2))).set j (some (κ y))) → BEv X scope σ2 w4 elt (υ y))
    (ok : BlkOk X.N X.env.scope scope own := by first | exact blkOk_by (by decide +kernel) | exact blkOk_by (by dsimp only [cxOf, Cx.nox, Cx.wish, envOfC, Cx.blk, compEnvC]; decide +kernel)) (hb : BN X scope j x := by first | exact ⟨rfl, .inl rfl⟩ | exact ⟨rfl, .inr ⟨rfl, rfl⟩⟩) (hj : j ∈ own.map (·.2) := by decide) (hf : ∀ x, foldedSetIterable iter X.env x = pure x := by intro _; rfl) :
    LcV X σ w (.ListComp elt [⟨.Name x tp, iter, [test], 0⟩] scope pos) (lstT X.K ((xs.filter b).map υ)) :=
  lcifGMV own j b υ hc hN S hi.wk hz ht hs ok hb hj hf
theorem lcifM {elt iter test : Expr} {x : Str} {tp : Pos} {scope : Scope} {xs : List α} {κ : α → Ty} (own : List (Str × Nat)) (j : Nat) (b : α → Bool) (υ : α → Ty) (hc : X.calm = true) (hN : X.N.Nodup) (S : Sl w.G σ ds) (hi : Iv X σ w (.Name x tp) iter (xs.map κ)) (hz : xs.length ≤ 1000000)
    (ht : ∀ (i : Nat) y σ2 w4, xs[i]? = some y → Grow w w4 → Sl w4.G σ2 ((wipeD ds (own.map (·.2))).set j (some (κ y))) → BTv X scope σ2 w4 test (b y))
    (hs : ∀ (i : Nat) y σ2 w4, xs[i]? = some y → b y = true → Grow w w4 → Sl w4.G σ2 ((wipeD ds (own.map (·.2))).set j (some (κ y))) → BEv X scope σ2 w4 elt (υ y))
    (ok : BlkOk X.N X.env.scope scope own := by first | exact blkOk_by (by decide +kernel) | exact blkOk_by (by dsimp only [cxOf, Cx.nox, Cx.wish, envOfC, Cx.blk, compEnvC]; decide +kernel)) (hb : BN X scope j x := by first | exact ⟨rfl, .inl rfl⟩ | exact ⟨rfl, .inr ⟨rfl, rfl⟩⟩) (hj : j ∈ own.map (·.2) := by decide) (hf : ∀ x, foldedSetIterable iter X.env x = pure x := by intro _; rfl) :
    Ev X σ w (.ListComp elt [⟨.Name x tp, iter, [test], 0⟩] scope pos) (lstT X.K ((xs.filter b).map υ)) :=
  (lcifMV own j b υ hc hN S hi hz ht hs ok hb hj hf).ev
/-- for x in xs: .. -/
theorem w_forM {iter : Expr} {x : Str} {tp : Pos} {xs : List α} {κ : α → Ty} (j : Nat) (hc : X.calm = true) (hp : PassesOwn (model X.prog X.w) X.A X.env X.xe) (hN : X.N.Nodup) (hi : Iv X σ w (.Name x tp) iter (xs.map κ)) (I : Nat → L2.St → Wd → Prop) (h0 : ∀ w', Grow w w' → I 0 σ w')
    (hs : ∀ (i : Nat) y σ' w3 w4 v, xs[i]? = some y → I i σ' w3 → Grow w3 w4 → (κ y).p v w4.G → wS X body { D with nx := Nxt I w4 (i + 1), ct := Nxt I w4 (i + 1), bk := wS X rest D } (σ'.set j (some v)) w4.H)
    (hd : ∀ σ' w', I xs.length σ' w' → wS X rest D σ' w'.H) (hj : X.N[j]? = some x := by rfl) (hx : Loc X.env.scope x := by first | exact Or.inl rfl | exact Or.inr rfl) (hf : ∀ x, foldedSetIterable iter X.env x = pure x := by intro _; rfl)
    (hfn : X.fn x = true ∨ X.env.scope.names.lookup x = some .local := by first | exact .inl rfl | exact .inr rfl) : wS X (.For (.Name x tp) iter body [] pos :: rest) D σ w.H :=
  w_for j hc hp hN hi I h0 (fun i τ σ' w3 w4 v h1 h2 h3 h4 => by
    obtain ⟨y, e1, e2⟩ := at_map h1
    rw [e2] at h4
    exact hs i y σ' w3 w4 v e1 h2 h3 h4) (fun σ' w' h => hd σ' w' (by rw [List.length_map] at h; exact h)) hj hx hf hfn
theorem w_for2M {iter : Expr} {x y : Str} {px py tp : Pos} {kk : Nat} {xs : List α} {κ1 κ2 : α → Ty} (j k : Nat) (hc : X.calm = true) (hp : PassesOwn (model X.prog X.w) X.A X.env X.xe) (hN : X.N.Nodup) (hi : Iv X σ w (.Tuple [.Name x px, .Name y py] kk tp) iter (xs.map fun z => tupT X.K [κ1 z, κ2 z])) (I : Nat → L2.St → Wd → Prop) (h0 : ∀ w', Grow w w' → I 0 σ w')
    (hs : ∀ (i : Nat) z σ' w3 w4 v1 v2, xs[i]? = some z → I i σ' w3 → Grow w3 w4 → (κ1 z).p v1 w4.G → (κ2 z).p v2 w4.G → wS X body { D with nx := Nxt I w4 (i + 1), ct := Nxt I w4 (i + 1), bk := wS X rest D } ((σ'.set j (some v1)).set k (some v2)) w4.H)
    (hd : ∀ σ' w', I xs.length σ' w' → wS X rest D σ' w'.H) (hj : X.N[j]? = some x := by rfl) (hk : X.N[k]? = some y := by rfl) (hx : Loc X.env.scope x := by first | exact Or.inl rfl | exact Or.inr rfl) (hy : Loc X.env.scope y := by first | exact Or.inl rfl | exact Or.inr rfl)
    (hf : ∀ x, foldedSetIterable iter X.env x = pure x := by intro _; rfl) (hfn : X.fn x = true ∨ X.env.scope.names.lookup x = some .local := by first | exact .inl rfl | exact .inr rfl) (hfn2 : X.fn y = true ∨ X.env.scope.names.lookup y = some .local := by first | exact .inl rfl | exact .inr rfl) :
    wS X (.For (.Tuple [.Name x px, .Name y py] kk tp) iter body [] pos :: rest) D σ w.H :=
  w_for2 j k hc hp hN hi I h0 (fun i τ σ' w3 w4 h1 h2 h3 => by
    obtain ⟨z, e1, e2⟩ := at_map h1
    exact ⟨_, _, e2, fun v1 v2 a1 a2 => hs i z σ' w3 w4 v1 v2 e1 h2 h3 a1 a2⟩) (fun σ' w' h => hd σ' w' (by rw [List.length_map] at h; exact h)) hj hk hx hy hf hfn hfn2
theorem Iv.eq {tg iter : Expr} {τs us : List Ty} (h : Iv X σ w tg iter τs) (e : τs = us) : Iv X σ w tg iter us := e ▸ h
/-- data lists and tuples walked -/
theorem ivL {tg : Expr} {xs : List PyData} (h : Dv X σ w e (.list xs)) : Iv X σ w tg e (xs.map (dat X.K)) := iv_list (asL h)
theorem ivT {tg : Expr} {xs : List PyData} (h : Dv X σ w e (.tuple xs)) : Iv X σ w tg e (xs.map (dat X.K)) := iv_tup (asT h)
theorem ivR {tg : Expr} {p : Pos} {n : Nat} (hm : X.mg "range" = none) (h : Dv X σ w e (.int n)) (hb : n ≤ 1000000) (hg : Gl X "range" := by rfl) (hs : starEach [e] X.env = [(false, eval e X.env)] := by rfl) :
    Iv X σ w tg (.Call (.Name "range" p) [e] [] pos) ((List.range n).map fun i => dat X.K (.int (i : Nat))) := (iv_rng1 hm h (by omega) hg hs).eq (by
  unfold rngT
  rw [Int.toNat_natCast]
  refine List.map_congr_left fun i _ => ?_
  rw [Int.zero_add, Int.mul_one])
end
end K27
/-! ## Core9 -/
/-! The calculus, ninth part: a list or a tuple of data, alike; ways to change what is said. -/
namespace K27
open PySem L2 PySem.Spec PyProof.Rows
def sqD (l : Bool) (xs : List PyData) : PyData := match l with
  | true => .list xs
  | false => .tuple xs
section
variable {X : Cx} {e a b : Expr} {es : List Expr} {σ : L2.St} {w w' : Wd} {τ τ' : Ty} {pos : Pos} {ds : List (Option Ty)} {rest body : List Stmt} {D : Ends} {α : Type}
theorem eqE {d d' : PyData} (i : d = d') (h : Dv X σ w e d) : Dv X σ w e d' := i ▸ h
theorem eqT {c c' : Bool} (i : c = c') (h : Tv X σ w e c) : Tv X σ w e c' := i ▸ h
theorem eqW {c c' : Bool} (i : c = c') (h : TvW X σ w e c) : TvW X σ w e c' := i ▸ h
theorem eqL {τs us : List Ty} (i : τs = us) (h : Ev X σ w e (lstT X.K τs)) : Ev X σ w e (lstT X.K us) := i ▸ h
theorem eqTu {τs us : List Ty} (i : τs = us) (h : Ev X σ w e (tupT X.K τs)) : Ev X σ w e (tupT X.K us) := i ▸ h
theorem eqI_ {tg iter : Expr} {τs us : List Ty} (e : τs = us) (h : Iv X σ w tg iter τs) : Iv X σ w tg iter us := e ▸ h
theorem tnT (h : Tv X σ w a false) : Tv X σ w (.UnaryOp .Not a pos) true := t_not h
theorem tnF (h : Tv X σ w a true) : Tv X σ w (.UnaryOp .Not a pos) false := t_not h
theorem tvB {c d : Bool} (i : c = d) (h : Dv X σ w e (.bool c)) (he : ∀ whole, isTrue e X.env whole = (do let v ← whole; standAt e.pos; holding [v] (truthy v)) := by intro _; rfl) : Tv X σ w e d := i ▸ t_val h he
theorem atI_nat {α : Type} {xs : List α} {i : Nat} {x : α} (h : xs[i]? = some x) : atI xs (i : Int) = some x := by
  have hl : i < xs.length := by
    rcases Nat.lt_or_ge i xs.length with q | q
    · exact q
    · rw [List.getElem?_eq_none q] at h
      cases h
  unfold atI ixN
  rw [if_pos (by omega), if_pos (by omega), Int.toNat_natCast]
  exact h
theorem ww {c : Bool} (h : TvW X σ w e c) : Tv X σ w e c := h.t
theorem lenS {l : Bool} {xs : List PyData} {p : Pos} (hm : X.mg "len" = none) (ha : Dv X σ w e (sqD l xs)) (hg : Gl X "len" := by rfl) (he : starEach [e] X.env = (false, eval e X.env) :: starEach [] X.env := by rfl) : Dv X σ w (.Call (.Name "len" p) [e] [] pos) (.int (xs.length : Nat)) := by
  cases l with
  | true => exact lenLD hm ha hg he
  | false => exact lenTD hm ha hg he
theorem ivS {tg : Expr} {l : Bool} {xs : List PyData} (h : Dv X σ w e (sqD l xs)) : Iv X σ w tg e (xs.map (dat X.K)) := by
  cases l with
  | true => exact iv_list (asL h)
  | false => exact iv_tup (asT h)
theorem ixS {l : Bool} {xs : List PyData} {d : PyData} {i : Int} (ha : Dv X σ w a (sqD l xs)) (hb : Dv X σ w b (.int i)) (hi : atI xs i = some d) (hs : PlainIx b := by intro _ _; rfl) : Dv X σ w (.Subscript a b pos) d := by
  cases l with
  | true => exact ixLD ha hb hi hs
  | false => exact ixTD ha hb hi hs
theorem tupS {l : Bool} {xs : List PyData} {p : Pos} (hm : X.mg "tuple" = none) (ha : Dv X σ w e (sqD l xs)) (hg : Gl X "tuple" := by rfl) (he : starEach [e] X.env = (false, eval e X.env) :: starEach [] X.env := by rfl) : Dv X σ w (.Call (.Name "tuple" p) [e] [] pos) (.tuple xs) := by
  cases l with
  | true => exact ofT (tuple_ hm (.inl (asL ha)) hg he)
  | false => exact ofT (tuple_ hm (.inr (asT ha)) hg he)
theorem iv_zipS {elts : List Expr} {kk : Nat} {tpos p p2 p3 p4 : Pos} {j : Nat} {l : Bool} {xs : List PyData} (hne : xs ≠ []) (hm : X.mg "zip" = none) (h : Dv X σ w a (sqD l xs)) (h2 : Dv X σ w b (sqD l xs)) (hg : Gl X "zip" := by rfl)
    (hs : starEach [a, .Subscript b (.Slice (some (.Constant (.int 1) j p3)) none none p2) p4] X.env = (false, eval a X.env) :: starEach [.Subscript b (.Slice (some (.Constant (.int 1) j p3)) none none p2) p4] X.env := by rfl)
    (hs2 : starEach [.Subscript b (.Slice (some (.Constant (.int 1) j p3)) none none p2) p4] X.env = (false, eval (.Subscript b (.Slice (some (.Constant (.int 1) j p3)) none none p2) p4) X.env) :: starEach [] X.env := by rfl) (hpl : (backTo pos (starEach [.Subscript b (.Slice (some (.Constant (.int 1) j p3)) none none p2) p4] X.env)).any (·.1) = false := by rfl) :
    Iv X σ w (.Tuple elts kk tpos) (.Call (.Name "zip" p) [a, .Subscript b (.Slice (some (.Constant (.int 1) j p3)) none none p2) p4] [] pos) (zipK X.K (xs.map (dat X.K)) ((xs.map (dat X.K)).drop 1)) := by
  cases l with
  | true => exact iv_zip hm (asL h) (slL (asL h2)) hg hs hs2 hpl
  | false => exact iv_zipT hm (asT h) (slT (asT h2) (by simpa using hne)) hg hs hs2 hpl
end
end K27
/-! ## Math1 -/
/-! The mathematics, first part: tables, logs, layers of pairs, their rounds. -/
namespace K27

abbrev Tb := List (List Nat)
def stp (T : Tb) (s d : Nat) : Nat := (T.getD d []).getD s 0
def run (T : Tb) (s : Nat) (w : List Nat) : Nat := w.foldl (fun s d => stp T s d) s
structure MOk (T : Tb) (n : Nat) : Prop where
  n1 : 1 ≤ n
  n4 : n ≤ 4
  d1 : 1 ≤ T.length
  d3 : T.length ≤ 3
  len : ∀ t ∈ T, t.length = n
  lt : ∀ t ∈ T, ∀ x ∈ t, x < n
def Log (T : Tb) (w : List Nat) : Prop := ∀ d ∈ w, d < T.length
theorem run_nil (T : Tb) (s : Nat) : run T s [] = s := rfl
theorem run_cons (T : Tb) (s d : Nat) (w : List Nat) : run T s (d :: w) = run T (stp T s d) w := rfl
theorem run_append (T : Tb) (s : Nat) (u w : List Nat) : run T s (u ++ w) = run T (run T s u) w := by
  unfold run
  rw [List.foldl_append]
theorem run_snoc (T : Tb) (s d : Nat) (w : List Nat) : run T s (w ++ [d]) = stp T (run T s w) d := by
  rw [run_append]
  rfl
theorem MOk.stp_lt {T : Tb} {n : Nat} (M : MOk T n) {s d : Nat} (hs : s < n) (hd : d < T.length) : stp T s d < n := by
  unfold stp
  have h1 : T.getD d [] = T[d] := by simp [List.getD, hd]
  have hm : T[d] ∈ T := List.getElem_mem hd
  have hl := M.len _ hm
  rw [h1]
  have h2 : T[d].getD s 0 = T[d][s]'(by omega) := by
    rw [List.getD_eq_getElem?_getD, List.getElem?_eq_getElem (by omega)]
    rfl
  rw [h2]
  exact M.lt _ hm _ (List.getElem_mem _)
theorem MOk.run_lt {T : Tb} {n : Nat} (M : MOk T n) : ∀ {w : List Nat} {s : Nat}, s < n → Log T w → run T s w < n
  | [], _, hs, _ => hs
  | d :: w, s, hs, hw => by
    rw [run_cons]
    exact M.run_lt (M.stp_lt hs (hw d (by simp))) fun x hx => hw x (by simp [hx])
theorem Log.append {T : Tb} {u w : List Nat} (hu : Log T u) (hw : Log T w) : Log T (u ++ w) := fun d hd =>
  (List.mem_append.mp hd).elim (hu d) (hw d)
theorem Log.snoc {T : Tb} {w : List Nat} {d : Nat} (hw : Log T w) (hd : d < T.length) : Log T (w ++ [d]) :=
  hw.append fun x hx => by
    have e : x = d := by simpa using hx
    rw [e]
    exact hd
theorem Log.left {T : Tb} {u w : List Nat} (h : Log T (u ++ w)) : Log T u := fun d hd => h d (List.mem_append_left _ hd)
theorem Log.right {T : Tb} {u w : List Nat} (h : Log T (u ++ w)) : Log T w := fun d hd => h d (List.mem_append_right _ hd)

/-- a log of this length leads some state to p, and p elsewhere -/
def Parts (T : Tb) (n p L : Nat) : Prop := ∃ w q, Log T w ∧ w.length = L ∧ q < n ∧ run T q w = p ∧ run T p w ≠ p

abbrev Pr := Nat × Nat
def all16 : List Pr := (List.range 4).flatMap fun a => (List.range 4).map fun b => (a, b)
theorem mem_all16 (x : Pr) : x ∈ all16 ↔ x.1 < 4 ∧ x.2 < 4 := by
  obtain ⟨a, b⟩ := x
  simp [all16, List.mem_flatMap, List.mem_map, List.mem_range]
def canon (S : List Pr) : List Pr := all16.filter fun x => decide (x ∈ S)
theorem mem_canon {S : List Pr} (h : ∀ x ∈ S, x.1 < 4 ∧ x.2 < 4) (x : Pr) : x ∈ canon S ↔ x ∈ S := by
  unfold canon
  rw [List.mem_filter, decide_eq_true_eq, mem_all16]
  exact ⟨fun q => q.2, fun q => ⟨h x q, q⟩⟩
/-- the pairs one deed on, unordered -/
def imgs (T : Tb) (l : List Pr) : List Pr := l.flatMap fun x => T.map fun t => (t.getD x.1 0, t.getD x.2 0)
def nextL (T : Tb) (l : List Pr) : List Pr := canon (imgs T l)
def lay0 (n p : Nat) : List Pr := (List.range n).map fun q => (p, q)
def lay (T : Tb) (n p : Nat) : Nat → List Pr
  | 0 => lay0 n p
  | L + 1 => nextL T (lay T n p L)
theorem mem_imgs {T : Tb} {l : List Pr} {y : Pr} : y ∈ imgs T l ↔ ∃ x ∈ l, ∃ d, d < T.length ∧ y = (stp T x.1 d, stp T x.2 d) := by
  unfold imgs
  simp only [List.mem_flatMap, List.mem_map]
  constructor
  · rintro ⟨x, hx, t, ht, e⟩
    obtain ⟨d, hd, e2⟩ := List.getElem_of_mem ht
    refine ⟨x, hx, d, hd, ?_⟩
    have e3 : T.getD d [] = t := by
      rw [List.getD_eq_getElem?_getD, List.getElem?_eq_getElem hd, ← e2]
      rfl
    unfold stp
    rw [e3, ← e]
  · rintro ⟨x, hx, d, hd, e⟩
    refine ⟨x, hx, T[d], List.getElem_mem hd, ?_⟩
    have e3 : T.getD d [] = T[d] := by
      rw [List.getD_eq_getElem?_getD, List.getElem?_eq_getElem hd]
      rfl
    unfold stp at e
    rw [e3] at e
    exact e.symm
theorem mem_lay {T : Tb} {n : Nat} (M : MOk T n) {p : Nat} (hp : p < n) : ∀ (L : Nat) (x : Pr), x ∈ lay T n p L ↔ ∃ w q, Log T w ∧ w.length = L ∧ q < n ∧ x = (run T p w, run T q w)
  | 0, x => by
    unfold lay lay0
    simp only [List.mem_map, List.mem_range]
    constructor
    · rintro ⟨q, hq, e⟩
      exact ⟨[], q, fun d hd => (nomatch hd), rfl, hq, e.symm⟩
    · rintro ⟨w, q, _, hw, hq, e⟩
      have hw' : w = [] := List.length_eq_zero_iff.mp hw
      subst hw'
      exact ⟨q, hq, e.symm⟩
  | L + 1, x => by
    have ih := mem_lay M hp L
    have hb : ∀ y ∈ imgs T (lay T n p L), y.1 < 4 ∧ y.2 < 4 := by
      intro y hy
      obtain ⟨z, hz, d, hd, e⟩ := mem_imgs.mp hy
      obtain ⟨w, q, hw, _, hq, ez⟩ := (ih z).mp hz
      have h4 := M.n4
      have h1 := M.stp_lt (M.run_lt hp hw) hd
      have h2 := M.stp_lt (M.run_lt hq hw) hd
      rw [e, ez]
      exact ⟨Nat.lt_of_lt_of_le h1 h4, Nat.lt_of_lt_of_le h2 h4⟩
    show x ∈ canon (imgs T (lay T n p L)) ↔ _
    rw [mem_canon hb, mem_imgs]
    constructor
    · rintro ⟨z, hz, d, hd, e⟩
      obtain ⟨w, q, hw, hl, hq, ez⟩ := (ih z).mp hz
      refine ⟨w ++ [d], q, hw.snoc hd, by rw [List.length_append, hl]; rfl, hq, ?_⟩
      rw [run_snoc, run_snoc, e, ez]
    · rintro ⟨w, q, hw, hl, hq, e⟩
      have hne : w ≠ [] := by
        intro z
        rw [z] at hl
        simp at hl
      obtain ⟨u, d, eu⟩ : ∃ u d, w = u ++ [d] := ⟨w.dropLast, w.getLast hne, (List.dropLast_concat_getLast hne).symm⟩
      subst eu
      refine ⟨(run T p u, run T q u), (ih _).mpr ⟨u, q, hw.left, by simpa using hl, hq, rfl⟩, d, hw d (by simp), ?_⟩
      rw [e, run_snoc, run_snoc]
theorem lay_lt {T : Tb} {n : Nat} (M : MOk T n) {p : Nat} (hp : p < n) {L : Nat} {x : Pr} (h : x ∈ lay T n p L) : x.1 < n ∧ x.2 < n := by
  obtain ⟨w, q, hw, _, hq, e⟩ := (mem_lay M hp L x).mp h
  rw [e]
  exact ⟨M.run_lt hp hw, M.run_lt hq hw⟩
def endsL (l : List Pr) (p : Nat) : List Pr := l.filter fun x => decide (x.2 = p) && decide (x.1 ≠ p)
theorem ends_iff {T : Tb} {n : Nat} (M : MOk T n) {p : Nat} (hp : p < n) (L : Nat) : endsL (lay T n p L) p ≠ [] ↔ Parts T n p L := by
  constructor
  · intro h
    obtain ⟨x, hx⟩ := List.exists_mem_of_ne_nil _ h
    obtain ⟨h1, h2⟩ := List.mem_filter.mp hx
    simp only [Bool.and_eq_true, decide_eq_true_eq] at h2
    obtain ⟨w, q, hw, hl, hq, e⟩ := (mem_lay M hp L x).mp h1
    rw [e] at h2
    exact ⟨w, q, hw, hl, hq, h2.1, h2.2⟩
  · rintro ⟨w, q, hw, hl, hq, h1, h2⟩ z
    have hm : (run T p w, run T q w) ∈ endsL (lay T n p L) p := by
      refine List.mem_filter.mpr ⟨(mem_lay M hp L _).mpr ⟨w, q, hw, hl, hq, rfl⟩, ?_⟩
      simp only [Bool.and_eq_true, decide_eq_true_eq]
      exact ⟨h1, h2⟩
    rw [z] at hm
    cases hm

/-! ### rounds -/
theorem lay_add {T : Tb} {n p : Nat} {e c : Nat} (h : lay T n p (e + c) = lay T n p e) : ∀ k, lay T n p (e + k + c) = lay T n p (e + k)
  | 0 => h
  | k + 1 => by
    have ih := lay_add h k
    have e1 : e + (k + 1) + c = (e + k + c) + 1 := by omega
    have e2 : e + (k + 1) = (e + k) + 1 := by omega
    rw [e1, e2]
    show nextL T (lay T n p (e + k + c)) = nextL T (lay T n p (e + k))
    rw [ih]
theorem per_mul {α : Type} {f : Nat → α} {e c : Nat} (h : ∀ L, e ≤ L → f (L + c) = f L) : ∀ (k L : Nat), e ≤ L → f (L + k * c) = f L
  | 0, L, _ => by rw [Nat.zero_mul]; rfl
  | k + 1, L, hL => by
    have e1 : L + (k + 1) * c = (L + k * c) + c := by rw [Nat.succ_mul]; omega
    rw [e1, h _ (by omega), per_mul h k L hL]
theorem per_mod {α : Type} {f : Nat → α} {e c : Nat} (h : ∀ L, e ≤ L → f (L + c) = f L) (L : Nat) (hL : e ≤ L) : f (e + (L - e) % c) = f L := by
  have e1 : L = (e + (L - e) % c) + (L - e) / c * c := by
    have := Nat.mod_add_div (L - e) c
    rw [Nat.mul_comm] at this
    omega
  have := per_mul h ((L - e) / c) (e + (L - e) % c) (by omega)
  rw [← e1] at this
  exact this.symm
/-- the layers from e on come round behind c -/
structure Rnd (T : Tb) (n p e c : Nat) : Prop where
  c1 : 1 ≤ c
  eq : lay T n p (e + c) = lay T n p e
theorem Rnd.per {T : Tb} {n p e c : Nat} (r : Rnd T n p e c) : ∀ L, e ≤ L → lay T n p (L + c) = lay T n p L := fun L hL => by
  have := lay_add r.eq (L - e)
  have e1 : e + (L - e) = L := by omega
  rw [e1] at this
  exact this
theorem Rnd.at {T : Tb} {n p e c : Nat} (r : Rnd T n p e c) {L : Nat} (hL : e ≤ L) : lay T n p (e + (L - e) % c) = lay T n p L := per_mod r.per L hL
theorem Rnd.parts {T : Tb} {n p e c : Nat} (r : Rnd T n p e c) (M : MOk T n) (hp : p < n) (L : Nat) (hL : e ≤ L) : Parts T n p (L + c) = Parts T n p L := by
  apply propext
  rw [← ends_iff M hp, ← ends_iff M hp, r.per L hL]

/-! ### which numbers are enough -/
/-- no multiple of m (below the bound) parts p -/
def Enough1 (P : Nat → Prop) (m : Nat) (bound : Option Nat) : Prop := ∀ k, 1 ≤ k → (∀ b, bound = some b → k * m < b) → ¬ P (k * m)
def Enough (T : Tb) (n : Nat) (S : List Nat) (m : Nat) (bound : Option Nat) : Prop := ∀ p ∈ S, Enough1 (Parts T n p) m bound
/-- the multiples up to e + r, r a multiple of m and of c, tell all -/
theorem enough1_of {P : Nat → Prop} {e c m r : Nat} (per : ∀ L, e ≤ L → P (L + c) = P L) (hr1 : ∃ j, r = j * m) (hr2 : ∃ j, r = j * c) (hr : 1 ≤ r)
    (h : ∀ k, 1 ≤ k → k * m ≤ e + r → ¬ P (k * m)) : Enough1 P m none := by
  intro k
  induction k using Nat.strongRecOn with
  | ind k ih =>
    intro hk _ hP
    by_cases hle : k * m ≤ e + r
    · exact h k hk hle hP
    · obtain ⟨j1, e1⟩ := hr1
      obtain ⟨j2, e2⟩ := hr2
      have hlt : j1 * m < k * m := by omega
      have hjk : j1 < k := Nat.lt_of_mul_lt_mul_right hlt
      have h4 : (k - j1) * m = k * m - r := by rw [Nat.sub_mul, e1]
      have hj1 : 1 ≤ j1 := by
        rcases Nat.eq_zero_or_pos j1 with z | z
        · rw [z, Nat.zero_mul] at e1
          omega
        · exact z
      refine ih (k - j1) (by omega) (by omega) (fun b hb => by cases hb) ?_
      have h5 := per_mul (f := P) per j2 (k * m - r) (by omega)
      have h6 : k * m - r + j2 * c = k * m := by omega
      rw [h6] at h5
      rw [h4, ← h5]
      exact hP
theorem enough1_bound {P : Nat → Prop} {m b : Nat} (hb : 1 ≤ b) (h : ∀ k, 1 ≤ k → k * m ≤ b - 1 → ¬ P (k * m)) : Enough1 P m (some b) := fun k hk hb' => h k hk (by have := hb' b rfl; omega)
theorem Enough1.weaken {P : Nat → Prop} {m : Nat} {b b' : Option Nat} (h : Enough1 P m b') (hb : ∀ x, b' = some x → ∃ y, b = some y ∧ y ≤ x) : Enough1 P m b := fun k hk hk2 =>
  h k hk fun x hx => by
    obtain ⟨y, e, hy⟩ := hb x hx
    exact Nat.lt_of_lt_of_le (hk2 y e) hy
theorem enough_self {T : Tb} {n : Nat} {S : List Nat} {b : Nat} : Enough T n S b (some b) := fun p _ k hk hb hP => by
  have := hb b rfl
  have h2 : 1 * b ≤ k * b := Nat.mul_le_mul_right b hk
  omega
/-- a number is enough for none just if the great multiples of the round part: N a multiple of c, not below e, 1 at least -/
theorem enough1_all {P : Nat → Prop} {e c N : Nat} (per : ∀ L, e ≤ L → P (L + c) = P L) (hN : ∃ j, N = j * c) (heN : e ≤ N) (hP : ¬ P N) {k : Nat} (hk : 1 ≤ k) : ¬ P (k * N) := by
  obtain ⟨j, ej⟩ := hN
  have e1 : k * N = N + ((k - 1) * j) * c := by
    rw [Nat.mul_assoc, ← ej]
    obtain ⟨i, rfl⟩ : ∃ i, k = i + 1 := ⟨k - 1, by omega⟩
    rw [Nat.succ_mul, Nat.add_sub_cancel]
    omega
  rw [e1, per_mul per _ N heN]
  exact hP
theorem parts_all {P : Nat → Prop} {e c N : Nat} (per : ∀ L, e ≤ L → P (L + c) = P L) (hN : ∃ j, N = j * c) (heN : e ≤ N) (hP : P N) {k : Nat} (hk : 1 ≤ k) : P (k * N) := by
  obtain ⟨j, ej⟩ := hN
  have e1 : k * N = N + ((k - 1) * j) * c := by
    rw [Nat.mul_assoc, ← ej]
    obtain ⟨i, rfl⟩ : ∃ i, k = i + 1 := ⟨k - 1, by omega⟩
    rw [Nat.succ_mul, Nat.add_sub_cancel]
    omega
  rw [e1, per_mul per _ N heN]
  exact hP
/-- two rounds of one thing agree where both are multiples of the round -/
theorem parts_two {P : Nat → Prop} {e c N e' c' N' : Nat} (per : ∀ L, e ≤ L → P (L + c) = P L) (hN : ∃ j, N = j * c) (heN : e ≤ N) (hN1 : 1 ≤ N)
    (per' : ∀ L, e' ≤ L → P (L + c') = P L) (hN' : ∃ j, N' = j * c') (heN' : e' ≤ N') (hN1' : 1 ≤ N') : P N ↔ P N' := by
  have a : P N → P (N' * N) := fun h => parts_all per hN heN h hN1'
  have b : ¬ P N → ¬ P (N' * N) := fun h => enough1_all per hN heN h hN1'
  have a' : P N' → P (N * N') := fun h => parts_all per' hN' heN' h hN1
  have b' : ¬ P N' → ¬ P (N * N') := fun h => enough1_all per' hN' heN' h hN1
  rw [Nat.mul_comm N N'] at a' b'
  constructor
  · intro h
    exact Classical.byContradiction fun z => b' z (a h)
  · intro h
    exact Classical.byContradiction fun z => b z (a' h)

/-! ### the least number -/
/-- what least_wrap hands back: none, or the least number that is enough -/
structure LeastIs (T : Tb) (n : Nat) (S : List Nat) (bound : Option Nat) (m : Nat) : Prop where
  m1 : 1 ≤ m
  en : Enough T n S m bound
  le : ∀ j, 1 ≤ j → j < m → ¬ Enough T n S j bound
theorem LeastIs.uniq {T : Tb} {n : Nat} {S : List Nat} {b : Option Nat} {m m' : Nat} (h : LeastIs T n S b m) (h' : LeastIs T n S b m') : m = m' := by
  rcases Nat.lt_trichotomy m m' with z | z | z
  · exact absurd h.en (h'.le m h.m1 z)
  · exact z
  · exact absurd h'.en (h.le m' h'.m1 z)
theorem LeastIs.mono {T : Tb} {n : Nat} {S : List Nat} {b b' : Option Nat} {m m' : Nat} (h : LeastIs T n S b m) (h' : LeastIs T n S b' m') (hb : ∀ x, b' = some x → ∃ y, b = some y ∧ y ≤ x) : m ≤ m' := by
  refine Nat.le_of_not_lt fun z => h.le m' h'.m1 z ?_
  exact fun p hp => (h'.en p hp).weaken hb
theorem LeastIs.le_of {T : Tb} {n : Nat} {S : List Nat} {b : Option Nat} {m j : Nat} (h : LeastIs T n S b m) (hj : 1 ≤ j) (e : Enough T n S j b) : m ≤ j :=
  Nat.le_of_not_lt fun z => h.le j hj z e
end K27
/-! ## Defs1 -/
/-! The small defs. -/
namespace K27
open PySem L2 PySem.Spec PyProof.Rows
section
variable {P : Program} {w : World} {K : PySem.W.Frag} {mg : Str → Option Value} {base : Heap}
/-! ### words -/
def isNum : PyData → Bool
  | .int i => decide (0 ≤ i)
  | _ => false
theorem int_or (d : PyData) : (∃ i, d = .int i) ∨ (isInt d = false ∧ isNum d = false) := by
  cases d with
  | int i => exact .inl ⟨i, rfl⟩
  | _ => exact .inr ⟨rfl, rfl⟩
abbrev CInt (P : Program) (w : World) (K : PySem.W.Frag) (mg : Str → Option Value) (base : Heap) : Prop := Cal P w K mg base 1 "is_integer" p_int (spOf (fun _ : PyData => True) (fun d => [dat K d]) (fun d => dat K (.bool (isInt d))))
abbrev CNum (P : Program) (w : World) (K : PySem.W.Frag) (mg : Str → Option Value) (base : Heap) : Prop := Cal P w K mg base 2 "is_number" p_num (spOf (fun _ : PyData => True) (fun d => [dat K d]) (fun d => dat K (.bool (isNum d))))
theorem c_num (D : DefAt K mg "is_number" sis_number p_num) (CI : CInt P w K mg base) : CNum P w K mg base :=
  def_ok (N := n_num) D sc_num (fun _ => rfl) fun f cdv A outer s H E d w0 Q σ hr _ S q => by
    show wS _ (_ :: _) _ _ _
    refine w_ret (τ := dat K (.bool (isNum d))) ?_ q
    rcases int_or d with ⟨i, e⟩ | ⟨e1, e2⟩
    · subst e
      exact vandT (call_c CI hr (.int i) True.intro (ac (nm 0 S) a0)) (v1 (ge (nm 0 S) ci))
    · exact eqE (congrArg _ e2.symm) (vandF (eqE (congrArg _ e1) (call_c CI hr d True.intro (ac (nm 0 S) a0))))
def isBel (d : PyData) (n : Int) : Bool := isNum d && match d with
  | .int i => decide (i < n)
  | _ => false
abbrev CBel (P : Program) (w : World) (K : PySem.W.Frag) (mg : Str → Option Value) (base : Heap) : Prop := Cal P w K mg base 3 "is_below" p_bel (spOf (fun _ : PyData × Int => True) (fun d => [dat K d.1, dat K (.int d.2)]) (fun d => dat K (.bool (isBel d.1 d.2))))
theorem c_bel (D : DefAt K mg "is_below" sis_below p_bel) (CN : CNum P w K mg base) : CBel P w K mg base :=
  def_ok (N := n_bel) D sc_bel (fun _ => rfl) fun f cdv A outer s H E d w0 Q σ hr _ S q => by
    obtain ⟨d, n⟩ := d
    show wS _ (_ :: _) _ _ _
    refine w_ret (τ := dat K (.bool (isBel d n))) ?_ q
    rcases int_or d with ⟨i, e⟩ | ⟨e1, e2⟩
    · subst e
      exact vand (call_c CN hr (.int i) True.intro (ac (nm 0 S) a0)) fun _ => v1 (lt (nm 0 S) (nm 1 S))
    · refine (vandF ((call_c CN hr d True.intro (ac (nm 0 S) a0)).eq (congrArg _ e2))).eq ?_
      unfold isBel
      rw [e2]
      rfl
def isSq : PyData → Bool
  | .list _ => true
  | .tuple _ => true
  | _ => false
abbrev CSeq (P : Program) (w : World) (K : PySem.W.Frag) (mg : Str → Option Value) (base : Heap) : Prop := Cal P w K mg base 1 "is_sequence" p_seq (spOf (fun _ : PyData => True) (fun d => [dat K d]) (fun d => dat K (.bool (isSq d))))
theorem c_seq (D : DefAt K mg "is_sequence" sis_sequence p_seq) (B : Bu mg) : CSeq P w K mg base :=
  def_ok (N := n_seq) D sc_seq (fun _ => rfl) fun f cdv A outer s H E d w0 Q σ hr _ S q => by
    show wS _ (_ :: _) _ _ _
    refine w_ret (τ := dat K (.bool (isSq d))) ?_ q
    refine eqE ?_ (isiT B.isinstance_ (nm 0 S) (gty B.list_ (by decide +kernel)) (gty B.tuple_ (by decide +kernel)) (kit_list d) (kit_tuple d))
    cases d <;> rfl
abbrev CTxt (P : Program) (w : World) (K : PySem.W.Frag) (mg : Str → Option Value) (base : Heap) : Prop := Cal P w K mg base 1 "is_text" p_txt (spOf (fun _ : PyData => True) (fun d => [dat K d]) (fun d => dat K (.bool (isSt d))))
theorem c_txt (D : DefAt K mg "is_text" sis_text p_txt) (B : Bu mg) : CTxt P w K mg base :=
  def_ok (N := n_txt) D sc_txt (fun _ => rfl) fun f cdv A outer s H E d w0 Q σ hr _ S q => by
    show wS _ (_ :: _) _ _ _
    exact w_ret (isi B.isinstance_ (nm 0 S) (gty B.str_ (by decide +kernel)) (kit_str d)) q
/-! ### is_ascending -/
def ascI : List Int → Bool
  | [] => true
  | [_] => true
  | x :: y :: r => decide (x < y) && ascI (y :: r)
def intsOf : List PyData → List Int
  | [] => []
  | .int i :: r => i :: intsOf r
  | _ :: r => 0 :: intsOf r
def isAscL (xs : List PyData) (n : Int) : Bool := (!xs.isEmpty && xs.all fun d => isBel d n) && ascI (intsOf xs)
def isAsc (d : PyData) (n : Int) : Bool := match d with
  | .list xs => isAscL xs n
  | .tuple xs => isAscL xs n
  | _ => false
theorem bel_int {d : PyData} {n : Int} (h : isBel d n = true) : ∃ i, d = .int i ∧ 0 ≤ i ∧ i < n := by
  cases d with
  | int i =>
    unfold isBel isNum at h
    rw [Bool.and_eq_true, decide_eq_true_eq, decide_eq_true_eq] at h
    exact ⟨i, rfl, h.1, h.2⟩
  | _ => exact absurd (show false = true from h) Bool.false_ne_true
theorem ints_all {n : Int} : ∀ {xs : List PyData}, (xs.all fun d => isBel d n) = true → xs = (intsOf xs).map PyData.int
  | [], _ => rfl
  | d :: r, h => by
    rw [List.all_cons, Bool.and_eq_true] at h
    obtain ⟨i, e, _⟩ := bel_int h.1
    subst e
    show PyData.int i :: r = PyData.int i :: (intsOf r).map PyData.int
    rw [← ints_all h.2]
def adj (ns : List Int) : List (Int × Int) := List.zip ns (ns.drop 1)
theorem asc_adj : ∀ ns : List Int, (adj ns).all (fun p => decide (p.1 < p.2)) = ascI ns
  | [] => rfl
  | [_] => rfl
  | x :: y :: r => by
    have ih := asc_adj (y :: r)
    show (decide (x < y) && (adj (y :: r)).all _) = (decide (x < y) && ascI (y :: r))
    rw [ih]
theorem zip_adj {K : PySem.W.Frag} (ns : List Int) : zipK K ((ns.map PyData.int).map (dat K)) (((ns.map PyData.int).map (dat K)).drop 1) = (adj ns).map fun p => tupT K [dat K (.int p.1), dat K (.int p.2)] := by
  have go : ∀ (as bs : List Int), zipK K ((as.map PyData.int).map (dat K)) ((bs.map PyData.int).map (dat K)) = (List.zip as bs).map fun p => tupT K [dat K (.int p.1), dat K (.int p.2)] := by
    intro as
    induction as with
    | nil => intro bs; rfl
    | cons a as ih =>
      intro bs
      cases bs with
      | nil => rfl
      | cons b bs =>
        show _ :: _ = _ :: _
        exact congrArg _ (ih bs)
  rw [← List.map_drop, ← List.map_drop]
  exact go ns (ns.drop 1)
abbrev CAsc (P : Program) (w : World) (K : PySem.W.Frag) (mg : Str → Option Value) (base : Heap) : Prop := Cal P w K mg base 4 "is_ascending" p_asc (spOf (fun d : PyData × Int => ∀ xs, (d.1 = .list xs ∨ d.1 = .tuple xs) → xs.length ≤ 1000) (fun d => [dat K d.1, dat K (.int d.2)]) (fun d => dat K (.bool (isAsc d.1 d.2))))
theorem sq_of {d : PyData} (h : isSq d = true) : ∃ l xs, d = sqD l xs := by
  cases d with
  | list xs => exact ⟨true, xs, rfl⟩
  | tuple xs => exact ⟨false, xs, rfl⟩
  | _ => cases h
theorem sq_sq (l : Bool) (xs : List PyData) : isSq (sqD l xs) = true := by cases l <;> rfl
theorem nt {b : Bool} (h : (!b) = true) : b = false := by cases b <;> first | rfl | cases h
theorem asc_sq (l : Bool) (xs : List PyData) (n : Int) : isAsc (sqD l xs) n = isAscL xs n := by cases l <;> rfl
theorem c_asc (D : DefAt K mg "is_ascending" sis_ascending p_asc) (B : Bu mg) (CB : CBel P w K mg base) (CS : CSeq P w K mg base) : CAsc P w K mg base :=
  def_ok (N := n_asc) D sc_asc (fun _ => rfl) fun f cdv A outer s H E d w0 Q σ hr hp S q => by
    obtain ⟨d, n⟩ := d
    show wS _ (_ :: _) _ _ _
    have out : ∀ w', Grow w0 w' → isAsc d n = false → Q (.bl false) w'.H := fun w' g e => q _ w' g (by
      show Dp K _ _ (PyData.bool (isAsc d n))
      rw [e]
      exact .bl false)
    by_cases hsq : isSq d = true
    · obtain ⟨l, xs, ed⟩ := sq_of hsq
      subst ed
      have hl : xs.length ≤ 1000 := hp xs (by cases l <;> simp [sqD])
      refine w_if (b := !(!xs.isEmpty && xs.all fun d => isBel d n)) (ww (eqW (c := decide (((xs.length : Nat) : Int) = 0) || !((xs.map fun d => isBel d n).all id)) ?_ (orF (t_not (t_val (eqE (congrArg _ (sq_sq l xs)) (call_c CS (hr.mono (by decide)) (sqD l xs) True.intro (ac (nm 0 S) a0))))) (or' (t_eqI (lenS B.len_ (nm 0 S)) ci) fun _ => or1 (t_not (t_val (all_ (bs := xs.map fun d => isBel d n) rfl B.all_
        (eqL (by rw [List.map_map]; rfl) (lcM (xs := xs) [("number", 2)] 2 (fun d => dat K (.bool (isBel d n))) rfl sc_asc.nd S (ivS (nm 0 S)) (by omega) (fun i y σ2 w4 hy g4 S4 s0 H0 C cl fp => call_c CB (hr.mono (by decide)) (y, n) True.intro (ac (nm 2 S4) (ac (nm 1 S4) a0)))))))))))) (fun hb w' g => ?_) (fun hb w' g => wS_nil ?_)
      · rw [List.all_map]
        cases xs with
        | nil => rfl
        | cons y r =>
          have : (((y :: r).length : Nat) : Int) ≠ 0 := by
            rw [List.length_cons]
            omega
          rw [decide_eq_false this]
          rfl
      · have hb : (!xs.isEmpty && xs.all fun d => isBel d n) = false := nt hb
        exact w_ret cb fun v w2 g2 hv => by
          rw [Dp.bool_iff hv]
          exact out w2 (g.trans g2) (by rw [asc_sq]; unfold isAscL; rw [hb]; rfl)
      · have hb : (!xs.isEmpty && xs.all fun d => isBel d n) = true := by
          cases q : (!xs.isEmpty && xs.all fun d => isBel d n) with
          | true => rfl
          | false => rw [q] at hb; cases hb
        have e2 : isAsc (sqD l xs) n = ascI (intsOf xs) := by
          rw [asc_sq]
          unfold isAscL
          rw [hb]
          rfl
        rw [Bool.and_eq_true] at hb
        have hx := ints_all hb.2
        have hne : xs ≠ [] := fun z => by rw [z] at hb; cases hb.1
        have S1 := S.mono g.g
        refine w_ret (τ := dat K (.bool (isAsc (sqD l xs) n))) ?_ fun v w2 g2 hv => q v w2 (g.trans g2) hv
        refine eqE (by rw [List.all_map, e2, ← asc_adj]; rfl) (all_ (bs := (adj (intsOf xs)).map fun p => decide (p.1 < p.2)) rfl B.all_ ?_)
        refine eqL ?_ (lc2 [("one", 3), ("other", 4)] 3 4 (fun (i : Nat) => elimO (ex .non) (fun p : Int × Int => dat K (.bool (decide (p.1 < p.2)))) (adj (intsOf xs))[i]?) rfl sc_asc.nd S1 (τs := (adj (intsOf xs)).map fun p => tupT K [dat K (.int p.1), dat K (.int p.2)]) ?_ ?_ ?_)
        · rw [List.length_map, range_map, List.map_map]
          rfl
        · refine eqI_ ?_ (iv_zipS hne B.zip_ (nm 0 S1) (nm 0 S1))
          conv => lhs; rw [hx]
          exact zip_adj _
        · rw [List.length_map]
          unfold adj
          rw [List.length_zip]
          have : (intsOf xs).length = xs.length := by
            conv => rhs; rw [hx]
            rw [List.length_map]
          omega
        · intro i τ hi
          obtain ⟨p, e1, e3⟩ := at_map hi
          refine ⟨_, _, e3, fun σ2 w4 g4 S4 s0 H0 C cl fp => ?_⟩
          rw [e1]
          exact lt (nm 3 S4) (nm 4 S4)
    · have hsq : isSq d = false := by simpa using hsq
      have ef : isAsc d n = false := by cases d <;> first | rfl | cases hsq
      refine w_if (b := true) (ww (orT (eqT (by rw [hsq]; rfl) (t_not (t_val (call_c CS (hr.mono (by decide)) d True.intro (ac (nm 0 S) a0))))))) (fun _ w' g => ?_) (fun h => nomatch h)
      exact w_ret cb fun v w2 g2 hv => by
        rw [Dp.bool_iff hv]
        exact out w2 (g.trans g2) ef
end
end K27
/-! ## Defs2 -/
/-! Tables, machines, starts, bounds. -/
namespace K27
open PySem L2 PySem.Spec PyProof.Rows
/-- a method's def -/
structure MDefAt (K : PySem.W.Frag) (C : Addr) (m qual : Str) (st : Stmt) (ps : List Str) : Prop where
  ex : ∃ f fd, Fun K m qual st f fd ∧ Meth K C m f ∧ Binds K fd ps []
structure MCal (P : Program) (w : World) (K : PySem.W.Frag) (mg : Str → Option Value) (base : Heap) (k : Nat) (C : Addr) (m : Str) (ps : List Str) (sp : Sp) : Prop where
  ex : ∃ f fd, FnOk P w K mg base CX0 k f fd ps sp ∧ Meth K C m f ∧ Binds K fd ps []
/-- an __init__ -/
structure IDefAt (K : PySem.W.Frag) (C : Addr) (qual : Str) (st : Stmt) (ps : List Str) : Prop where
  ex : ∃ f fd, Fun K "__init__" qual st f fd ∧ Mk K C f ∧ Binds K fd ps []
structure ICal (P : Program) (w : World) (K : PySem.W.Frag) (mg : Str → Option Value) (base : Heap) (k : Nat) (C : Addr) (x : Str) (ps : List Str) (sp : Sp) : Prop where
  ex : ∃ f fd, FnOk P w K mg base CX0 k f fd ps sp ∧ Mk K C f ∧ Binds K fd ps [] ∧ mg x = some (.ref C)
/-- a class: its fields' names are no names of it -/
structure Kls (K : PySem.W.Frag) (C : Addr) (fs : List Str) : Prop where
  cls : Cls K C
  no : ∀ f ∈ fs, NoAttr K C f
section
variable {P : Program} {w : World} {K : PySem.W.Frag} {mg : Str → Option Value} {base : Heap}
theorem mdef_ok {k : Nat} {C : Addr} {m qual : Str} {st : Stmt} {N ps : List Str} {ι : Type} {pre : ι → Prop} {as : ι → List Ty} {r : ι → Ty}
    (D : MDefAt K C m qual st ps) (S : FnScope N ps (defScope st)) (len : ∀ i, (as i).length = ps.length)
    (h : ∀ (f : Addr) (cdv : Value) (A : Around) (outer : List Env) (s : Shared) (H : Hp) (E : XK) (i : ι) (w0 : Wd) (Q : VK) (σ : L2.St), Room k (A.deeper (envOfC qual (defScope st) s.heap.objs.size f cdv)) → pre i →
      Sl w0.G σ ((as i).map some ++ List.replicate (N.length - ps.length) none) → (∀ v w', Grow w0 w' → (r i).p v w'.G → Q v w'.H) →
      wS (BX P w K mg base N qual st f cdv A outer s H E) (defBody st) { nx := fun _ H' => Q .non H', rt := Q } σ w0.H) :
    MCal P w K mg base (k + 1) C m ps (spOf pre as r) := by
  obtain ⟨f, fd, F, hm, hb⟩ := D.ex
  refine ⟨f, fd, F.ok S (spOf_len len) fun cdv A outer s H vs Q E hr ⟨i, w0, eH, hp, ht, q⟩ => ⟨_, uS, ?_⟩, hm, hb⟩
  subst eH
  have hl : vs.length = ps.length := by rw [ht.length, len i]
  have S0 := Sl.start (N := N) ht
  rw [hl] at S0
  exact h f cdv A outer s w0.H E i w0 Q _ hr hp S0 q
theorem idef_ok {k : Nat} {C : Addr} {x qual : Str} {st : Stmt} {N ps : List Str} {ι : Type} {pre : ι → Prop} {as : ι → List Ty} {fs : ι → List (Str × Ty)}
    (D : IDefAt K C qual st ps) (hx : mg x = some (.ref C)) (S : FnScope N ps (defScope st)) (len : ∀ i, (as i).length + 1 = ps.length)
    (h : ∀ (f : Addr) (cdv : Value) (A : Around) (outer : List Env) (s : Shared) (H : Hp) (E : XK) (i : ι) (w0 w1 : Wd) (x dx : Addr) (Q : VK) (σ : L2.St), Room k (A.deeper (envOfC qual (defScope st) s.heap.objs.size f cdv)) → pre i →
      Grow w0 w1 → w0.H x = none → Own w1 x (.ins C dx []) →
      Sl w1.G σ (some (ex (.ref x)) :: (as i).map some ++ List.replicate (N.length - ps.length) none) → (∀ w' gs, Grow w0 w' → Own w' x (.ins C dx gs) → Fds gs (fs i) w'.G → Q .non w'.H) →
      wS (BX P w K mg base N qual st f cdv A outer s H E) (defBody st) { nx := fun _ H' => Q .non H', rt := Q } σ w1.H) :
    ICal P w K mg base (k + 1) C x ps (spIni C pre as fs) := by
  obtain ⟨f, fd, F, hm, hb⟩ := D.ex
  refine ⟨f, fd, F.ok S (fun vs H Q E ⟨i, w0, w1, x, dx, us, e, _, _, _, _, _, t, _⟩ => by rw [e, List.length_cons, t.length, len i]) fun cdv A outer s H vs Q E hr ⟨i, w0, w1, x, dx, us, ev, eH, g, hx, ow, hp, ht, q⟩ => ⟨_, uS, ?_⟩, hm, hb, hx⟩
  subst eH ev
  have ht2 : Tys (ex (.ref x) :: as i) (.ref x :: us) w1.G := .cons rfl ht
  have hl : (V.ref x :: us).length = ps.length := by rw [ht2.length, ← len i]; rfl
  have S0 := Sl.start (N := N) ht2
  rw [hl] at S0
  exact h f cdv A outer s w1.H E i w0 w1 x dx Q _ hr hp g hx ow S0 q
section
variable {X : Cx} {σ : L2.St} {wd : Wd} {e o : Expr} {es : List Expr} {pos p : Pos} {ι : Type} {pre : ι → Prop} {as : ι → List Ty} {r : ι → Ty} {fs : ι → List (Str × Ty)} {k : Nat} {x m : Str} {ps : List Str} {C : Addr}
theorem make_c (c : ICal P w K mg base k C x ps (spIni C pre as fs)) (hr : Room (k + 1) X.A) (i : ι) (hp : pre i) (ha : Av X σ wd (e :: es) (as i)) (h1 : X.prog = P := by rfl) (h2 : X.w = w := by rfl) (h3 : X.K = K := by rfl) (h4 : X.mg = mg := by rfl) (h5 : X.base = base := by rfl)
    (hg : Gl X x := by rfl) (hdb : (x == ("__debug__" : Str)) = false := by decide) (he : starEach (e :: es) X.env = (false, eval e X.env) :: starEach es X.env := by rfl) (hpl : (backTo pos (starEach es X.env)).any (·.1) = false := by rfl) :
    Ev X σ wd (.Call (.Name x p) (e :: es) [] pos) (insT C (fs i)) := by
  subst h1 h2 h3 h4 h5
  obtain ⟨f, fd, F, M, hb, hm⟩ := c.ex
  exact make_ M F hr hm hb i hp ha hg hdb he hpl
theorem meth_c {apos : Pos} {fl : List (Str × Ty)} {τs : List Ty} {pl : Sem Bool} (c : MCal P w K mg base k C m ps (spOf pre as r)) (hc : Cls K C) (hr : Room k X.A) (i : ι) (hp : pre i) (ho : Ev X σ wd o (insT C fl)) (hl : fl.lookup m = none) (ha : Av X σ wd (e :: es) τs) (hi : as i = insT C fl :: τs)
    (h1 : X.prog = P := by rfl) (h2 : X.w = w := by rfl) (h3 : X.K = K := by rfl) (h4 : X.mg = mg := by rfl) (h5 : X.base = base := by rfl)
    (hst : starEach (e :: es) X.env = (false, eval e X.env) :: starEach es X.env := by rfl) (hpl : (backTo pos (starEach es X.env)).any (·.1) = false := by rfl)
    (ht : eval (.Call (.Attribute o m apos) (e :: es) [] pos) X.env = (do
      let ov ← eval o X.env
      standAt apos.atName
      let (f, first) ← holding [ov] (getMethod ov m pl)
      callWith pos f first (backTo pos (starEach (e :: es) X.env)) (backToKw pos (keywordEach [] X.env))) := by rfl) :
    Ev X σ wd (.Call (.Attribute o m apos) (e :: es) [] pos) (r i) := by
  subst h1 h2 h3 h4 h5
  obtain ⟨f, fd, F, M, hb⟩ := c.ex
  exact meth_ F hr hc M hb i hp ho hl ha hi hst hpl ht
theorem fld_c {f : Str} {fl : List (Str × Ty)} {fn : List Str} {τ : Ty} (ha : Ev X σ wd e (insT C fl)) (c : Kls K C fn) (h : f ∈ fn) (hl : fl.lookup f = some τ) (h3 : X.K = K := by rfl) (hb : attributeBase e f X.env (eval e X.env) = eval e X.env := by rfl) : Ev X σ wd (.Attribute e f pos) τ := by
  subst h3
  exact fld ha c.cls (c.no f h) hl hb
end
/-! ### data of a machine -/
def rowD (t : List Nat) : PyData := .tuple (t.map fun (i : Nat) => .int i)
def tbD (T : Tb) : PyData := .tuple (T.map rowD)
def tbL (T : Tb) : PyData := .list (T.map rowD)
abbrev mchF (K : PySem.W.Frag) (T : Tb) (n : Nat) : List (Str × Ty) := [("tables", dat K (tbD T)), ("deeds", dat K (.int (T.length : Nat))), ("states", dat K (.int (n : Nat)))]
abbrev mchT (K : PySem.W.Frag) (C : Addr) (T : Tb) (n : Nat) : Ty := insT C (mchF K T n)
/-! ### is_table -/
theorem bel_nat {i n : Nat} (h : i < n) : isBel (.int (i : Nat)) (n : Nat) = true := by
  unfold isBel isNum
  rw [Bool.and_eq_true, decide_eq_true_eq, decide_eq_true_eq]
  omega
abbrev CTable (P : Program) (w : World) (K : PySem.W.Frag) (mg : Str → Option Value) (base : Heap) : Prop := Cal P w K mg base 4 "is_table" p_table (spOf (fun d : List Nat × Nat => d.1.length = d.2 ∧ d.2 ≤ 4 ∧ ∀ i ∈ d.1, i < d.2) (fun d => [dat K (rowD d.1), dat K (.int (d.2 : Nat))]) (fun d => dat K (.bool true)))
theorem c_table (D : DefAt K mg "is_table" sis_table p_table) (B : Bu mg) (CB : CBel P w K mg base) (CS : CSeq P w K mg base) : CTable P w K mg base :=
  def_ok (N := n_table) D sc_table (fun _ => rfl) fun f cdv A outer s H E d w0 Q σ hr hp S q => by
    obtain ⟨t, n⟩ := d
    obtain ⟨h1, h2, h3⟩ := hp
    have h1 : t.length = n := h1
    have h2 : n ≤ 4 := h2
    show wS _ (_ :: _) _ _ _
    refine w_ret (τ := dat K (.bool true)) ?_ q
    refine vandT (eqE rfl (call_c CS (hr.mono (by decide)) (rowD t) True.intro (ac (nm 0 S) a0))) (vandT (eqE ?_ (eqI (lenTD B.len_ (nm 0 S)) (nm 1 S))) (v1 (eqE ?_ (all_ (bs := t.map fun _ => true) rfl B.all_
      (eqL ?_ (lcM (xs := t) (κ := fun i => dat K (.int (i : Nat))) [("state", 2)] 2 (fun _ => dat K (.bool true)) rfl sc_table.nd S (eqI_ ?_ (ivT (nm 0 S))) (by omega) (fun i y σ2 w4 hy g4 S4 s0 H0 C cl fp => eqE ?_ (call_c CB (hr.mono (by decide)) (.int (y : Nat), (n : Nat)) True.intro (ac (nm 2 S4) (ac (nm 1 S4) a0)))))))))) 
    · rw [List.length_map, h1]
      exact congrArg _ (decide_eq_true rfl)
    · rw [List.all_map]
      exact congrArg _ (List.all_eq_true.mpr fun _ _ => rfl)
    · rw [List.map_map]
      rfl
    · rw [List.map_map]
      rfl
    · exact congrArg _ (bel_nat (h3 y (List.mem_of_getElem? hy)))
/-! ### check_tables -/
structure Cst (mg : Str → Option Value) : Prop where
  deeds : ∃ t, mg "MOST_DEEDS" = some (.int 8 t)
  states : ∃ t, mg "MOST_STATES" = some (.int 12 t)
  modulus : ∃ t, mg "MOST_MODULUS" = some (.int 200 t)
abbrev CCtab (P : Program) (w : World) (K : PySem.W.Frag) (mg : Str → Option Value) (base : Heap) : Prop := Cal P w K mg base 5 "check_tables" p_ctab (spOf (fun d : Tb × Nat => MOk d.1 d.2) (fun d => [dat K (tbL d.1)]) (fun d => dat K (tbD d.1)))
theorem c_ctab (D : DefAt K mg "check_tables" scheck_tables p_ctab) (B : Bu mg) (Z : Cst mg) (CT : CTable P w K mg base) (CS : CSeq P w K mg base) : CCtab P w K mg base :=
  def_ok (N := n_ctab) D sc_ctab (fun _ => rfl) fun f cdv A outer s H E d w0 Q σ hr M S q => by
    obtain ⟨T, n⟩ := d
    have M : MOk T n := M
    obtain ⟨t1, z1⟩ := Z.deeds
    obtain ⟨t2, z2⟩ := Z.states
    have n1 := M.n1
    have n4 := M.n4
    have d1 := M.d1
    have d3 := M.d3
    obtain ⟨t0, r, eT⟩ : ∃ t0 r, T = t0 :: r := by
      cases T with
      | nil => exact absurd d1 (by decide)
      | cons a b => exact ⟨a, b, rfl⟩
    have l0 : t0.length = n := M.len t0 (by rw [eT]; simp)
    have e0 : atI (T.map rowD) 0 = some (rowD t0) := atI_nat (i := 0) (by rw [eT]; rfl)
    show wS _ (_ :: _) _ _ _
    refine w_if (b := false) (ww (orF (tnF (t_val (call_c CS (hr.mono (by decide)) (tbL T) True.intro (ac (nm 0 S) a0)))) (or1 (eqT (c := !(decide ((1 : Int) ≤ ((T.map rowD).length : Nat)) && decide ((((T.map rowD).length : Nat) : Int) ≤ 8))) ?_ (t_not (t_chain ci (lenLD B.len_ (nm 0 S)) (gi z1))))))) (fun h => nomatch h) (fun _ w1 g1 => wS_nil ?_)
    · rw [List.length_map, decide_eq_true (by omega), decide_eq_true (by omega)]
      rfl
    have S1 := S.mono g1.g
    refine w_set (τ := dat K (.int (n : Nat))) 1 sc_ctab.nd S1 (ifT (t_val (call_c CS (hr.mono (by decide)) (rowD t0) True.intro (ac (ixLD (nm 0 S1) ci e0) a0))) (eqE ?_ (lenTD B.len_ (ixLD (nm 0 S1) ci e0)))) fun σ2 w2 g2 S2 => ?_
    · rw [List.length_map, l0]
    refine w_for2 (D := { nx := fun _ H' => Q .non H', rt := Q }) 2 3 rfl PassesOwn.never sc_ctab.nd (iv_enum B.enumerate_ (asL (nm 0 S2))) (fun i σ w' => Grow w0 w' ∧ Sl w'.G σ [some (dat K (tbL T)), some (dat K (.int (n : Nat))), none, none]) (fun w' g => ⟨(g1.trans g2).trans g, S2.mono g.g⟩) (fun i τ σ' w3 w4 hτ hI g4 => ?_) (fun σ' w' hI => ?_)
    · rw [List.getElem?_mapIdx, List.getElem?_map, List.getElem?_map] at hτ
      cases q3 : T[i]? with
      | none =>
        rw [q3] at hτ
        cases hτ
      | some t =>
        rw [q3] at hτ
        have e4 : τ = tupT K [dat K (.int (i : Nat)), dat K (rowD t)] := (Option.some.inj hτ).symm
        refine ⟨_, _, e4, fun v1 v2 h1 h2 => ?_⟩
        have hm : t ∈ T := List.mem_of_getElem? q3
        have S4 := ((hI.2.mono g4.g).put h1 2).put h2 3
        refine w_when (b := false) (ww (orF (tnF (eqT ?_ (t_chain ci (nm 1 S4) (gi z2)))) (or1 (tnF (t_val (call_c CT (hr.mono (by decide)) (t, n) ⟨M.len t hm, n4, M.lt t hm⟩ (ac (nm 3 S4) (ac (nm 1 S4) a0)))))))) (fun h => nomatch h) (fun _ w5 g5 => wS_nil ⟨w5, rfl, g5.g, (hI.1.trans g4).trans g5, ((S4.mono g5.g).forget 2).forget 3⟩)
        rw [decide_eq_true (by omega), decide_eq_true (by omega)]
        rfl
    · obtain ⟨gI, SI⟩ := hI
      refine w_ret (τ := dat K (tbD T)) ?_ fun v w2 g2 hv => q v w2 (gI.trans g2) hv
      exact ofT (tuple_ B.tuple_ (.inl (eqL (by rw [List.map_map]; rfl) (lcM (xs := T) (κ := fun t => dat K (rowD t)) [("table", 3)] 3 (fun t => dat K (rowD t)) rfl sc_ctab.nd SI (eqI_ (by rw [List.map_map]; rfl) (ivL (nm 0 SI))) (by omega) (fun i y σ2 w4 hy g4 S4 s0 H0 C cl fp => ofT (tuple_ B.tuple_ (.inr (asT (nm 3 S4)))))))))
end
end K27
/-! ## Core10 -/
/-! The calculus, tenth part: names set side by side, tuples taken apart, enumerate over a tuple. -/
namespace K27
open PySem L2 PySem.Spec PyProof.Rows

/-! ### enumerate over a tuple -/
/-- the tuple at a, each item in a new pair -/
def IteT (K : PySem.W.Frag) (a : Addr) : It :=
  ⟨fun i H => ∃ (xs : List V) (x : V), SqT K H a xs ∧ xs[i]? = some x, fun i H v H' => ∃ T x, v = .ref T ∧ H T = none ∧ H' = upd H T (.tup [.int (i : Nat), x]) ∧ ∀ xs, SqT K H a xs → xs[i]? = some x, fun i H => ∃ xs : List V, SqT K H a xs ∧ xs.length = i⟩
/-- the heap where such a walk stands -/
abbrev EnT (a e it : Addr) (i : Nat) (h : Heap) : Prop := (∃ old, IsEnum h e it ((i : Nat) : Int) old) ∧ h.IsTupleIter it a i ∧ e ≠ it ∧ e ≠ a ∧ a ≠ it
theorem turn_enumT {P : Program} {w : World} {K : PySem.W.Frag} {elts : List Expr} {kk : Nat} {tpos : Pos} (a e it : Addr) : Turn P w K (.Tuple elts kk tpos) (IteT K a) [e, it] e (EnT a e it) where
  mem := by simp
  obj := fun i h st b hb => by
    obtain ⟨⟨old, z1⟩, ⟨o, z2, _, z3⟩, _⟩ := st
    rcases (by simpa using hb : b = e ∨ b = it) with q | q
    · subst q
      exact ⟨_, z1, fun v r => nomatch r⟩
    · subst q
      exact ⟨o, z2, fun v r => by rw [z3] at r; cases r⟩
  keep := fun i h h' st k => by
    obtain ⟨⟨old, z1⟩, z2, z3⟩ := st
    exact ⟨⟨old, k e (by simp) _ z1⟩, z2.at fun o q => k it (by simp) o q, z3⟩
  item := by
    intro X hP hw hK hc i pins s σ H E I hf st hg
    subst hP hw hK
    obtain ⟨⟨old, z1⟩, z2, z3, z4, z5⟩ := st
    obtain ⟨xs, x, hq, hx⟩ := hg
    obtain ⟨its, rv, tt, hz⟩ := I.tuple hq
    obtain ⟨u, hu, ru⟩ := rv.get hx
    have lt1 : e < s.heap.objs.size := Heap.lt_size z1
    have lt2 : it < s.heap.objs.size := by
      obtain ⟨_, q, _⟩ := z2
      exact Heap.lt_size q
    have hlt : i < its.toArray.size := by
      have h1 := (List.getElem?_eq_some_iff.mp hu).1
      simpa using h1
    refine wpAny_pyNext_enum_itemD (Draws.tuple (A := X.A.in1) (show X.A.in1.handled = none from I.ok.hd hc) it a z5 its.toArray) z1 ⟨z2, tt⟩ hlt z3 (by
      intro q
      rcases (by simpa using q : e = it ∨ e = a) with q | q
      · exact z3 q
      · exact z4 q) fun x' h' tk hx' ho st' hT hsz hk => ?_
    have ex : x' = u := by
      have h1 : its[i]? = some x' := by simpa using hx'
      rw [hu] at h1
      exact (Option.some.inj h1).symm
    subst ex
    refine ⟨_, rfl, wpAny_letOwnedTupleGo_enum (s := { s with heap := h', toks := tk + 1 }) ho fun h'' he' sb => ?_⟩
    have hT2 : h''.get? s.heap.objs.size = some { cls := .type "tuple", data := .seq #[.int i tk, x'] } := (sb.2 _ (Nat.ne_of_gt lt1)).trans hT
    have new : ObjOk X.prog X.w (upd H s.heap.objs.size (.tup [.int (i : Nat), x])) h'' s.heap.objs.size (.tup [.int (i : Nat), x]) :=
      ⟨(show 2 ≤ sizeLine by decide), [.int i tk, x'], .cons ⟨_, rfl⟩ (.cons ru .nil), ⟨_, hT2, rfl, _, rfl⟩⟩
    have I1 : Inv X pins σ (upd H s.heap.objs.size (.tup [.int (i : Nat), x])) { s with heap := h'', toks := tk + 1 } :=
      I.turnedNew (ch := [e, it]) (fun b ob hb q => (sb.2 b (fun z => hb (by simp [z]))).trans (hk b ob (fun z => hb (by simp [z])) (fun z => hb (by simp [z])) q)) hf (Nat.le_refl _) new
    refine ⟨.ref s.heap.objs.size, _, I1, rfl, ⟨_, x, rfl, I.hok.fresh (Nat.le_refl _), rfl, fun ys hy => by rw [I.tuple_inj hy hq]; exact hx⟩, ⟨⟨x', ?_⟩, st'.1.at fun o q => (sb.2 it (Ne.symm z3)).trans q, z3, z4, z5⟩, fun b hb => ?_⟩
    · have e1 : ((i + 1 : Nat) : Int) = (i : Int) + 1 := by omega
      rw [e1]
      exact he'
    · have hb' : b < s.heap.objs.size := by
        rcases (by simpa using hb : b = e ∨ b = it) with z | z
        · rw [z]; exact lt1
        · rw [z]; exact lt2
      rw [upd_ne (Nat.ne_of_lt hb')]
      exact (hf b hb).1
  done := by
    intro X hP hw hK hc i pins s σ H E I hf st hg
    subst hP hw hK
    obtain ⟨⟨old, z1⟩, z2, z3, z4, z5⟩ := st
    obtain ⟨xs, hq, hx⟩ := hg
    obtain ⟨its, rv, tt, hz⟩ := I.tuple hq
    obtain ⟨f0, f1, f2, f3, f4, f5⟩ := hf it (by simp)
    have hl := rv.length
    have ei : i = its.toArray.size := by
      rw [List.size_toArray]
      omega
    subst ei
    exact wpAny_pyNext_enum_endD (Draws.tuple (A := X.A.in1) (show X.A.in1.handled = none from I.ok.hd hc) it a z5 its.toArray) z1 ⟨z2, tt⟩ fun h' eb => ⟨rfl, I.turned (t' := s.toks) (fun b o hb q => eb b o hb q) f0 f1 f3 f4 f5⟩
  self := fun A i s Q E st h => let ⟨⟨_, z1⟩, _⟩ := st; wpAny_pyIter_enum z1 h
theorem enum_newT {prog : Program} {w : World} {A : Around} {E : Value → Shared → Prop} {s : Shared} {l : Addr} {items : Array Value} {Q : Value → Shared → Prop} (hL : s.heap.IsTuple l items)
    (h : ∀ h', IsEnum h' (s.heap.objs.size + 1) s.heap.objs.size 0 .none → h'.IsTupleIter s.heap.objs.size l 0 → h'.objs.size = s.heap.objs.size + 2 → (∀ b o, s.heap.get? b = some o → h'.get? b = some o) → Q (.ref (s.heap.objs.size + 1)) { s with heap := h' }) :
    wpAny (model prog w) A (call (.type "enumerate") [.ref l]) Q E s := by
  have mt : Meets (Builtin.«enumerate.__new__» ⟨[.type "enumerate", .ref l], []⟩) (fun _ R s => s.heap.IsTuple l items ∧
      R (.ok (.ret (.ref (s.heap.push { cls := .type "tuple_iterator", data := .fields #[.ref l, .int 0 0] }).objs.size)))
        { s with heap := (s.heap.push { cls := .type "tuple_iterator", data := .fields #[.ref l, .int 0 0] }).push { cls := .type "enumerate", data := .fields #[.none, .bool false, .ref s.heap.objs.size, rawInt 0, .none, .none] } }) :=
    .of_wp fun prog w A R s h => by
      obtain ⟨hp, g, d, tk, os⟩ := s
      obtain ⟨hl, h⟩ := h
      have hsub := sub_enumerate
      obtain ⟨⟨c, dct, dt, sl⟩, ho, hc, n, hd⟩ := id hl
      replace hc : c = .type "tuple" := hc
      replace hd : dt = .seq items n := hd
      subst hc hd
      have q1 : ∀ {A' : Around} {E : Value → Shared → Prop} {Q : Value → Shared → Prop}, Q (.ref hp.objs.size) ⟨hp.push { cls := .type "tuple_iterator", data := .fields #[.ref l, .int 0 0] }, g, d, tk, os⟩ → wpAny (model prog w) A' (pyIter (.ref l)) Q E ⟨hp, g, d, tk, os⟩ :=
        fun q => wpAny_pyIter_tuple hl q
      wp_walk using AutoSeq1.wpAny_loadPart' ho, q1
      refine wpAny_stack_any fun st => wpAny_pure ?_
      split
      · rename_i c _ _ _ _ _
        cases (c == Value.type "enumerate")
        · wp_walk using AutoSeq1.wpAny_loadPart' ho, q1
          exact ⟨_, rfl, h⟩
        · wp_walk using AutoSeq1.wpAny_loadPart' ho, q1
          exact ⟨_, rfl, h⟩
      · wp_walk using AutoSeq1.wpAny_loadPart' ho, q1
        exact ⟨_, rfl, h⟩
  refine callType_new F.called_enumerate (by decide) (F.typeCall_enumerate_1 _) (F.newCall_enumerate_1 _) (fun obj => F.args_object_init_2 obj _) F.entry_enumerate_new mt ⟨hL, ?_⟩
  have hz : (s.heap.push { cls := .type "tuple_iterator", data := .fields #[.ref l, .int 0 0] }).objs.size = s.heap.objs.size + 1 := Heap.size_push ..
  show _ ∧ _
  rw [hz]
  have z1 : IsEnum ((s.heap.push { cls := .type "tuple_iterator", data := .fields #[.ref l, .int 0 0] }).push { cls := .type "enumerate", data := .fields #[.none, .bool false, .ref s.heap.objs.size, rawInt 0, .none, .none] }) (s.heap.objs.size + 1) s.heap.objs.size 0 .none := by
    have z := Heap.get?_push_size (s.heap.push { cls := .type "tuple_iterator", data := .fields #[.ref l, .int 0 0] }) (o := { cls := .type "enumerate", data := .fields #[.none, .bool false, .ref s.heap.objs.size, rawInt 0, .none, .none] }) rfl
    rw [hz] at z
    exact z
  exact ⟨⟨_, z1, rfl⟩, h _ z1 ⟨_, Heap.get?_push_of_some _ (Heap.get?_push_size _ rfl), rfl, rfl⟩ (by rw [Heap.size_push, hz]) fun b o x => Heap.get?_push_of_some _ (Heap.get?_push_of_some _ x)⟩
def iEnumT (K : PySem.W.Frag) (ta : TA) : TI := fun σ H R => ta σ H fun vs H1 => ∃ a xs, vs = [.ref a] ∧ SqT K H1 a xs ∧ R (IteT K a) H1
theorem pi_enumT {X : Cx} {e : Expr} {ta : TA} {p pos tpos : Pos} {elts : List Expr} {kk : Nat} (hg : Gl X "enumerate") (hm : X.mg "enumerate" = none) (ha : PA X [e] ta) (hs : starEach [e] X.env = [(false, eval e X.env)] := by rfl) :
    PI X (.Tuple elts kk tpos) (.Call (.Name "enumerate" p) [e] [] pos) (iEnumT X.K ta) := by
  refine ⟨fun pins s σ H R I h => ?_⟩
  refine Call_ (ld_blt I hg hm boot_enumerate (PyProof.Rows.callWith_type1 (thn (ha.run pos pins s σ H _ I h) fun us s1 ⟨vs, H1, I1, r1, q1⟩ => ?_) hs rfl))
  obtain ⟨a, xs, ex, hq, q⟩ := q1
  subst ex
  obtain ⟨u, rfl, ru⟩ := r1.one
  obtain rfl : u = Value.ref a := ru
  obtain ⟨its, rv, tt, hz⟩ := I1.tuple hq
  have la : a < s1.heap.objs.size := by
    obtain ⟨o, ho, _⟩ := id tt
    exact Heap.lt_size ho
  refine enum_newT tt fun h' z1 z2 hsz hk => wpAny_pyIter_enum z1 ?_
  have I2 : Inv X pins σ H1 { s1 with heap := h' } := I1.kept (t' := s1.toks) hk
  have n1 : (s1.heap.objs.size + 1 : Nat) ≠ s1.heap.objs.size := Nat.succ_ne_self _
  have n2 : (s1.heap.objs.size + 1 : Nat) ≠ a := Nat.ne_of_gt (Nat.lt_succ_of_lt la)
  refine ⟨s1.heap.objs.size + 1, [s1.heap.objs.size + 1, s1.heap.objs.size], _, _, H1, rfl, I2, turn_enumT a (s1.heap.objs.size + 1) s1.heap.objs.size, ⟨⟨.none, z1⟩, z2, n1, n2, Nat.ne_of_lt la⟩, fun b hb => ?_, q⟩
  have hle : s1.heap.objs.size ≤ b := by
    rcases (by simpa using hb : b = s1.heap.objs.size + 1 ∨ b = s1.heap.objs.size) with z | z
    · rw [z]; exact Nat.le_add_right _ _
    · rw [z]; exact Nat.le_refl _
  exact I1.fpOk hle (I1.hok.fresh hle)
section
variable {X : Cx} {e a b : Expr} {es : List Expr} {σ : L2.St} {w w' : Wd} {τ τ' : Ty} {pos : Pos} {ds : List (Option Ty)} {rest body : List Stmt} {D : Ends}
theorem iv_enumT {elts : List Expr} {kk : Nat} {tpos p : Pos} {τs : List Ty} (hm : X.mg "enumerate" = none) (h : Ev X σ w e (tupT X.K τs)) (hg : Gl X "enumerate" := by rfl) (hs : starEach [e] X.env = [(false, eval e X.env)] := by rfl) :
    Iv X σ w (.Tuple elts kk tpos) (.Call (.Name "enumerate" p) [e] [] pos) (τs.mapIdx fun i τ => tupT X.K [dat X.K (.int (i : Nat)), τ]) := fun w1 g R k =>
  toI (pi_enumT hg hm (pa_cons uE pa_nil (by rw [hs]; rfl)) hs) (h w1 g _ fun v w2 g2 ⟨a, vs, ev, hsq, ht⟩ => ⟨a, vs, by rw [ev], sm_seqT w2.sub hsq, k _ w2 g2 fun w3 s3 => by
    have h3 : SqT X.K w3.H a vs := sm_seqT (s3.trans w3.sub) hsq
    refine ⟨fun i τ hi => ?_, vs, h3, by rw [ht.length, List.length_mapIdx]⟩
    rw [List.getElem?_mapIdx] at hi
    cases q : τs[i]? with
    | none =>
      rw [q] at hi
      cases hi
    | some τ' =>
      rw [q] at hi
      have hi' : τ = tupT X.K [dat X.K (.int (i : Nat)), τ'] := (Option.some.inj hi).symm
      obtain ⟨v, e1, e2⟩ := ht.at q
      refine ⟨⟨vs, v, h3, e1⟩, fun x H' ⟨T, y, ex, hT, eH, hy⟩ => ?_⟩
      have hv := hy vs h3
      rw [e1] at hv
      cases hv
      refine ⟨w3.new T (.tup [.int (i : Nat), v]), eH.symm, Grow.new hT, ?_⟩
      rw [hi']
      exact ⟨T, _, ex, SqT.of Wd.new_at, .cons (.int _) (.cons (τ'.m ((s3.trans (Grow.new hT).g)) e2) .nil)⟩⟩)
/-! ### several names at once -/
/-- x, y = (a, b) -/
theorem w_par {τ1 τ2 : Ty} {x y : Str} {px py pt : Pos} {kt k2 pt2} (i j : Nat) (hc : X.calm = true) (hN : X.N.Nodup) (S : Sl w.G σ ds) (ha : Av X σ w [a, b] [τ1, τ2]) (k : ∀ σ' w', Grow w w' → Sl w'.G σ' ((ds.set i (some τ1)).set j (some τ2)) → wS X rest D σ' w'.H)
    (hi : X.N[i]? = some x := by rfl) (hj : X.N[j]? = some y := by rfl) (hij : i ≠ j := by decide) (hx : X.env.scope.names.lookup x = some .local := by rfl) (hy : X.env.scope.names.lookup y = some .local := by rfl)
    (hw : swappedStores [.Tuple [.Name x px, .Name y py] kt pt] (.Tuple [a, b] k2 pt2) X.env = pure (some [x, y]) := by rfl) (hs : swapsWithSole [.Tuple [.Name x px, .Name y py] kt pt] (.Tuple [a, b] k2 pt2) pos.line X.env = pure false := by rfl) :
    wS X (.Assign [.Tuple [.Name x px, .Name y py] kt pt] (.Tuple [a, b] k2 pt2) pos :: rest) D σ w.H :=
  wS_cons (toS1 (ps_par hc hN hi hj hij hx hy uA hw hs) (ha w (Grow.refl _) _ fun vs w2 g2 hv => by
    cases hv with
    | cons h1 t =>
      cases t with
      | cons h2 t =>
        cases t
        exact ⟨_, _, rfl, k _ w2 g2 (((S.mono g2.g).put h1 i).put h2 j)⟩))
/-- x, y, z = (a, b, c) -/
theorem w_par3 {c : Expr} {τ1 τ2 τ3 : Ty} {x y z : Str} {px py pz pt : Pos} {kt k2 pt2} (i j l : Nat) (hc : X.calm = true) (hN : X.N.Nodup) (ha : Av X σ w [a, b, c] [τ1, τ2, τ3]) (k : ∀ v1 v2 v3 w', Grow w w' → τ1.p v1 w'.G → τ2.p v2 w'.G → τ3.p v3 w'.G → wS X rest D (((σ.set i (some v1)).set j (some v2)).set l (some v3)) w'.H)
    (hi : X.N[i]? = some x := by rfl) (hj : X.N[j]? = some y := by rfl) (hl : X.N[l]? = some z := by rfl) (hij : i ≠ j := by decide) (hil : i ≠ l := by decide) (hjl : j ≠ l := by decide) (hx : X.env.scope.names.lookup x = some .local := by rfl) (hy : X.env.scope.names.lookup y = some .local := by rfl) (hz : X.env.scope.names.lookup z = some .local := by rfl)
    (hw : swappedStores [.Tuple [.Name x px, .Name y py, .Name z pz] kt pt] (.Tuple [a, b, c] k2 pt2) X.env = pure (some [x, y, z]) := by rfl) (hs : swapsWithSole [.Tuple [.Name x px, .Name y py, .Name z pz] kt pt] (.Tuple [a, b, c] k2 pt2) pos.line X.env = pure false := by rfl) :
    wS X (.Assign [.Tuple [.Name x px, .Name y py, .Name z pz] kt pt] (.Tuple [a, b, c] k2 pt2) pos :: rest) D σ w.H :=
  wS_cons (toS1 (ps_par3 hc hN hi hj hl hij hil hjl hx hy hz uA hw hs) (ha w (Grow.refl _) _ fun vs w2 g2 hv => by
    cases hv with
    | cons h1 t =>
      cases t with
      | cons h2 t =>
        cases t with
        | cons h3 t =>
          cases t
          exact ⟨_, _, _, rfl, k _ _ _ w2 g2 h1 h2 h3⟩))
/-- names that are stored -/
abbrev PN (X : Cx) (i : Nat) (x : Str) : Prop := X.N[i]? = some x ∧ Loc X.env.scope x ∧ (X.fn x = true ∨ X.env.scope.names.lookup x = some .local)
theorem pn_pg {i : Nat} {x : Str} {p : Pos} (hN : X.N.Nodup) (h : PN X i x) : PG X (.Name x p) (gName i) := pg_name hN h.1 h.2.1 h.2.2
/-- x, y = e -/
theorem w_unp2 {τ1 τ2 : Ty} {x y : Str} {px py pt : Pos} {kt} (i j : Nat) (hc : X.calm = true) (hN : X.N.Nodup) (S : Sl w.G σ ds) (he : Ev X σ w e (tupT X.K [τ1, τ2])) (k : ∀ σ' w', Grow w w' → Sl w'.G σ' ((ds.set i (some τ1)).set j (some τ2)) → wS X rest D σ' w'.H)
    (hi : PN X i x := by exact ⟨rfl, by first | exact Or.inl rfl | exact Or.inr rfl, by first | exact .inl rfl | exact .inr rfl⟩) (hj : PN X j y := by exact ⟨rfl, by first | exact Or.inl rfl | exact Or.inr rfl, by first | exact .inl rfl | exact .inr rfl⟩)
    (hs : swapsWithSole [.Tuple [.Name x px, .Name y py] kt pt] e pos.line X.env = pure false := by rfl) (hw : swappedStores [.Tuple [.Name x px, .Name y py] kt pt] e X.env = pure none := by rfl) :
    wS X (.Assign [.Tuple [.Name x px, .Name y py] kt pt] e pos :: rest) D σ w.H :=
  wS_cons (toS1 (ps_asg uE (pg_tup hc (pgs_cons (pn_pg hN hi) (pgs_cons (pn_pg hN hj) pgs_nil))) hs hw) (he w (Grow.refl _) _ fun v w2 g2 hv => K27.g2 hv fun v1 v2 h1 h2 => k _ w2 g2 (((S.mono g2.g).put h1 i).put h2 j)))
end
end K27
/-! ## Core13 -/
/-! The calculus, thirteenth part: defs with keyword-only parameters. -/
namespace K27
open PySem L2 PySem.Spec PyProof.Rows
def wK (X : Cx) (kws : List Keyword) : TA := fun σ H Q => ∀ (pos : Pos) pins s, Inv X pins σ H s → wpAny (model X.prog X.w) X.A (evalAll ((backToKw pos (keywordEach kws X.env)).map (·.2))) (AP X pins σ Q) X.xe s
theorem uK {X : Cx} {kws : List Keyword} : PK X kws (wK X kws) := ⟨fun pos pins s _ _ _ I h => h pos pins s I⟩
theorem toK {X : Cx} {kws : List Keyword} {σ : L2.St} {H : Hp} {t : TA} {Q : List V → Hp → Prop} (p : PK X kws t) (h : t σ H Q) : wK X kws σ H Q := fun pos pins s I => p.run pos pins s σ H Q I h
/-- what comes of keywords' values -/
def Kv (X : Cx) (σ : L2.St) (w : Wd) (kws : List Keyword) (τs : List Ty) : Prop := ∀ w1, Grow w w1 → ∀ Q : List V → Hp → Prop, (∀ vs w2, Grow w1 w2 → Tys τs vs w2.G → Q vs w2.H) → wK X kws σ w1.H Q
/-- a def with keyword-only parameters (kws: their defaults) -/
structure KDefAt (K : PySem.W.Frag) (mg : Str → Option Value) (x : Str) (st : Stmt) (kws : List (Str × V)) : Prop where
  ex : ∃ f fd, FunD K x x (defArgs st) (defBody st) (defScope st) [] kws f fd ∧ mg x = some (.ref f)
structure KCal (P : Program) (w : World) (K : PySem.W.Frag) (mg : Str → Option Value) (base : Heap) (k : Nat) (x : Str) (st : Stmt) (kws : List (Str × V)) (ps : List Str) (sp : Sp) : Prop where
  ex : ∃ f fd, FnOk P w K mg base CX0 k f fd ps sp ∧ FunD K x x (defArgs st) (defBody st) (defScope st) [] kws f fd ∧ mg x = some (.ref f)
section
variable {K : PySem.W.Frag} {x qual : Str} {params : Arguments} {body : List Stmt} {scope : Scope} {kws : List (Str × V)} {f : Addr} {fd : FuncData} {ps : List Str}
/-- n positional values, keywords named ks; ms: the keyword-only parameters that lack -/
theorem kbinds0 (F : FunD K x qual params body scope [] kws f fd) (n : Nat) (ks : List Str) (ms : List (Str × V)) (g : {α : Type} → List α → List α → List α → List α) (hk : kws ≠ []) (hms : ∀ q ∈ ms, q ∈ kws)
    (hrel : ∀ {vs mz zs : List V} {us mv ws : List Value}, Vals vs us → Vals mz mv → Vals zs ws → Vals (g vs mz zs) (g us mv ws))
    (h : ∀ (D : Addr) (doc pm : Value) (an : Option Addr) (cdv ct : Value) (us mv ws : List Value), us.length = n → mv.length = ms.length → ws.length = ks.length →
      KwChain D ((ms.map (·.1)).zip mv) (bindArgs (PySem.W.fnOf x qual params body scope .none (.ref D) doc pm an cdv ct) ⟨us, ks.zip ws⟩) (ps.zip (g us mv ws))) :
    ∃ mv : List Value, KBn K fd ps n ks (fun us ws => g us mv ws) (fun vs zs => g vs (ms.map (·.2)) zs) := by
  obtain ⟨oc, od, dV, kV, doc, pm, an, cdv, ct, osl, rfl, lk, hcd, hD, hK⟩ := F.ex
  rcases hD with ⟨_, rfl⟩ | ⟨e, _⟩
  · rcases hK with e | ⟨D, rfl, hq⟩
    · exact absurd e hk
    · obtain ⟨mv, hl, rk, hks⟩ := kwd_vals (ms := ms) fun q hm => hq q (hms q hm)
      exact ⟨mv, ⟨fun s us ws X l1 l2 => BindsTo.of_looks fun M => KwChain.looks X hks (h D doc pm an cdv ct us mv ws l1 hl l2), fun r1 r2 => hrel r1 rk r2⟩⟩
  · exact absurd rfl e
end
theorem kdef_ok {P : Program} {w : World} {K : PySem.W.Frag} {mg : Str → Option Value} {base : Heap} {k : Nat} {x : Str} {st : Stmt} {kws : List (Str × V)} {N ps : List Str} {ι : Type} {pre : ι → Prop} {as : ι → List Ty} {r : ι → Ty}
    (D : KDefAt K mg x st kws) (S : FnScope N ps (defScope st)) (len : ∀ i, (as i).length = ps.length)
    (h : ∀ (f : Addr) (cdv : Value) (A : Around) (outer : List Env) (s : Shared) (H : Hp) (E : XK) (i : ι) (w0 : Wd) (Q : VK) (σ : L2.St), Room k (A.deeper (envOfC x (defScope st) s.heap.objs.size f cdv)) → pre i →
      Sl w0.G σ ((as i).map some ++ List.replicate (N.length - ps.length) none) → (∀ v w', Grow w0 w' → (r i).p v w'.G → Q v w'.H) →
      wS (BX P w K mg base N x st f cdv A outer s H E) (defBody st) { nx := fun _ H' => Q .non H', rt := Q } σ w0.H) :
    KCal P w K mg base (k + 1) x st kws ps (spOf pre as r) := by
  obtain ⟨f, fd, F, hm⟩ := D.ex
  refine ⟨f, fd, F.ok S (spOf_len len) fun cdv A outer s H vs Q E hr ⟨i, w0, eH, hp, ht, q⟩ => ⟨_, uS.nox, ?_⟩, F, hm⟩
  subst eH
  have hl : vs.length = ps.length := by rw [ht.length, len i]
  have S0 := Sl.start (N := N) ht
  rw [hl] at S0
  exact h f cdv A outer s w0.H E i w0 Q _ hr hp S0 q
section
variable {P : Program} {W : World} {K : PySem.W.Frag} {mg : Str → Option Value} {base : Heap}
variable {X : Cx} {σ : L2.St} {w : Wd} {e : Expr} {es : List Expr} {pos p kp : Pos} {τ : Ty} {τs us : List Ty} {kws : List Keyword} {nm : Option Str}
theorem k0 : Kv X σ w [] [] := fun w1 g Q k => toK pk_nil (k _ w1 (Grow.refl _) .nil)
theorem kc (h : Ev X σ w e τ) (h2 : Kv X σ w kws τs) : Kv X σ w (⟨nm, e, kp⟩ :: kws) (τ :: τs) := fun w1 g Q k =>
  toK (pk_cons uE uK) (h w1 g _ fun v w2 g2 hv => h2 w2 (g.trans g2) _ fun vs w3 g3 hvs => k _ w3 (g2.trans g3) (.cons (τ.m g3.g hv) hvs))
theorem pe_callN0 {CX : CXT} {k : Nat} {f : Addr} {fd : FuncData} {ps ks : List Str} {sp : Sp} {E : XK} {x : Str} {tk : TA} {g : List Value → List Value → List Value} {gV : List V → List V → List V} (F : FnOk X.prog X.w X.K X.mg X.base CX k f fd ps sp) (hr : Room k X.A) (hg : Gl X x) (hm : X.mg x = some (.ref f)) (hk : PySem.W.keepIn X.K (.ref f) = true) (hb : KBn X.K fd ps 0 ks g gV) (hx : Passes CX X E)
    (hkw : PK X kws tk) (hall : (backToKw pos (keywordEach kws X.env)).all (·.1.isSome) = true := by rfl) (hks : (backToKw pos (keywordEach kws X.env)).filterMap (·.1) = ks := by rfl)
    (hdb : (x == ("__debug__" : Str)) = false := by decide) (hpl : ((backTo pos (starEach [] X.env)).any (·.1) || (backToKw pos (keywordEach kws X.env)).any (·.1.isNone)) = false := by rfl) :
    PE X (.Call (.Name x p) [] kws pos) (tCallN 0 ks.length sp gV E tNil tk) := by
  refine ⟨fun pins s σ H Q I h => ?_⟩
  refine wpAny_Call_Name_kw (ld_glob I hg hm ?_ hdb)
  refine PySem.W.callWith_KW0 (h₀ := X.base) I.ok.mod.kin hk hall ?_ hpl
  refine thn (hkw.run pos pins s σ H _ I h) fun ws s2 ⟨zs, H2, I2, rz, l1, l2, q2⟩ => ⟨I2.kIn, ?_⟩
  rw [hks]
  exact run_fnN F hr hb hx I2 .nil rz l1 l2 q2
/-- f(e, .., k = v, ..) -/
theorem kcall {ι : Type} {pre : ι → Prop} {as : ι → List Ty} {r : ι → Ty} {k : Nat} {x : Str} {st : Stmt} {kd : List (Str × V)} {ps ks : List Str} (n : Nat) (ms : List (Str × V)) (g : {α : Type} → List α → List α → List α → List α) (c : KCal P W K mg base k x st kd ps (spOf pre as r)) (hr : Room k X.A) (i : ι) (hp : pre i)
    (ha : Av X σ w (e :: es) τs) (hkw : Kv X σ w kws us) (hn : τs.length = n) (hms : ∀ q ∈ ms, q ∈ kd) (hne : kd ≠ [])
    (hty : ∀ (vs zs : List V) (G : Hp), Tys τs vs G → Tys us zs G → Tys (as i) (g vs (ms.map (·.2)) zs) G)
    (hrel : ∀ {vs mz zs : List V} {us mv ws : List Value}, Vals vs us → Vals mz mv → Vals zs ws → Vals (g vs mz zs) (g us mv ws))
    (h : ∀ (D : Addr) (doc pm : Value) (an : Option Addr) (cdv ct : Value) (us mv ws : List Value), us.length = n → mv.length = ms.length → ws.length = ks.length →
      KwChain D ((ms.map (·.1)).zip mv) (bindArgs (PySem.W.fnOf x x (defArgs st) (defBody st) (defScope st) .none (.ref D) doc pm an cdv ct) ⟨us, ks.zip ws⟩) (ps.zip (g us mv ws)))
    (hul : us.length = ks.length) (h1 : X.prog = P := by rfl) (h2 : X.w = W := by rfl) (h3 : X.K = K := by rfl) (h4 : X.mg = mg := by rfl) (h5 : X.base = base := by rfl)
    (hg : Gl X x := by rfl) (hall : (backToKw pos (keywordEach kws X.env)).all (·.1.isSome) = true := by rfl) (hks : (backToKw pos (keywordEach kws X.env)).filterMap (·.1) = ks := by rfl)
    (hdb : (x == ("__debug__" : Str)) = false := by decide) (he : starEach (e :: es) X.env = (false, eval e X.env) :: starEach es X.env := by rfl)
    (hpl : ((backTo pos (starEach (e :: es) X.env)).any (·.1) || (backToKw pos (keywordEach kws X.env)).any (·.1.isNone)) = false := by rfl) :
    Ev X σ w (.Call (.Name x p) (e :: es) kws pos) (r i) := by
  subst h1 h2 h3 h4 h5
  obtain ⟨f, fd, F, FD, hm⟩ := c.ex
  obtain ⟨mv, hb⟩ := kbinds0 FD n ks ms g hne hms hrel h
  exact fun w1 g1 Q q => toE (pe_callN F hr hg hm FD.kp hb pass0 uA uK hall hks hdb he hpl) (ha w1 g1 _ fun vs w2 g2 hvs => hkw w2 (g1.trans g2) _ fun zs w3 g3 hzs =>
    ⟨by rw [hvs.length]; exact hn, by rw [hzs.length]; exact hul, i, w3, rfl, hp, hty vs zs _ (hvs.mono g3.g) hzs, fun v w' g' hv => q v w' ((g2.trans g3).trans g') hv⟩)
theorem kcall0 {ι : Type} {pre : ι → Prop} {as : ι → List Ty} {r : ι → Ty} {k : Nat} {x : Str} {st : Stmt} {kd : List (Str × V)} {ps ks : List Str} (ms : List (Str × V)) (g : {α : Type} → List α → List α → List α → List α) (c : KCal P W K mg base k x st kd ps (spOf pre as r)) (hr : Room k X.A) (i : ι) (hp : pre i)
    (hkw : Kv X σ w kws us) (hms : ∀ q ∈ ms, q ∈ kd) (hne : kd ≠ [])
    (hty : ∀ (zs : List V) (G : Hp), Tys us zs G → Tys (as i) (g [] (ms.map (·.2)) zs) G)
    (hrel : ∀ {vs mz zs : List V} {us mv ws : List Value}, Vals vs us → Vals mz mv → Vals zs ws → Vals (g vs mz zs) (g us mv ws))
    (h : ∀ (D : Addr) (doc pm : Value) (an : Option Addr) (cdv ct : Value) (us mv ws : List Value), us.length = 0 → mv.length = ms.length → ws.length = ks.length →
      KwChain D ((ms.map (·.1)).zip mv) (bindArgs (PySem.W.fnOf x x (defArgs st) (defBody st) (defScope st) .none (.ref D) doc pm an cdv ct) ⟨us, ks.zip ws⟩) (ps.zip (g us mv ws)))
    (hul : us.length = ks.length) (h1 : X.prog = P := by rfl) (h2 : X.w = W := by rfl) (h3 : X.K = K := by rfl) (h4 : X.mg = mg := by rfl) (h5 : X.base = base := by rfl)
    (hg : Gl X x := by rfl) (hall : (backToKw pos (keywordEach kws X.env)).all (·.1.isSome) = true := by rfl) (hks : (backToKw pos (keywordEach kws X.env)).filterMap (·.1) = ks := by rfl)
    (hdb : (x == ("__debug__" : Str)) = false := by decide) (hpl : ((backTo pos (starEach [] X.env)).any (·.1) || (backToKw pos (keywordEach kws X.env)).any (·.1.isNone)) = false := by rfl) :
    Ev X σ w (.Call (.Name x p) [] kws pos) (r i) := by
  subst h1 h2 h3 h4 h5
  obtain ⟨f, fd, F, FD, hm⟩ := c.ex
  obtain ⟨mv, hb⟩ := kbinds0 FD 0 ks ms g hne hms hrel h
  exact fun w1 g1 Q q => toE (pe_callN0 F hr hg hm FD.kp hb pass0 uK hall hks hdb hpl) (hkw w1 g1 _ fun zs w3 g3 hzs =>
    ⟨rfl, by rw [hzs.length]; exact hul, i, w3, rfl, hp, hty zs _ hzs, fun v w' g' hv => q v w' (g3.trans g') hv⟩)
end
end K27
/-! ## Defs3 -/
/-! A machine made; starts, bounds, moduli checked; a log gone through. -/
namespace K27
open PySem L2 PySem.Spec PyProof.Rows
section
variable {P : Program} {w : World} {K : PySem.W.Frag} {mg : Str → Option Value} {base : Heap}
abbrev mFn : List Str := ["tables", "deeds", "states"]
abbrev CMini (P : Program) (w : World) (K : PySem.W.Frag) (mg : Str → Option Value) (base : Heap) (C : Addr) : Prop := ICal P w K mg base 6 C "Machine" p_minit (spIni C (fun d : Tb × Nat => MOk d.1 d.2) (fun d => [dat K (tbL d.1)]) (fun d => mchF K d.1 d.2))
theorem c_mini {C : Addr} (D : IDefAt K C "Machine.__init__" sMachineInit p_minit) (hC : mg "Machine" = some (.ref C)) (B : Bu mg) (KC : Kls K C mFn) (CT : CCtab P w K mg base) : CMini P w K mg base C :=
  idef_ok (N := n_minit) D hC sc_minit (fun _ => rfl) fun f cdv A outer s H E d w0 w1 x dx Q σ hr M g hx ow S q => by
    obtain ⟨T, n⟩ := d
    have M : MOk T n := M
    have d1 := M.d1
    show wS _ (_ :: _) _ _ _
    refine w_self (τ := dat K (tbD T)) (call_c CT hr (T, n) M (ac (nm 1 S) a0)) (nm 0 S) ow (fs := []) (.nil) KC.cls (KC.no "tables" (by simp)) rfl (by decide) fun w2 gs2 g2 n2 ow2 F2 => ?_
    have G2 := g2.trans (Grow.refl _)
    have S2 : Sl (w2.lay x (.ins C dx gs2) n2).G σ _ := S.mono g2.g
    refine w_self (τ := dat K (.int (T.length : Nat))) (eqE ?_ (lenTD B.len_ (fldO (nm 0 S2) ow2 F2 KC.cls (KC.no "tables" (by simp)) rfl))) (nm 0 S2) ow2 F2 KC.cls (KC.no "deeds" (by simp)) rfl (by simp) fun w3 gs3 g3 n3 ow3 F3 => ?_
    · rw [List.length_map]
    have S3 : Sl (w3.lay x (.ins C dx gs3) n3).G σ _ := S2.mono g3.g
    obtain ⟨t0, e0⟩ : ∃ t0, T[0]? = some t0 := ⟨T[0], List.getElem?_eq_getElem (by omega)⟩
    have l0 : t0.length = n := M.len t0 (List.mem_of_getElem? e0)
    refine w_self (τ := dat K (.int (n : Nat))) (eqE ?_ (lenTD B.len_ (ixTD (fldO (nm 0 S3) ow3 F3 KC.cls (KC.no "tables" (by simp)) rfl) ci (atI_nat (i := 0) (x := rowD t0) (by rw [List.getElem?_map, e0]; rfl))))) (nm 0 S3) ow3 F3 KC.cls (KC.no "states" (by simp)) rfl (by simp) fun w4 gs4 g4 n4 ow4 F4 => ?_
    · rw [List.length_map, l0]
    refine wS_nil (q _ gs4 ?_ ow4 F4)
    exact (((g.trans g2).change hx).trans g3 |>.change hx).trans g4 |>.change hx
/-! ### starts -/
def natsD (S : List Nat) : List PyData := S.map fun (i : Nat) => .int i
def lotD : Option (List Nat) → PyData
  | none => .none
  | some S => .list (natsD S)
def lotOf (n : Nat) : Option (List Nat) → List Nat
  | none => List.range n
  | some S => S
structure LotOk (n : Nat) (So : Option (List Nat)) : Prop where
  ne : ∀ S, So = some S → S ≠ []
  asc : ∀ S, So = some S → S.Pairwise (· < ·)
  lt : ∀ S, So = some S → ∀ p ∈ S, p < n
  len : ∀ S, So = some S → S.length ≤ 4
theorem LotOk.lot_lt {n : Nat} {So : Option (List Nat)} (L : LotOk n So) {p : Nat} (h : p ∈ lotOf n So) : p < n := by
  cases So with
  | none => exact List.mem_range.mp h
  | some S => exact L.lt S rfl p h
theorem LotOk.lot_len {n : Nat} {So : Option (List Nat)} (L : LotOk n So) (hn : n ≤ 4) : (lotOf n So).length ≤ 4 := by
  cases So with
  | none => unfold lotOf; rw [List.length_range]; exact hn
  | some S => exact L.len S rfl
theorem ints_nats : ∀ S : List Nat, intsOf (natsD S) = S.map fun (i : Nat) => (i : Int)
  | [] => rfl
  | x :: r => by
    show (x : Int) :: intsOf (natsD r) = (x : Int) :: _
    rw [ints_nats r]
theorem asc_nats : ∀ {S : List Nat}, S.Pairwise (· < ·) → ascI (S.map fun (i : Nat) => (i : Int)) = true
  | [], _ => rfl
  | [_], _ => rfl
  | x :: y :: r, h => by
    rw [List.pairwise_cons] at h
    have h1 := h.1 y (by simp)
    have ih := asc_nats h.2
    show (decide ((x : Int) < (y : Int)) && ascI ((y :: r).map _)) = true
    rw [ih, decide_eq_true (by omega)]
    rfl
theorem LotOk.isAsc {n : Nat} {S : List Nat} (L : LotOk n (some S)) : isAsc (.list (natsD S)) (n : Nat) = true := by
  show isAscL (natsD S) (n : Nat) = true
  unfold isAscL
  have h1 : (natsD S).isEmpty = false := by
    have := L.ne S rfl
    cases S with
    | nil => exact absurd rfl this
    | cons a b => rfl
  have h2 : ((natsD S).all fun d => isBel d (n : Nat)) = true := by
    rw [List.all_eq_true]
    intro d hd
    obtain ⟨i, hi, e⟩ := List.mem_map.mp hd
    subst e
    exact bel_nat (L.lt S rfl i hi)
  rw [h1, h2, ints_nats, asc_nats (L.asc S rfl)]
  rfl
abbrev CStarts (P : Program) (w : World) (K : PySem.W.Frag) (mg : Str → Option Value) (base : Heap) (C : Addr) : Prop := Cal P w K mg base 5 "check_starts" p_starts (spOf (fun d : Tb × Nat × Option (List Nat) => MOk d.1 d.2.1 ∧ LotOk d.2.1 d.2.2) (fun d => [mchT K C d.1 d.2.1, dat K (lotD d.2.2)]) (fun d => dat K (.tuple (natsD (lotOf d.2.1 d.2.2)))))
theorem c_starts {C : Addr} (D : DefAt K mg "check_starts" scheck_starts p_starts) (B : Bu mg) (KC : Kls K C mFn) (CA : CAsc P w K mg base) : CStarts P w K mg base C :=
  def_ok (N := n_starts) D sc_starts (fun _ => rfl) fun f cdv A outer s H E d w0 Q σ hr hp S q => by
    obtain ⟨T, n, So⟩ := d
    obtain ⟨M, L⟩ := hp
    have M : MOk T n := M
    have L : LotOk n So := L
    have n4 := M.n4
    show wS _ (_ :: _) _ _ _
    cases So with
    | none =>
      refine w_if (b := true) (t_isN (nm 1 S) isn_none) (fun _ w1 g1 => ?_) (fun h => nomatch h)
      have S1 := S.mono g1.g
      refine w_ret (τ := dat K (.tuple (natsD (List.range n)))) (ofT (eqTu ?_ (tupR rfl B.tuple_ B.range_ (fld_c (nm 0 S1) KC (by simp) rfl) (by show (0 : Int) ≤ (n : Nat) ∧ ((n : Nat) : Int) ≤ 1000; omega)))) fun v w2 g2 hv => q v w2 (g1.trans g2) hv
      unfold rngT natsD
      rw [Int.toNat_natCast, List.map_map]
      refine List.map_congr_left fun i _ => ?_
      show dat K (.int (0 + (i : Nat) * 1)) = dat K (.int (i : Nat))
      rw [Int.zero_add, Int.mul_one]
    | some Sx =>
      refine w_if (b := false) (t_isN (nm 1 S) (isn_dat (by intro h; cases h))) (fun h => nomatch h) (fun _ w1 g1 => wS_nil ?_)
      have S1 := S.mono g1.g
      refine w_if (b := false) (tnF (tvB L.isAsc (call_c CA (hr.mono (by decide)) (.list (natsD Sx), (n : Nat)) (fun xs hx => ?_) (ac (nm 1 S1) (ac (fld_c (nm 0 S1) KC (by simp) rfl) a0))))) (fun h => nomatch h) (fun _ w2 g2 => wS_nil ?_)
      · rcases hx with e | e
        · have e : PyData.list (natsD Sx) = .list xs := e
          injection e with e
          rw [← e]
          unfold natsD
          rw [List.length_map]
          have := L.len Sx rfl
          omega
        · exact nomatch (show PyData.list (natsD Sx) = .tuple xs from e)
      have S2 := S1.mono g2.g
      exact w_ret (τ := dat K (.tuple (natsD Sx))) (ofT (tuple_ B.tuple_ (.inl (asL (nm 1 S2))))) fun v w3 g3 hv => q v w3 ((g1.trans g2).trans g3) hv
/-! ### behind -/
abbrev CBeh (P : Program) (w : World) (K : PySem.W.Frag) (mg : Str → Option Value) (base : Heap) : Prop := Cal P w K mg base 1 "behind" p_behind (spOf (fun d : Tb × Nat × Nat × List Nat => MOk d.1 d.2.1 ∧ d.2.2.1 < d.2.1 ∧ Log d.1 d.2.2.2 ∧ d.2.2.2.length ≤ 10000)
  (fun d => [dat K (tbD d.1), dat K (.int (d.2.2.1 : Nat)), dat K (.tuple (natsD d.2.2.2))]) (fun d => dat K (.int (run d.1 d.2.2.1 d.2.2.2 : Nat))))
theorem stp_at {T : Tb} {n : Nat} (M : MOk T n) {s d : Nat} (hs : s < n) (hd : d < T.length) : ∃ t, T[d]? = some t ∧ t[s]? = some (stp T s d) := by
  have h1 : T[d]? = some T[d] := List.getElem?_eq_getElem hd
  have hl := M.len _ (List.getElem_mem hd)
  refine ⟨T[d], h1, ?_⟩
  have h0 : T.getD d [] = T[d] := by
    rw [List.getD_eq_getElem?_getD, h1]
    rfl
  unfold stp
  rw [h0, List.getD_eq_getElem?_getD, List.getElem?_eq_getElem (by omega)]
  rfl
theorem row_at {t : List Nat} {s x : Nat} (h : t[s]? = some x) : atI (t.map fun (i : Nat) => PyData.int i) (s : Nat) = some (.int (x : Nat)) := atI_nat (by rw [List.getElem?_map, h]; rfl)
theorem tb_at {T : Tb} {d : Nat} {t : List Nat} (h : T[d]? = some t) : atI (T.map rowD) (d : Nat) = some (rowD t) := atI_nat (by rw [List.getElem?_map, h]; rfl)
theorem run_take {T : Tb} {s i x : Nat} {u : List Nat} (h : u[i]? = some x) : run T s (u.take (i + 1)) = stp T (run T s (u.take i)) x := by
  have hi : i < u.length := by
    rcases Nat.lt_or_ge i u.length with q | q
    · exact q
    · rw [List.getElem?_eq_none q] at h
      cases h
  have e : u.take (i + 1) = u.take i ++ [x] := by
    rw [List.take_succ, h]
    rfl
  rw [e, run_snoc]
theorem c_beh (D : DefAt K mg "behind" sbehind p_behind) : CBeh P w K mg base :=
  def_ok (N := n_behind) D sc_behind (fun _ => rfl) fun f cdv A outer s H E d w0 Q σ hr hp S q => by
    obtain ⟨T, n, p, u⟩ := d
    obtain ⟨M, hpn, hu, hl⟩ := hp
    have M : MOk T n := M
    have hpn : p < n := hpn
    have hu : Log T u := hu
    show wS _ (_ :: _) _ _ _
    refine w_forM (D := { nx := fun _ H' => Q .non H', rt := Q }) (xs := u) (κ := fun (i : Nat) => dat K (.int (i : Nat))) 3 rfl PassesOwn.never sc_behind.nd (eqI_ (by unfold natsD; rw [List.map_map]; rfl) (ivT (xs := natsD u) (nm 2 S)))
      (fun i σ w' => Grow w0 w' ∧ Sl w'.G σ [some (dat K (tbD T)), some (dat K (.int (run T p (u.take i) : Nat))), some (dat K (.tuple (natsD u))), none]) (fun w' g => ⟨g, S.mono g.g⟩) (fun i y σ' w3 w4 v hy hI g4 hv => ?_) (fun σ' w' hI => ?_)
    · have S4 := (hI.2.mono g4.g).put hv 3
      have hs : run T p (u.take i) < n := M.run_lt hpn fun d hd => hu d (List.mem_of_mem_take hd)
      obtain ⟨t, e1, e2⟩ := stp_at M hs (hu y (List.mem_of_getElem? hy))
      refine w_set (τ := dat K (.int (run T p (u.take (i + 1)) : Nat))) 1 sc_behind.nd S4 (ixTD (ixTD (nm 0 S4) (nm 3 S4) (tb_at e1)) (nm 1 S4) (row_at (by rw [run_take hy]; exact e2))) fun σ5 w5 g5 S5 => wS_nil ⟨w5, rfl, g5.g, (hI.1.trans g4).trans g5, S5.forget 3⟩
    · obtain ⟨gI, SI⟩ := hI
      rw [List.take_length] at SI
      exact w_ret (nm 1 SI) fun v w2 g2 hv => q v w2 (gI.trans g2) hv
/-! ### bounds, moduli -/
def boundD : Option Nat → PyData
  | none => .none
  | some b => .int (b : Nat)
abbrev CBound (P : Program) (w : World) (K : PySem.W.Frag) (mg : Str → Option Value) (base : Heap) : Prop := Cal P w K mg base 3 "check_bound" p_bound (spOf (fun d : Option Nat => ∀ b, d = some b → 1 ≤ b) (fun d => [dat K (boundD d)]) (fun d => dat K (boundD d)))
theorem c_bound (D : DefAt K mg "check_bound" scheck_bound p_bound) (CN : CNum P w K mg base) : CBound P w K mg base :=
  def_ok (N := n_bound) D sc_bound (fun _ => rfl) fun f cdv A outer s H E d w0 Q σ hr hp S q => by
    show wS _ (_ :: _) _ _ _
    cases d with
    | none => exact w_if (b := false) (ww (andF (eqT rfl (t_notN (nm 0 S) isn_none)))) (fun h => nomatch h) (fun _ w1 g1 => wS_nil (w_ret (nm 0 (S.mono g1.g)) fun v w2 g2 hv => q v w2 (g1.trans g2) hv))
    | some b =>
      have hb : 1 ≤ b := hp b rfl
      refine w_if (b := false) (ww (andT (eqT rfl (t_notN (nm 0 S) (isn_dat (by intro h; cases h)))) (and1 (ww (orF (tnF (tvB ?_ (call_c CN (hr.mono (by decide)) (.int (b : Nat)) True.intro (ac (nm 0 S) a0)))) (or1 (eqT ?_ (t_eqI (nm 0 S) ci)))))))) (fun h => nomatch h) (fun _ w1 g1 => wS_nil (w_ret (nm 0 (S.mono g1.g)) fun v w2 g2 hv => q v w2 (g1.trans g2) hv))
      · unfold isNum
        exact decide_eq_true (by omega)
      · exact decide_eq_false (by omega)
abbrev CNmod (P : Program) (w : World) (K : PySem.W.Frag) (mg : Str → Option Value) (base : Heap) : Prop := Cal P w K mg base 3 "need_modulus" p_nmod (spOf (fun m : Nat => 1 ≤ m ∧ m ≤ 200) (fun m => [dat K (.int (m : Nat))]) (fun m => dat K (.int (m : Nat))))
theorem c_nmod (D : DefAt K mg "need_modulus" sneed_modulus p_nmod) (Z : Cst mg) (CN : CNum P w K mg base) : CNmod P w K mg base :=
  def_ok (N := n_nmod) D sc_nmod (fun _ => rfl) fun f cdv A outer s H E m w0 Q σ hr hp S q => by
    obtain ⟨t3, z3⟩ := Z.modulus
    obtain ⟨h1, h2⟩ := hp
    have h1 : 1 ≤ m := h1
    have h2 : m ≤ 200 := h2
    show wS _ (_ :: _) _ _ _
    refine w_if (b := false) (ww (orF (tnF (tvB ?_ (call_c CN (hr.mono (by decide)) (.int (m : Nat)) True.intro (ac (nm 0 S) a0)))) (or1 (tnF (eqT ?_ (t_chain ci (nm 0 S) (gi z3))))))) (fun h => nomatch h) (fun _ w1 g1 => wS_nil (w_ret (nm 0 (S.mono g1.g)) fun v w2 g2 hv => q v w2 (g1.trans g2) hv))
    · unfold isNum
      exact decide_eq_true (by omega)
    · rw [decide_eq_true (by omega), decide_eq_true (by omega)]
      rfl
end
end K27
/-! ## Core11 -/
/-! The calculus, eleventh part: sorted of a list of tuples of small numbers. -/
namespace K27
open PySem L2 PySem.Spec PyProof.Rows
def iN (l : List Nat) : List Int := l.map fun (i : Nat) => (i : Int)
/-- the order of the tuples: by their digits to the base 4 -/
def rk (l : List Nat) : Int := TS.code 4 (iN l)
theorem ints_of_row {X : Cx} {pins : List (Addr × Obj)} {σ : L2.St} {H : Hp} {s : Shared} (I : Inv X pins σ H s) {a : Addr} {l : List Nat} (h : Dp X.K H (.ref a) (rowD l)) : TS.TupInts s.heap (.ref a) (iN l) := by
  unfold rowD at h
  cases h with
  | tup hs ha =>
    obtain ⟨its, rv, tt, hz⟩ := I.tuple hs
    refine ⟨_, _, rfl, tt, ?_⟩
    show IntsAre its (iN l)
    have go : ∀ {l : List Nat} {vs : List V} {us : List Value}, DpAll X.K H vs (l.map fun (i : Nat) => PyData.int i) → Vals vs us → IntsAre us (iN l) := by
      intro l
      induction l with
      | nil =>
        intro vs us d r
        cases d
        cases r
        exact .nil
      | cons x l ih =>
        intro vs us d r
        cases d with
        | cons d1 d2 =>
          cases r with
          | cons r1 r2 =>
            cases d1
            obtain ⟨t, rfl⟩ := r1
            exact .cons _ t (ih d2 r2)
    exact go ha rv
theorem row_ref {K : PySem.W.Frag} {G : Hp} {v : V} {l : List Nat} (h : Dp K G v (rowD l)) : ∃ a, v = .ref a := by
  unfold rowD at h
  cases h with
  | tup hs _ => exact ⟨_, rfl⟩
theorem bd_iN {l : List Nat} (h : ∀ x ∈ l, x < 4) : TS.Bd 4 (iN l) := fun m hm => by
  obtain ⟨x, hx, e⟩ := List.mem_map.mp hm
  have := h x hx
  have e : (x : Int) = m := e
  omega
theorem swo_rk (r : Value → Int) : SrtO.Swo fun v u => decide (r v < r u) := by
  refine ⟨fun x y h => ?_, fun x y z h1 h2 => ?_⟩
  · have h := of_decide_eq_true h
    exact decide_eq_false (by omega)
  · have h1 := of_decide_eq_false h1
    have h2 := of_decide_eq_false h2
    exact decide_eq_false (by omega)
/-- any number of such tuples are sorted by their digits -/
theorem sorted_tupsO {prog : Program} {w : World} {A : Around} {E : Value → Shared → Prop} {s : Shared} {l : Addr} {vs : List Value} {d : Nat} {Q : Value → Shared → Prop} (hd : 1 ≤ d) (hl : s.heap.IsList l vs.toArray) (hz : vs.length ≤ sizeLine) (x : TS.TupsOk s.heap d 4 vs)
    (h : ∀ (h' : Heap) (p : Addr) (out : List Value), out.Perm vs → out.Pairwise (fun a b => TS.code 4 (TS.intsOf s.heap a) ≤ TS.code 4 (TS.intsOf s.heap b)) → (∀ b o, s.heap.get? b = some o → h'.get? b = some o) → s.heap.objs.size ≤ p → (∃ n, h'.get? p = some (seqObj "list" out.toArray n)) → Q (.ref p) { s with heap := h' }) :
    wpAny (model prog w) A (call (.builtin "sorted") [.ref l]) Q E s := by
  refine SrtO.sorted_ord (swo_rk fun v => TS.code 4 (TS.intsOf s.heap v)) hl hz (fun h2 h₁ a ha kk => ?_) fun out hs hb => ?_
  · intro h' keep
    have x' : TS.TupsOk h' d 4 vs := fun v hv => by
      obtain ⟨ns, t, r⟩ := x v hv
      refine ⟨ns, ?_, r⟩
      refine (t.keeps fun b o e _ => (kk b o e).2).keeps fun b o e c => keep b o (fun z => ?_) e
      subst z
      have e' : some o = some (seqObj "list" vs.toArray 0) := e.symm.trans ha
      cases e'
      exact absurd (Value.type.inj c) (by decide)
    have hr : ∀ v, v ∈ vs → ∀ ns, TS.TupInts h' v ns → (fun v => TS.code 4 (TS.intsOf s.heap v)) v = TS.code 4 ns := fun v hv ns t => by
      obtain ⟨ms, t0, _⟩ := x v hv
      have t1 : TS.TupInts h' v ms := by
        refine (t0.keeps fun b o e _ => (kk b o e).2).keeps fun b o e c => keep b o (fun z => ?_) e
        subst z
        have e' : some o = some (seqObj "list" vs.toArray 0) := e.symm.trans ha
        cases e'
        exact absurd (Value.type.inj c) (by decide)
      show TS.code 4 (TS.intsOf s.heap v) = TS.code 4 ns
      rw [t0.ints, ← t1.ints, t.ints]
    obtain ⟨fs, h1, h2', h3⟩ := TS.firsts_of hd vs x'
    refine ⟨tuples' true, fun Q E hq => ?_, fun p q hp hq => ?_⟩
    · refine PySem.W.kat_kind (T := .type "int") h1 (by omega) (fun f hm => ?_) (by rfl) ?_
      · obtain ⟨n, t, rfl⟩ := h3 f hm
        exact PySem.W.Looks.now
      · have e : (Value.type "int" != Value.type "tuple") = true := by first | decide +kernel | rfl | decide
        rw [e]
        exact hq
    · obtain ⟨ns, tp, lp, bp⟩ := x' _ hp
      obtain ⟨ms, tq, lq, bq⟩ := x' _ hq
      have ep := hr _ hp ns tp
      have eq2 := hr _ hq ms tq
      have el : SrtO.lt2 (fun v u => decide (TS.code 4 (TS.intsOf s.heap v) < TS.code 4 (TS.intsOf s.heap u))) p q = decide (TS.code 4 ns < TS.code 4 ms) := by
        show decide (TS.code 4 (TS.intsOf s.heap p.1) < TS.code 4 (TS.intsOf s.heap q.1)) = _
        rw [show TS.code 4 (TS.intsOf s.heap p.1) = TS.code 4 ns from ep, show TS.code 4 (TS.intsOf s.heap q.1) = TS.code 4 ms from eq2]
      rw [el]
      obtain ⟨a1, xs1, e1, ⟨o1, ho1, hc1, n1, hd1⟩, i1⟩ := tp
      obtain ⟨a2, xs2, e2, ⟨o2, ho2, hc2, n2, hd2⟩, i2⟩ := tq
      rw [e1, e2]
      refine PySem.W.kat_lt (s := { s with heap := h' }) ho1 hd1 ho2 hd2 ?_
      have sz : decide (xs1.size < xs2.size) = false := by
        have l1 := i1.length
        have l2 := i2.length
        rw [Array.length_toList] at l1 l2
        exact decide_eq_false (by omega)
      rw [sz]
      exact TS.lex_ints 0 i1 i2 (by omega) bp bq ⟨rfl, rfl⟩
  · refine h _ _ out hb.perm (hs.imp fun {a b} q => ?_) (fun b o e => sortedAll_old e) (Nat.le_succ _) (sortedAll_at s.heap vs out.toArray)
    have := of_decide_eq_false q
    omega
def bkN (h : Heap) (v : Value) : List Nat := (TS.intsOf h v).map Int.toNat
theorem bk_of {h : Heap} {v : Value} {l : List Nat} (t : TS.TupInts h v (iN l)) : bkN h v = l := by
  unfold bkN
  rw [t.ints]
  unfold iN
  rw [List.map_map]
  have : (Int.toNat ∘ fun (i : Nat) => (i : Int)) = id := by
    funext i
    exact Int.toNat_natCast i
  rw [this, List.map_id]
theorem rows_back {X : Cx} {pins : List (Addr × Obj)} {σ : L2.St} {w : Wd} {s : Shared} (I : Inv X pins σ w.H s) : ∀ {ls : List (List Nat)} {vs : List V} {us : List Value}, Tys (ls.map fun l => dat X.K (rowD l)) vs w.G → Vals vs us →
    us.map (bkN s.heap) = ls ∧ ∀ u ∈ us, ∃ l ∈ ls, ∃ a, u = .ref a ∧ Dp X.K w.G (.ref a) (rowD l) ∧ TS.TupInts s.heap u (iN l)
  | [], _, _, t, r => by
    cases t
    cases r
    exact ⟨rfl, fun u hu => (nomatch hu)⟩
  | l :: ls, _, _, t, r => by
    cases t with
    | cons t1 t2 =>
      cases r with
      | cons r1 r2 =>
        obtain ⟨h1, h2⟩ := rows_back I t2 r2
        obtain ⟨a, e⟩ := row_ref t1
        subst e
        have e2 : _ = Value.ref a := r1
        subst e2
        have ti := ints_of_row I (dp_mono w.sub _ _ t1)
        refine ⟨by rw [List.map_cons, h1, bk_of ti], fun u hu => ?_⟩
        rcases List.mem_cons.mp hu with q | q
        · subst q
          exact ⟨l, by simp, a, rfl, t1, ti⟩
        · obtain ⟨l', hl, z⟩ := h2 u q
          exact ⟨l', by simp [hl], z⟩
theorem backs_ty {K : PySem.W.Frag} {G : Hp} {h : Heap} : ∀ {us : List Value}, (∀ u ∈ us, ∃ l a, u = Value.ref a ∧ Dp K G (.ref a) (rowD l) ∧ TS.TupInts h u (iN l)) → Tys ((us.map (bkN h)).map fun l => dat K (rowD l)) (us.map backV) G
  | [], _ => .nil
  | u :: us, hu => by
    obtain ⟨l, a, e, h1, h2⟩ := hu u (by simp)
    subst e
    refine .cons ?_ (backs_ty fun u' h' => hu u' (by simp [h']))
    show Dp K G (.ref a) (rowD (bkN h (.ref a)))
    rw [bk_of h2]
    exact h1
section
variable {X : Cx} {e a b : Expr} {es : List Expr} {σ : L2.St} {w w' : Wd} {τ τ' : Ty} {pos : Pos} {ds : List (Option Ty)} {rest body : List Stmt} {D : Ends}
/-- sorted(xs): ls' is the one order of ls -/
theorem sortedR {p : Pos} {ls ls' : List (List Nat)} {d : Nat} (hm : X.mg "sorted" = none) (hd : 1 ≤ d) (hok : ∀ l ∈ ls, l.length = d ∧ ∀ x ∈ l, x < 4) (hz : ls.length ≤ 1000000) (hu : ∀ out : List (List Nat), out.Perm ls → out.Pairwise (fun a b => rk a ≤ rk b) → out = ls')
    (ha : Ev X σ w e (lstT X.K (ls.map fun l => dat X.K (rowD l)))) (hg : Gl X "sorted" := by rfl) (he : starEach [e] X.env = (false, eval e X.env) :: starEach [] X.env := by rfl) : Ev X σ w (.Call (.Name "sorted" p) [e] [] pos) (lstT X.K (ls'.map fun l => dat X.K (rowD l))) := by
  have cr : CallR X (.builtin "sorted") (fun xs H Q => ∃ (w2 : Wd) (a : Addr) (vs : List V), xs = [.ref a] ∧ w2.H = H ∧ SqL X.K w2.H a vs ∧ Tys (ls.map fun l => dat X.K (rowD l)) vs w2.G ∧ ∀ p ys, H p = none → Tys (ls'.map fun l => dat X.K (rowD l)) ys w2.G → Q (.ref p) (upd H p (.lst ys))) := by
    intro pins s σ H xs us Q I r ⟨w2, a, vs, ex, eH, hs, ht, q⟩
    subst ex eH
    obtain ⟨u, rfl, ru⟩ := r.one
    obtain rfl : u = Value.ref a := ru
    obtain ⟨its, rv, hl, hz'⟩ := I.list hs
    obtain ⟨b1, b2⟩ := rows_back I ht rv
    have lits : its.length = ls.length := by rw [← b1, List.length_map]
    refine sorted_tupsO hd hl.isList (by rw [lits]; exact Nat.le_of_lt (small_big hz)) (fun v hv => ?_) fun h' p out h1 h2 kp hp hn => ?_
    · obtain ⟨l, hl, a', _, _, ti⟩ := b2 v hv
      exact ⟨_, ti, by unfold iN; rw [List.length_map]; exact (hok l hl).1, bd_iN (hok l hl).2⟩
    · have b3 : ∀ u ∈ out, ∃ l a, u = Value.ref a ∧ Dp X.K w2.G (.ref a) (rowD l) ∧ TS.TupInts s.heap u (iN l) := fun u hu => by
        obtain ⟨l, _, a', z⟩ := b2 u (h1.mem_iff.mp hu)
        exact ⟨l, a', z⟩
      have e1 : out.map (bkN s.heap) = ls' := by
        refine hu _ (by rw [← b1]; exact h1.map _) ?_
        rw [List.pairwise_map]
        refine List.Pairwise.imp_of_mem ?_ h2
        intro x y hx hy hxy
        obtain ⟨lx, _, _, _, tx⟩ := b3 x hx
        obtain ⟨ly, _, _, _, ty⟩ := b3 y hy
        rw [bk_of tx, bk_of ty]
        rw [tx.ints, ty.ints] at hxy
        exact hxy
      have lo : out.length = ls.length := by rw [h1.length_eq, lits]
      have ty := backs_ty b3
      rw [e1] at ty
      obtain ⟨n, hn⟩ := hn
      refine ⟨.ref p, _, I.laid (t' := s.toks) (o := .lst (out.map backV)) kp hp ⟨by rw [List.length_map, lo]; exact Nat.le_of_lt (small_big hz), out, n, vals_back fun u hu => ?_, hn⟩, rfl, q p _ (I.hok.fresh hp) ty⟩
      obtain ⟨_, a', e, _⟩ := b3 u hu
      exact ⟨a', e⟩
  exact bi1 cr hm (by decide +kernel) ha (fun v w2 Q g ⟨a, vs, ev, hs, ht⟩ k => ⟨w2, a, vs, by rw [ev], rfl, w2.sub.seq hs, ht, fun p ys hp hy => k _ (w2.new p (.lst ys)) (Grow.new hp) ⟨p, ys, rfl, SqL.of Wd.new_at, hy.mono (Grow.new hp).g⟩⟩) hg (by decide) (by decide) he
end
end K27
/-! ## Math2 -/
/-! The mathematics, second part: walks of pairs that come back, their lengths, and the paper that no number is enough. -/
namespace K27

def prun (T : Tb) (x : Pr) (w : List Nat) : Pr := (run T x.1 w, run T x.2 w)
def pstp (T : Tb) (x : Pr) (d : Nat) : Pr := (stp T x.1 d, stp T x.2 d)
theorem prun_nil (T : Tb) (x : Pr) : prun T x [] = x := rfl
theorem prun_append (T : Tb) (x : Pr) (u w : List Nat) : prun T x (u ++ w) = prun T (prun T x u) w := by
  unfold prun
  rw [run_append, run_append]
theorem prun_snoc (T : Tb) (x : Pr) (d : Nat) (w : List Nat) : prun T x (w ++ [d]) = pstp T (prun T x w) d := by
  unfold prun pstp
  rw [run_snoc, run_snoc]
theorem prun_cons (T : Tb) (x : Pr) (d : Nat) (w : List Nat) : prun T x (d :: w) = prun T (pstp T x d) w := rfl
/-- both below n -/
def InP (n : Nat) (x : Pr) : Prop := x.1 < n ∧ x.2 < n
theorem MOk.pstp_in {T : Tb} {n : Nat} (M : MOk T n) {x : Pr} {d : Nat} (hx : InP n x) (hd : d < T.length) : InP n (pstp T x d) := ⟨M.stp_lt hx.1 hd, M.stp_lt hx.2 hd⟩
theorem MOk.prun_in {T : Tb} {n : Nat} (M : MOk T n) {x : Pr} {w : List Nat} (hx : InP n x) (hw : Log T w) : InP n (prun T x w) := ⟨M.run_lt hx.1 hw, M.run_lt hx.2 hw⟩
theorem Log.nil (T : Tb) : Log T [] := fun _ h => nomatch h

/-- a log that leads a pair back to itself -/
structure Cl (T : Tb) (h : Pr) (w : List Nat) : Prop where
  log : Log T w
  eq : prun T h w = h
theorem Cl.nil (T : Tb) (h : Pr) : Cl T h [] := ⟨Log.nil T, rfl⟩
theorem Cl.append {T : Tb} {h : Pr} {u w : List Nat} (a : Cl T h u) (b : Cl T h w) : Cl T h (u ++ w) := ⟨a.log.append b.log, by rw [prun_append, a.eq, b.eq]⟩
theorem Cl.rep {T : Tb} {h : Pr} {w : List Nat} (a : Cl T h w) : ∀ k : Nat, ∃ u, Cl T h u ∧ u.length = k * w.length
  | 0 => ⟨[], Cl.nil T h, by simp⟩
  | k + 1 => by
    obtain ⟨u, hu, e⟩ := a.rep k
    exact ⟨u ++ w, hu.append a, by rw [List.length_append, e, Nat.succ_mul]⟩
/-- a pair that home leads to, and that leads home -/
def Both (T : Tb) (h x : Pr) : Prop := (∃ w, Log T w ∧ prun T h w = x) ∧ ∃ w, Log T w ∧ prun T x w = h
/-- what rounds_part hands back -/
structure IsPart (T : Tb) (h : Pr) (d : Nat) : Prop where
  st : ∃ st : Pr → Nat, st h = 0 ∧ (∀ x, Both T h x → ∃ w, Log T w ∧ prun T h w = x ∧ w.length = st x) ∧
    (∀ u e, e < T.length → Both T h u → Both T h (pstp T u e) → (d : Int) ∣ (st u : Int) + 1 - (st (pstp T u e) : Int)) ∧
    ∀ g : Nat, (∀ u e, e < T.length → Both T h u → Both T h (pstp T u e) → (g : Int) ∣ (st u : Int) + 1 - (st (pstp T u e) : Int)) → g ∣ d
theorem both_home (T : Tb) (h : Pr) : Both T h h := ⟨⟨[], Log.nil T, rfl⟩, ⟨[], Log.nil T, rfl⟩⟩
theorem IsPart.closed {T : Tb} {h : Pr} {d : Nat} (P : IsPart T h d) {w : List Nat} (c : Cl T h w) : d ∣ w.length := by
  obtain ⟨st, s0, _, dv, _⟩ := P.st
  have key : ∀ (v u : List Nat), w = u ++ v → (d : Int) ∣ (u.length : Int) - (st (prun T h u) : Int) → (d : Int) ∣ (w.length : Int) - (st (prun T h w) : Int) := by
    intro v
    induction v with
    | nil =>
      intro u e hu
      rw [List.append_nil] at e
      rw [e]
      exact hu
    | cons x v ih =>
      intro u e hu
      have e2 : w = (u ++ [x]) ++ v := by rw [e]; simp
      refine ih (u ++ [x]) e2 ?_
      have lw := c.log
      have lu : Log T u := by rw [e] at lw; exact lw.left
      have lx : x < T.length := by rw [e] at lw; exact lw x (by simp)
      have lux : Log T (u ++ [x]) := lu.snoc lx
      have lv : Log T v := by rw [e2] at lw; exact lw.right
      have b1 : Both T h (prun T h u) := by
        refine ⟨⟨u, lu, rfl⟩, ⟨x :: v, ?_, ?_⟩⟩
        · rw [e] at lw; exact lw.right
        · rw [← prun_append, ← e]; exact c.eq
      have b2 : Both T h (pstp T (prun T h u) x) := by
        rw [← prun_snoc]
        exact ⟨⟨u ++ [x], lux, rfl⟩, ⟨v, lv, by rw [← prun_append, ← e2]; exact c.eq⟩⟩
      have q := dv _ x lx b1 b2
      rw [prun_snoc, List.length_append, List.length_singleton]
      have := Int.dvd_add hu q
      have e3 : (u.length : Int) - (st (prun T h u) : Int) + ((st (prun T h u) : Int) + 1 - (st (pstp T (prun T h u) x) : Int)) = ((u.length + 1 : Nat) : Int) - (st (pstp T (prun T h u) x) : Int) := by omega
      rw [e3] at this
      exact this
  have q := key w [] rfl (by rw [prun_nil, s0]; simp)
  rw [c.eq, s0] at q
  have q2 : (d : Int) ∣ (w.length : Int) := by simpa using q
  exact Int.natCast_dvd_natCast.mp q2
theorem IsPart.zero {T : Tb} {h : Pr} (P : IsPart T h 0) {w : List Nat} (c : Cl T h w) : w = [] := by
  have q := P.closed c
  have : w.length = 0 := Nat.eq_zero_of_zero_dvd q
  exact List.length_eq_zero_iff.mp this
theorem IsPart.pos {T : Tb} {h : Pr} {d : Nat} (P : IsPart T h d) (hd : d ≠ 0) : ∃ w, Cl T h w ∧ 1 ≤ w.length := by
  obtain ⟨st, _, _, _, gr⟩ := P.st
  refine Classical.byContradiction fun no => hd ?_
  refine Nat.eq_zero_of_zero_dvd (gr 0 fun u e he b1 b2 => ?_)
  obtain ⟨w1, l1, e1⟩ := b1.1
  obtain ⟨w2, l2, e2⟩ := b2.2
  refine (no ⟨(w1 ++ [e]) ++ w2, ⟨(l1.snoc he).append l2, ?_⟩, by simp; omega⟩).elim
  rw [prun_append, prun_snoc, e1, e2]
/-- an integer that is a closed length but for multiples of the size -/
def InG (T : Tb) (h : Pr) (size : Nat) (z : Int) : Prop := ∃ w, Cl T h w ∧ (size : Int) ∣ (w.length : Int) - z
theorem InG.add {T : Tb} {h : Pr} {size : Nat} {y z : Int} (a : InG T h size y) (b : InG T h size z) : InG T h size (y + z) := by
  obtain ⟨u, cu, du⟩ := a
  obtain ⟨w, cw, dw⟩ := b
  refine ⟨u ++ w, cu.append cw, ?_⟩
  have := Int.dvd_add du dw
  rw [List.length_append]
  have e : (u.length : Int) - y + ((w.length : Int) - z) = ((u.length + w.length : Nat) : Int) - (y + z) := by omega
  rw [e] at this
  exact this
theorem InG.neg {T : Tb} {h : Pr} {size : Nat} (hs : 1 ≤ size) {z : Int} (a : InG T h size z) : InG T h size (-z) := by
  obtain ⟨u, cu, du⟩ := a
  obtain ⟨w, cw, ew⟩ := cu.rep (size - 1)
  refine ⟨w, cw, ?_⟩
  rw [ew]
  obtain ⟨k, hk⟩ := du
  refine ⟨(u.length : Int) - k, ?_⟩
  have e1 : (((size - 1) * u.length : Nat) : Int) = (size : Int) * (u.length : Int) - (u.length : Int) := by
    rw [Int.natCast_mul, Int.natCast_sub hs, Int.sub_mul]
    simp
  rw [e1, Int.mul_sub, ← hk]
  omega
theorem InG.zero (T : Tb) (h : Pr) (size : Nat) : InG T h size 0 := ⟨[], Cl.nil T h, by simp⟩
theorem InG.mulNat {T : Tb} {h : Pr} {size : Nat} {z : Int} (a : InG T h size z) : ∀ k : Nat, InG T h size ((k : Int) * z)
  | 0 => by
    have := InG.zero T h size
    simpa using this
  | k + 1 => by
    have := (a.mulNat k).add a
    have e : (k : Int) * z + z = ((k + 1 : Nat) : Int) * z := by
      rw [Int.natCast_add, Int.add_mul]
      simp
    rw [e] at this
    exact this
theorem InG.mulInt {T : Tb} {h : Pr} {size : Nat} (hs : 1 ≤ size) {z : Int} (a : InG T h size z) (k : Int) : InG T h size (k * z) := by
  rcases Int.le_total 0 k with hk | hk
  · obtain ⟨n, rfl⟩ := Int.eq_ofNat_of_zero_le hk
    exact a.mulNat n
  · obtain ⟨n, hn⟩ := Int.eq_ofNat_of_zero_le (show 0 ≤ -k by omega)
    have e : k * z = -((n : Int) * z) := by
      rw [← hn, Int.neg_mul, Int.neg_neg]
    rw [e]
    exact (a.mulNat n).neg hs
/-- each number that the part divides is a closed length, but for multiples of the size -/
theorem IsPart.reach {T : Tb} {h : Pr} {d : Nat} (P : IsPart T h d) {size : Nat} (hs : 1 ≤ size) {r : Int} (hr : (d : Int) ∣ r) : InG T h size r := by
  obtain ⟨st, s0, sw, _, gr⟩ := P.st
  -- the least positive one
  have inS : InG T h size (size : Int) := ⟨[], Cl.nil T h, ⟨-1, by simp⟩⟩
  obtain ⟨g, g1, gG, gmin⟩ : ∃ g : Nat, 1 ≤ g ∧ InG T h size (g : Int) ∧ ∀ j : Nat, 1 ≤ j → j < g → ¬ InG T h size (j : Int) := by
    have go : ∀ k : Nat, ∀ m : Nat, m ≤ k → 1 ≤ m → InG T h size (m : Int) → ∃ g : Nat, 1 ≤ g ∧ InG T h size (g : Int) ∧ ∀ j : Nat, 1 ≤ j → j < g → ¬ InG T h size (j : Int) := by
      intro k
      induction k with
      | zero => intro m h1 h2; omega
      | succ k ih =>
        intro m hm h1 hG
        by_cases hx : ∃ j : Nat, 1 ≤ j ∧ j < m ∧ InG T h size (j : Int)
        · obtain ⟨j, j1, jm, jG⟩ := hx
          exact ih j (by omega) j1 jG
        · exact ⟨m, h1, hG, fun j j1 jm jG => hx ⟨j, j1, jm, jG⟩⟩
    exact go size size (Nat.le_refl _) hs inS
  have gdv : ∀ z : Int, InG T h size z → (g : Int) ∣ z := by
    intro z hz
    have hm : InG T h size (z % (g : Int)) := by
      have q := hz.add ((gG.mulInt hs (z / (g : Int))).neg hs)
      have e : z + -(z / (g : Int) * (g : Int)) = z % (g : Int) := by
        have h0 := Int.mul_ediv_add_emod z (g : Int)
        rw [Int.mul_comm] at h0
        omega
      rw [e] at q
      exact q
    have hp : (0 : Int) < (g : Int) := by omega
    have b1 := Int.emod_nonneg z (Int.ne_of_gt hp)
    have b2 := Int.emod_lt_of_pos z hp
    obtain ⟨m, em⟩ := Int.eq_ofNat_of_zero_le b1
    rw [em] at hm
    have : m = 0 := by
      refine Classical.byContradiction fun hne => gmin m (by omega) (by omega) hm
    rw [this] at em
    exact Int.dvd_of_emod_eq_zero em
  have gd : g ∣ d := by
    refine gr g fun u e he b1 b2 => gdv _ ?_
    obtain ⟨w1, l1, e1, n1⟩ := sw _ b1
    obtain ⟨w2, l2, e2, n2⟩ := sw _ b2
    obtain ⟨v, lv, ev⟩ := b2.2
    have c1 : Cl T h ((w1 ++ [e]) ++ v) := ⟨(l1.snoc he).append lv, by rw [prun_append, prun_snoc, e1, ev]⟩
    have c2 : Cl T h (w2 ++ v) := ⟨l2.append lv, by rw [prun_append, e2, ev]⟩
    have q1 : InG T h size (((w1 ++ [e]) ++ v).length : Int) := ⟨_, c1, by simp⟩
    have q2 : InG T h size ((w2 ++ v).length : Int) := ⟨_, c2, by simp⟩
    have q := q1.add (q2.neg hs)
    have e3 : (((w1 ++ [e]) ++ v).length : Int) + -((w2 ++ v).length : Int) = (st u : Int) + 1 - (st (pstp T u e) : Int) := by
      rw [List.length_append, List.length_append, List.length_append, n1, n2, List.length_singleton]
      omega
    rw [e3] at q
    exact q
  obtain ⟨k, hk⟩ := Int.dvd_trans (Int.natCast_dvd_natCast.mpr gd) hr
  have := gG.mulInt hs k
  rw [Int.mul_comm, ← hk] at this
  exact this
/-- .. as a walk whose length leaves a told rest -/
theorem IsPart.walk {T : Tb} {h : Pr} {d : Nat} (P : IsPart T h d) {size : Nat} (hs : 1 ≤ size) {r : Nat} (hr : r < size) (hd : d ∣ r) : ∃ w, Cl T h w ∧ w.length % size = r := by
  obtain ⟨w, cw, k, hk⟩ := P.reach hs (r := (r : Int)) (Int.natCast_dvd_natCast.mpr hd)
  refine ⟨w, cw, ?_⟩
  have e : (w.length : Int) = (r : Int) + (size : Int) * k := by omega
  have e2 : ((w.length % size : Nat) : Int) = (r : Int) := by
    rw [Int.natCast_emod, e, Int.add_mul_emod_self_left, Int.emod_eq_of_lt (by omega) (by omega)]
  omega

/-! ### a walk long enough meets a pair twice -/
theorem dup_of_many {N : Nat} : ∀ (l : List Nat), (∀ x ∈ l, x < N) → l.Nodup → l.length ≤ N := by
  induction N with
  | zero =>
    intro l h _
    cases l with
    | nil => exact Nat.le_refl _
    | cons x r => exact absurd (h x (by simp)) (Nat.not_lt_zero _)
  | succ N ih =>
    intro l h nd
    have h1 : (l.filter fun x => decide (x ≠ N)).length ≤ N := by
      refine ih _ (fun x hx => ?_) (nd.sublist List.filter_sublist)
      obtain ⟨a, b⟩ := List.mem_filter.mp hx
      have := h x a
      have b' : x ≠ N := of_decide_eq_true b
      omega
    have h2 : l.length ≤ (l.filter fun x => decide (x ≠ N)).length + 1 := by
      clear h h1 ih
      induction l with
      | nil => simp
      | cons x r ih =>
        obtain ⟨hx, hr⟩ := List.nodup_cons.mp nd
        by_cases e : x = N
        · subst e
          have : r.filter (fun y => decide (y ≠ x)) = r := by
            rw [List.filter_eq_self]
            intro y hy
            exact decide_eq_true fun q => hx (q ▸ hy)
          rw [List.filter_cons, if_neg (by simp), this]
          simp
        · rw [List.filter_cons, if_pos (by simp [e]), List.length_cons, List.length_cons]
          have := ih hr
          omega
    omega
/-- seventeen places, pairs below four: two are the same -/
theorem two_places (f : Nat → Pr) (hf : ∀ i, i ≤ 16 → InP 4 (f i)) : ∃ i j, i < j ∧ j ≤ 16 ∧ f i = f j := by
  refine Classical.byContradiction fun no => ?_
  let g : Nat → Nat := fun i => (f i).1 * 4 + (f i).2
  have gi : ∀ i j, i ≤ 16 → j ≤ 16 → g i = g j → f i = f j := by
    intro i j hi hj e
    obtain ⟨a1, a2⟩ := hf i hi
    obtain ⟨b1, b2⟩ := hf j hj
    have e' : (f i).1 * 4 + (f i).2 = (f j).1 * 4 + (f j).2 := e
    have e1 : (f i).1 = (f j).1 := by omega
    have e2 : (f i).2 = (f j).2 := by omega
    exact Prod.ext e1 e2
  have nd : ((List.range 17).map g).Nodup := by
    rw [List.nodup_iff_pairwise_ne, List.pairwise_map]
    refine List.Pairwise.imp_of_mem ?_ (List.pairwise_lt_range (n := 17))
    intro a b ha hb hab e
    rw [List.mem_range] at ha hb
    exact no ⟨a, b, hab, by omega, gi a b (by omega) (by omega) e⟩
  have := dup_of_many (N := 16) ((List.range 17).map g) (fun x hx => by
    obtain ⟨i, hi, e⟩ := List.mem_map.mp hx
    rw [List.mem_range] at hi
    obtain ⟨a1, a2⟩ := hf i (by omega)
    have e' : (f i).1 * 4 + (f i).2 = x := e
    omega) nd
  rw [List.length_map, List.length_range] at this
  omega
def fact : Nat → Nat
  | 0 => 1
  | k + 1 => (k + 1) * fact k
theorem fact_pos : ∀ k, 1 ≤ fact k
  | 0 => Nat.le_refl _
  | k + 1 => Nat.mul_pos (Nat.succ_pos k) (fact_pos k)
theorem dvd_fact {j : Nat} (h1 : 1 ≤ j) : ∀ k, j ≤ k → j ∣ fact k
  | 0, h2 => by omega
  | k + 1, h2 => by
    rcases Nat.lt_or_ge j (k + 1) with h | h
    · exact Nat.dvd_trans (dvd_fact h1 k (by omega)) ⟨k + 1, Nat.mul_comm (k + 1) (fact k)⟩
    · have e : j = k + 1 := by omega
      rw [e]
      exact ⟨fact k, rfl⟩
/-- a home by which the paper goes: a pair that comes back, led to from (p, q), leading to (x, p), x another state; what divides all its rounds divides both ways together -/
structure GoodHome (T : Tb) (n p : Nat) (h : Pr) : Prop where
  ins : InP n h
  round : ∃ c, Cl T h c ∧ 1 ≤ c.length
  ways : ∃ q w1 w2, q < n ∧ Log T w1 ∧ Log T w2 ∧ prun T (p, q) w1 = h ∧ (prun T h w2).2 = p ∧ (prun T h w2).1 ≠ p ∧ ∀ g, (∀ c, Cl T h c → g ∣ c.length) → g ∣ w1.length + w2.length
theorem good_home {T : Tb} {n p N : Nat} (M : MOk T n) (hp : p < n) (hN : 1 ≤ N) (h : ∀ k, 1 ≤ k → Parts T n p (k * N)) : ∃ x, GoodHome T n p x := by
  have n4 := M.n4
  obtain ⟨w, q, hw, hl, hq, e1, e2⟩ := h (17 * fact 16) (Nat.mul_pos (by decide) (fact_pos 16))
  have hlong : 17 ≤ w.length := by
    rw [hl]
    calc 17 = 17 * 1 * 1 := by decide
      _ ≤ 17 * fact 16 * N := Nat.mul_le_mul (Nat.mul_le_mul (Nat.le_refl _) (fact_pos 16)) hN
  obtain ⟨i, j, hij, hj, e⟩ := two_places (fun i => prun T (p, q) (w.take i)) (fun i _ => by
    have := M.prun_in (x := (p, q)) ⟨hp, hq⟩ (show Log T (w.take i) from fun d hd => hw d (List.mem_of_mem_take hd))
    exact ⟨Nat.lt_of_lt_of_le this.1 n4, Nat.lt_of_lt_of_le this.2 n4⟩)
  have e : prun T (p, q) (w.take i) = prun T (p, q) (w.take j) := e
  have l1 : Log T (w.take i) := fun d hd => hw d (List.mem_of_mem_take hd)
  have l2 : Log T (w.drop i) := fun d hd => hw d (List.mem_of_mem_drop hd)
  have sp : w.take i ++ w.drop i = w := List.take_append_drop i w
  have cut : w.take j = w.take i ++ (w.drop i).take (j - i) := by
    have e3 : j = i + (j - i) := by omega
    conv => lhs; rw [e3]
    rw [List.take_add]
  have c0 : Cl T (prun T (p, q) (w.take i)) ((w.drop i).take (j - i)) := by
    refine ⟨fun d hd => l2 d (List.mem_of_mem_take hd), ?_⟩
    rw [← prun_append, ← cut, ← e]
  have cl : ((w.drop i).take (j - i)).length = j - i := by
    rw [List.length_take, List.length_drop]
    omega
  have endw : prun T (prun T (p, q) (w.take i)) (w.drop i) = (run T p w, run T q w) := by
    rw [← prun_append, sp]
    rfl
  refine ⟨prun T (p, q) (w.take i), M.prun_in ⟨hp, hq⟩ l1, ⟨_, c0, by rw [cl]; omega⟩, q, w.take i, w.drop i, hq, l1, l2, rfl, by rw [endw]; exact e1, by rw [endw]; exact e2, fun g hg => ?_⟩
  have g1 := hg _ c0
  rw [cl] at g1
  have e4 : (w.take i).length + (w.drop i).length = w.length := by rw [← List.length_append, sp]
  rw [e4, hl]
  have : g ∣ fact 16 := Nat.dvd_trans g1 (dvd_fact (by omega) 16 (by omega))
  exact Nat.dvd_trans this (Nat.dvd_trans ⟨17, Nat.mul_comm _ _⟩ ⟨N, rfl⟩)
end K27
/-! ## Math3 -/
/-! The mathematics, third part: lists in order, lists without doubles, the number of layers. -/
namespace K27
/-! ### order -/
theorem sorted_unique {α : Type} {f : α → Int} : ∀ {l m : List α}, (∀ x ∈ l, ∀ y ∈ l, f x = f y → x = y) → l.Perm m → l.Pairwise (fun a b => f a ≤ f b) → m.Pairwise (fun a b => f a ≤ f b) → l = m
  | [], m, _, p, _, _ => (List.nil_perm.mp p).symm
  | x :: l, [], _, p, _, _ => by
    have := p.length_eq
    simp at this
  | x :: l, y :: m, inj, p, h1, h2 => by
    rw [List.pairwise_cons] at h1 h2
    have hy : y ∈ x :: l := p.mem_iff.mpr (by simp)
    have hx : x ∈ y :: m := p.mem_iff.mp (by simp)
    have e : x = y := by
      refine inj x (by simp) y hy ?_
      have a : f x ≤ f y := by
        rcases List.mem_cons.mp hy with q | q
        · rw [q]; exact Int.le_refl _
        · exact h1.1 y q
      have b : f y ≤ f x := by
        rcases List.mem_cons.mp hx with q | q
        · rw [q]; exact Int.le_refl _
        · exact h2.1 x q
      omega
    subst e
    have p' : l.Perm m := List.Perm.cons_inv p
    rw [sorted_unique (fun a ha b hb => inj a (by simp [ha]) b (by simp [hb])) p' h1.2 h2.2]
/-! ### without doubles, in the order of the first -/
section
variable {α : Type} [DecidableEq α]
def addN (l : List α) (x : α) : List α := if x ∈ l then l else l ++ [x]
def dd (xs : List α) : List α := xs.foldl addN []
theorem dd_snoc (xs : List α) (x : α) : dd (xs ++ [x]) = addN (dd xs) x := by
  unfold dd
  rw [List.foldl_append]
  rfl
theorem mem_addN {l : List α} {x y : α} : y ∈ addN l x ↔ y ∈ l ∨ y = x := by
  unfold addN
  by_cases h : x ∈ l
  · rw [if_pos h]
    constructor
    · exact .inl
    · rintro (q | q)
      · exact q
      · rw [q]; exact h
  · rw [if_neg h]
    simp
theorem nodup_addN {l : List α} {x : α} (h : l.Nodup) : (addN l x).Nodup := by
  unfold addN
  by_cases q : x ∈ l
  · rw [if_pos q]; exact h
  · rw [if_neg q]
    refine List.nodup_append.mpr ⟨h, by simp, ?_⟩
    intro a ha b hb e
    have hb : b = x := by simpa using hb
    rw [e, hb] at ha
    exact q ha
theorem fold_mem (xs : List α) : ∀ (l : List α) (y : α), y ∈ xs.foldl addN l ↔ y ∈ l ∨ y ∈ xs := by
  induction xs with
  | nil => intro l y; simp
  | cons x xs ih =>
    intro l y
    show y ∈ xs.foldl addN (addN l x) ↔ _
    rw [ih, mem_addN]
    simp only [List.mem_cons]
    constructor
    · rintro ((h | h) | h)
      · exact .inl h
      · exact .inr (.inl h)
      · exact .inr (.inr h)
    · rintro (h | h | h)
      · exact .inl (.inl h)
      · exact .inl (.inr h)
      · exact .inr h
theorem fold_nodup (xs : List α) : ∀ {l : List α}, l.Nodup → (xs.foldl addN l).Nodup := by
  induction xs with
  | nil => intro l h; exact h
  | cons x xs ih => intro l h; exact ih (nodup_addN h)
theorem mem_dd {xs : List α} {y : α} : y ∈ dd xs ↔ y ∈ xs := by
  unfold dd
  rw [fold_mem]
  simp
theorem nodup_dd (xs : List α) : (dd xs).Nodup := fold_nodup xs List.nodup_nil
theorem fold_len (xs : List α) : ∀ (l : List α), (xs.foldl addN l).length ≤ l.length + xs.length := by
  induction xs with
  | nil => intro l; simp
  | cons x xs ih =>
    intro l
    have h1 := ih (addN l x)
    have h2 : (addN l x).length ≤ l.length + 1 := by
      unfold addN
      split
      · omega
      · simp
    show (xs.foldl addN (addN l x)).length ≤ _
    rw [List.length_cons]
    omega
theorem dd_len (xs : List α) : (dd xs).length ≤ xs.length := by
  have := fold_len xs ([] : List α)
  simpa [dd] using this
/-- two lists without doubles, of the same members -/
theorem perm_of_mem : ∀ {l m : List α}, l.Nodup → m.Nodup → (∀ x, x ∈ l ↔ x ∈ m) → l.Perm m := by
  intro l
  induction l with
  | nil =>
    intro m _ _ h
    cases m with
    | nil => exact List.Perm.refl _
    | cons y m => exact absurd ((h y).mpr (by simp)) (by simp)
  | cons x l ih =>
    intro m h1 h2 h
    rw [List.nodup_cons] at h1
    have hx : x ∈ m := (h x).mp (by simp)
    refine (List.Perm.cons x (ih h1.2 (h2.erase x) fun y => ?_)).trans (List.perm_cons_erase hx).symm
    rw [List.Nodup.mem_erase_iff h2]
    constructor
    · intro hy
      refine ⟨fun e => h1.1 (e ▸ hy), (h y).mp (by simp [hy])⟩
    · rintro ⟨hne, hy⟩
      rcases List.mem_cons.mp ((h y).mpr hy) with q | q
      · exact absurd q hne
      · exact q
end
/-! ### the pairs in order -/
def prk (x : Pr) : Int := (x.1 : Int) * 4 + x.2
theorem all16_sorted : all16.Pairwise (fun a b => prk a < prk b) := by decide +kernel
theorem canon_sorted (S : List Pr) : (canon S).Pairwise (fun a b => prk a < prk b) := all16_sorted.sublist List.filter_sublist
theorem nodup_of_lt {α : Type} {f : α → Int} {l : List α} (h : l.Pairwise (fun a b => f a < f b)) : l.Nodup := by
  rw [List.nodup_iff_pairwise_ne]
  exact h.imp fun {a b} q e => by
    rw [e] at q
    omega
theorem prk_inj {x y : Pr} (hx : x.1 < 4 ∧ x.2 < 4) (hy : y.1 < 4 ∧ y.2 < 4) (h : prk x = prk y) : x = y := by
  unfold prk at h
  exact Prod.ext (by omega) (by omega)
theorem sort_is_canon {xs out : List Pr} (h : ∀ x ∈ xs, x.1 < 4 ∧ x.2 < 4) (p : out.Perm (dd xs)) (s : out.Pairwise (fun a b => prk a ≤ prk b)) : out = canon xs := by
  have hm : ∀ x, x ∈ out ↔ x ∈ xs := fun x => p.mem_iff.trans mem_dd
  have hc : ∀ x, x ∈ canon xs ↔ x ∈ xs := mem_canon h
  refine sorted_unique (fun x hx y hy e => prk_inj (h x ((hm x).mp hx)) (h y ((hm y).mp hy)) e) ?_ s ((canon_sorted xs).imp fun q => Int.le_of_lt q)
  refine perm_of_mem (p.nodup_iff.mpr (nodup_dd xs)) (nodup_of_lt (canon_sorted xs)) fun x => (hm x).trans (hc x).symm
/-! ### how many layers there are -/
def bits : List Bool → Nat
  | [] => 0
  | b :: r => 2 * bits r + b.toNat
theorem bits_lt : ∀ l : List Bool, bits l < 2 ^ l.length
  | [] => by decide
  | b :: r => by
    have := bits_lt r
    have h1 : b.toNat ≤ 1 := by cases b <;> decide
    show 2 * bits r + b.toNat < 2 ^ (r.length + 1)
    rw [Nat.pow_succ]
    omega
theorem bits_inj : ∀ {l m : List Bool}, l.length = m.length → bits l = bits m → l = m
  | [], [], _, _ => rfl
  | [], _ :: _, h, _ => by simp at h
  | _ :: _, [], h, _ => by simp at h
  | a :: l, b :: m, h, e => by
    have e : 2 * bits l + a.toNat = 2 * bits m + b.toNat := e
    have h1 : a.toNat ≤ 1 := by cases a <;> decide
    have h2 : b.toNat ≤ 1 := by cases b <;> decide
    have e1 : bits l = bits m := by omega
    have e2 : a.toNat = b.toNat := by omega
    rw [bits_inj (by simpa using h) e1]
    congr 1
    cases a <;> cases b <;> first | rfl | (revert e2; decide)
def chr (S : List Pr) : List Bool := all16.map fun x => decide (x ∈ S)
theorem canon_of_chr {S S' : List Pr} (h : chr S = chr S') : canon S = canon S' := by
  unfold canon
  refine List.filter_congr fun x hx => ?_
  obtain ⟨i, hi, e⟩ := List.getElem_of_mem hx
  have h1 := congrArg (fun l => l[i]?) h
  simp only [chr, List.getElem?_map, List.getElem?_eq_getElem hi, Option.map_some, e] at h1
  exact Option.some.inj h1
/-- the first meeting again of a layer -/
structure Wk (T : Tb) (n p e c : Nat) : Prop where
  rnd : Rnd T n p e c
  nd : ∀ i j, i < j → j < e + c → lay T n p i ≠ lay T n p j
theorem chr_len (S : List Pr) : (chr S).length = 16 := by
  unfold chr
  rw [List.length_map]
  rfl
theorem few_layers {T : Tb} {n p M : Nat} (nd : ∀ i j, i < j → j < M → lay T n p i ≠ lay T n p j) : M ≤ 65537 := by
  refine Nat.le_of_not_lt fun hM => ?_
  let g : Nat → Nat := fun i => bits (chr (imgs T (lay T n p i)))
  have gi : ∀ i j, g i = g j → lay T n p (i + 1) = lay T n p (j + 1) := fun i j e => by
    have e1 := bits_inj (by rw [chr_len, chr_len]) e
    exact canon_of_chr e1
  have hnd : ((List.range (M - 1)).map g).Nodup := by
    rw [List.nodup_iff_pairwise_ne, List.pairwise_map]
    refine List.Pairwise.imp_of_mem ?_ (List.pairwise_lt_range (n := M - 1))
    intro a b ha hb hab e
    rw [List.mem_range] at ha hb
    exact nd (a + 1) (b + 1) (by omega) (by omega) (gi a b e)
  have := dup_of_many (N := 65536) ((List.range (M - 1)).map g) (fun x hx => by
    obtain ⟨i, _, e⟩ := List.mem_map.mp hx
    have h1 := bits_lt (chr (imgs T (lay T n p i)))
    rw [chr_len] at h1
    have e : bits (chr (imgs T (lay T n p i))) = x := e
    omega) hnd
  rw [List.length_map, List.length_range] at this
  omega
theorem Wk.len {T : Tb} {n p e c : Nat} (W : Wk T n p e c) : e + c ≤ 65537 := few_layers W.nd
theorem wk_ex (T : Tb) (n p : Nat) : ∃ e c, Wk T n p e c := by
  -- the least M whose layer stands ahead of it already
  have some_ : ∃ M, ∃ i, i < M ∧ lay T n p i = lay T n p M := by
    refine Classical.byContradiction fun no => ?_
    have := few_layers (T := T) (n := n) (p := p) (M := 65538) fun i j hij _ e => no ⟨j, i, hij, e⟩
    omega
  have least : ∀ k, (∃ M, M ≤ k ∧ ∃ i, i < M ∧ lay T n p i = lay T n p M) → ∃ M, (∃ i, i < M ∧ lay T n p i = lay T n p M) ∧ ∀ j, j < M → ∀ i, i < j → lay T n p i ≠ lay T n p j := by
    intro k
    induction k with
    | zero =>
      rintro ⟨M, hM, i, hi, _⟩
      omega
    | succ k ih =>
      rintro ⟨M, hM, q⟩
      by_cases h : ∃ M, M ≤ k ∧ ∃ i, i < M ∧ lay T n p i = lay T n p M
      · exact ih h
      · refine ⟨M, q, fun j hj i hi e => h ⟨j, by omega, i, hi, e⟩⟩
  obtain ⟨M0, h0⟩ := some_
  obtain ⟨M, ⟨i, hi, e⟩, hl⟩ := least M0 ⟨M0, Nat.le_refl _, h0⟩
  refine ⟨i, M - i, ⟨by omega, ?_⟩, fun a b hab hb => hl b (by omega) a hab⟩
  have e2 : i + (M - i) = M := by omega
  rw [e2]
  exact e.symm
end K27
/-! ## Defs4 -/
/-! The pairs behind one deed. -/
namespace K27
open PySem L2 PySem.Spec PyProof.Rows
def prD (x : Pr) : PyData := .tuple [.int (x.1 : Nat), .int (x.2 : Nat)]
def pl (x : Pr) : List Nat := [x.1, x.2]
abbrev prN (x : Pr) : List NK := [.num (x.1 : Nat), .num (x.2 : Nat)]
def prK (x : Pr) : NK := .tup (prN x)
def layD (l : List Pr) : PyData := .tuple (l.map prD)
def layK (l : List Pr) : List NK := l.map prK
theorem prK_data (x : Pr) : NestedKey.data (prK x) = prD x := by
  unfold prK prD
  simp [NestedKey.data, NestedKey.datas]
theorem layK_data : ∀ l : List Pr, NestedKey.data (.tup (layK l)) = layD l := by
  have go : ∀ l : List Pr, NestedKey.datas (layK l) = l.map prD := by
    intro l
    induction l with
    | nil => rfl
    | cons x l ih =>
      show NestedKey.data (prK x) :: NestedKey.datas (layK l) = prD x :: l.map prD
      rw [prK_data, ih]
  intro l
  show PyData.tuple (NestedKey.datas (layK l)) = _
  rw [go]
  rfl
theorem prK_depth (x : Pr) : (prK x).depth ≤ 8 := by
  unfold prK
  simp [NestedKey.depth, NestedKey.depthAll]
theorem layK_depth (l : List Pr) : (NestedKey.tup (layK l)).depth ≤ 8 := by
  have go : NestedKey.depthAll (layK l) ≤ 1 := by
    induction l with
    | nil => simp [layK, NestedKey.depthAll]
    | cons x l ih =>
      show NestedKey.depthAll (prK x :: layK l) ≤ 1
      simp only [NestedKey.depthAll]
      have : (prK x).depth ≤ 1 := by
        unfold prK
        simp [NestedKey.depth, NestedKey.depthAll]
      omega
  simp only [NestedKey.depth]
  omega
theorem prK_inj {x y : Pr} (h : prK x = prK y) : x = y := by
  unfold prK at h
  injection h with h
  injection h with h1 h2
  injection h1 with h1
  injection h2 with h2 _
  injection h2 with h2
  exact Prod.ext (by omega) (by omega)
theorem layK_inj {l m : List Pr} (h : layK l = layK m) : l = m := by
  induction l generalizing m with
  | nil =>
    cases m with
    | nil => rfl
    | cons y m => cases h
  | cons x l ih =>
    cases m with
    | nil => cases h
    | cons y m =>
      injection h with h1 h2
      rw [prK_inj h1, ih h2]
/-! ### the set of pairs found, as a dict -/
def kvT (l : List Pr) : List (NK × PyData) := l.map fun x => (prK x, .bool true)
theorem kvT_get (l : List Pr) (x : Pr) : (gt? (kvT l) (prK x)).isSome = decide (x ∈ l) := by
  rw [gt_isSome]
  congr 1
  unfold kvT
  rw [List.map_map]
  apply propext
  constructor
  · intro h
    obtain ⟨y, hy, e⟩ := List.mem_map.mp h
    rw [← prK_inj e]
    exact hy
  · intro h
    exact List.mem_map.mpr ⟨x, h, rfl⟩
theorem kvT_put (l : List Pr) (x : Pr) : ptK (kvT l) (prK x) (.bool true) = kvT (addN l x) := by
  unfold ptK addN
  rw [kvT_get]
  by_cases h : x ∈ l
  · rw [decide_eq_true h, if_pos rfl, if_pos h]
    unfold kvT
    rw [List.map_map]
    refine List.map_congr_left fun y _ => ?_
    show (if prK y = prK x then (prK y, PyData.bool true) else (prK y, PyData.bool true)) = _
    split <;> rfl
  · rw [decide_eq_false h, if_neg (by decide), if_neg h]
    unfold kvT
    rw [List.map_append]
    rfl
theorem pl_rk (x : Pr) : rk (pl x) = prk x := by
  unfold rk pl iN prk
  simp [TS.code]
theorem sort_rows {xs : List Pr} (h : ∀ x ∈ xs, x.1 < 4 ∧ x.2 < 4) (out : List (List Nat)) (p : out.Perm ((dd xs).map pl)) (s : out.Pairwise (fun a b => rk a ≤ rk b)) : out = (canon xs).map pl := by
  have hb : ∀ l ∈ out, ∃ x, l = pl x := fun l hl => by
    obtain ⟨x, _, e⟩ := List.mem_map.mp (p.mem_iff.mp hl)
    exact ⟨x, e.symm⟩
  let g : List Nat → Pr := fun l => (l.getD 0 0, l.getD 1 0)
  have gp : ∀ x, g (pl x) = x := fun x => rfl
  have e1 : (out.map g).map pl = out := by
    rw [List.map_map]
    conv => rhs; rw [← List.map_id out]
    refine List.map_congr_left fun l hl => ?_
    obtain ⟨x, e⟩ := hb l hl
    rw [e]
    rfl
  have e2 : ((dd xs).map pl).map g = dd xs := by
    rw [List.map_map]
    conv => rhs; rw [← List.map_id (dd xs)]
    exact List.map_congr_left fun x _ => rfl
  have p2 := p.map g
  rw [e2] at p2
  have s2 : (out.map g).Pairwise (fun a b => prk a ≤ prk b) := by
    rw [← e1, List.pairwise_map] at s
    exact s.imp fun {a b} q => by
      rw [pl_rk, pl_rk] at q
      exact q
  rw [← e1, sort_is_canon h p2 s2]
/-! ### paired -/
theorem imgs_snoc (T : Tb) (l : List Pr) (x : Pr) : imgs T (l ++ [x]) = imgs T l ++ T.map fun t => (t.getD x.1 0, t.getD x.2 0) := by
  unfold imgs
  rw [List.flatMap_append]
  simp
theorem fold_dd {T : List (List Nat)} (l : List Pr) (x : Pr) : (T.map fun t => (t.getD x.1 0, t.getD x.2 0)).foldl addN (dd l) = dd (l ++ T.map fun t => (t.getD x.1 0, t.getD x.2 0)) := by
  unfold dd
  rw [List.foldl_append]
theorem imgs_len (T : Tb) (l : List Pr) : (imgs T l).length = l.length * T.length := by
  unfold imgs
  rw [List.length_flatMap]
  induction l with
  | nil => simp
  | cons x l ih =>
    rw [List.map_cons, List.sum_cons, ih, List.length_map, List.length_cons, Nat.succ_mul]
    omega
section
variable {P : Program} {w : World} {K : PySem.W.Frag} {mg : Str → Option Value} {base : Heap}
theorem row_get {t : List Nat} {n s : Nat} (hl : t.length = n) (hs : s < n) : t[s]? = some (t.getD s 0) := by
  rw [List.getD_eq_getElem?_getD, List.getElem?_eq_getElem (by omega)]
  rfl
theorem prs_row (l : List Pr) : (l.map pl).map rowD = l.map prD := by
  rw [List.map_map]
  rfl
theorem prs_row' (K : PySem.W.Frag) (l : List Pr) : ((l.map pl).map fun r => dat K (rowD r)) = (l.map prD).map (dat K) := by
  rw [List.map_map, List.map_map]
  rfl
theorem tys_imp {α : Type} {κ κ' : α → Ty} {G : Hp} (h : ∀ x v, (κ x).p v G → (κ' x).p v G) : ∀ {l : List α} {vs : List V}, Tys (l.map κ) vs G → Tys (l.map κ') vs G
  | [], _, t => by cases t; exact .nil
  | x :: l, _, t => by
    cases t with
    | cons a b => exact .cons (h _ _ a) (tys_imp h b)
theorem prs_ev {X : Cx} {σ : L2.St} {wd : Wd} {e : Expr} {l : List Pr} (h : Dv X σ wd e (layD l)) : Ev X σ wd e (tupT X.K (l.map fun x => tupT X.K [dat X.K (.int (x.1 : Nat)), dat X.K (.int (x.2 : Nat))])) :=
  (asT h).imp fun v G ⟨a, vs, e1, e2, e3⟩ => by
    rw [List.map_map] at e3
    exact ⟨a, vs, e1, e2, tys_imp (κ := dat X.K ∘ prD) (fun x v q => dat_tuple.mp q) e3⟩
abbrev CPair (P : Program) (w : World) (K : PySem.W.Frag) (mg : Str → Option Value) (base : Heap) : Prop := Cal P w K mg base 1 "paired" p_paired (spOf (fun d : Tb × Nat × List Pr => MOk d.1 d.2.1 ∧ (∀ x ∈ d.2.2, InP d.2.1 x) ∧ d.2.2.length ≤ 16) (fun d => [dat K (tbD d.1), dat K (layD d.2.2)]) (fun d => dat K (layD (nextL d.1 d.2.2))))
theorem c_pair (D : DefAt K mg "paired" spaired p_paired) (B : Bu mg) : CPair P w K mg base :=
  def_ok (N := n_paired) D sc_paired (fun _ => rfl) fun f cdv A outer s H E d w0 Q σ hr hp S q => by
    obtain ⟨T, n, l⟩ := d
    obtain ⟨M, hin, hl⟩ := hp
    have M : MOk T n := M
    have hin : ∀ x ∈ l, InP n x := hin
    have hl : l.length ≤ 16 := hl
    have n4 := M.n4
    have d3 := M.d3
    have hu : (A.deeper (envOfC "paired" (defScope spaired) s.heap.objs.size f cdv)).units + 64 < cLine := hr.units
    have him : ∀ x ∈ imgs T l, x.1 < 4 ∧ x.2 < 4 := fun x hx => by
      obtain ⟨y, hy, d, hd, e⟩ := mem_imgs.mp hx
      have h1 := M.stp_lt (hin y hy).1 hd
      have h2 := M.stp_lt (hin y hy).2 hd
      rw [e]
      exact ⟨Nat.lt_of_lt_of_le h1 n4, Nat.lt_of_lt_of_le h2 n4⟩
    show wS _ (_ :: _) _ _ _
    refine w_newdict 2 sc_paired.nd S fun σ1 w1 a g1 ha ow1 S1 => ?_
    refine w_for2M (D := { nx := fun _ H' => Q .non H', rt := Q }) (xs := l) (κ1 := fun x => dat K (.int (x.1 : Nat))) (κ2 := fun x => dat K (.int (x.2 : Nat))) 3 4 rfl PassesOwn.never sc_paired.nd ?_
      (fun i σ w' => Grow w0 w' ∧ Sl w'.G σ [some (dat K (tbD T)), some (dat K (layD l)), some (ex (.ref a)), none, none, none] ∧ OwnD P w K w' a (kvT (dd (imgs T (l.take i))))) (fun w' g => ⟨g1.trans g, S1.mono g.g, ow1.grow g⟩) (fun i x σ' w3 w4 v1 v2 hx hI g4 h1 h2 => ?_) (fun σ' w' hI => ?_)
    · exact iv_tup (prs_ev (nm 1 S1))
    · obtain ⟨gI, SI, ow⟩ := hI
      have S4 := ((SI.mono g4.g).put h1 3).put h2 4
      have hxi := hin x (List.mem_of_getElem? hx)
      have htk : imgs T (l.take (i + 1)) = imgs T (l.take i) ++ T.map fun t => (t.getD x.1 0, t.getD x.2 0) := by
        rw [List.take_succ, hx]
        exact imgs_snoc T _ x
      refine w_forM (D := { nx := Nxt _ w4 (i + 1), rt := Q, ct := Nxt _ w4 (i + 1), bk := wS _ _ _ }) (xs := T) (κ := fun t => dat K (rowD t)) 5 rfl PassesOwn.never sc_paired.nd (eqI_ (by rw [List.map_map]; rfl) (ivT (xs := T.map rowD) (nm 0 S4)))
        (fun j σ w' => Same w4.G w'.G ∧ Grow w0 w' ∧ Sl w'.G σ [some (dat K (tbD T)), some (dat K (layD l)), some (ex (.ref a)), some (dat K (.int (x.1 : Nat))), some (dat K (.int (x.2 : Nat))), none] ∧ OwnD P w K w' a (kvT (((T.take j).map fun t => (t.getD x.1 0, t.getD x.2 0)).foldl addN (dd (imgs T (l.take i))))))
        (fun w' g => ⟨g.g, (gI.trans g4).trans g, (S4.mono g.g), ow.grow (g4.trans g)⟩) (fun j t σ' w5 w6 v ht hJ g6 hv => ?_) (fun σ' w' hJ => ?_)
      · obtain ⟨sJ, gJ, SJ, owJ⟩ := hJ
        have S6 := (SJ.mono g6.g).put hv 5
        have hm : t ∈ T := List.mem_of_getElem? ht
        have ltn := M.len t hm
        have hz : (kvT (((T.take j).map fun t => (t.getD x.1 0, t.getD x.2 0)).foldl addN (dd (imgs T (l.take i))))).length ≤ 1000000 := by
          unfold kvT
          rw [List.length_map]
          have q1 := fold_len ((T.take j).map fun t => (t.getD x.1 0, t.getD x.2 0)) (dd (imgs T (l.take i)))
          have q2 := dd_len (imgs T (l.take i))
          rw [imgs_len, List.length_take] at q2
          rw [List.length_map, List.length_take] at q1
          have q3 : min i l.length * T.length ≤ 16 * 3 := Nat.mul_le_mul (by omega) d3
          omega
        refine w_dput (ks := prN (t.getD x.1 0, t.getD x.2 0)) (dv := .bool true) hu cb (nm 2 S6) (eqE (prK_data (t.getD x.1 0, t.getD x.2 0)).symm (tupD (ds := [.int (t.getD x.1 0 : Nat), .int (t.getD x.2 0 : Nat)]) (ac (ixTD (nm 5 S6) (nm 3 S6) (row_at (row_get ltn hxi.1))) (ac (ixTD (nm 5 S6) (nm 4 S6) (row_at (row_get ltn hxi.2))) a0)))) (prK_depth _) (owJ.grow g6) hz fun w7 g7 o n ow7 => wS_nil ?_
        have g07 := (gJ.trans g6).trans g7
        have ha0 : w0.H a = none := ha
        refine ⟨w7.lay a o n, rfl, g7.g, (sJ.trans g6.g).trans g7.g, g07.change ha0, (S6.mono g7.g).forget 5, ?_⟩
        have e : ((T.take (j + 1)).map fun t => (t.getD x.1 0, t.getD x.2 0)) = ((T.take j).map fun t => (t.getD x.1 0, t.getD x.2 0)) ++ [(t.getD x.1 0, t.getD x.2 0)] := by
          rw [List.take_succ, ht, List.map_append]
          rfl
        rw [e, List.foldl_append]
        rw [show NestedKey.tup (prN (t.getD x.1 0, t.getD x.2 0)) = prK (t.getD x.1 0, t.getD x.2 0) from rfl, kvT_put] at ow7
        exact ow7
      · obtain ⟨sJ, gJ, SJ, owJ⟩ := hJ
        refine wS_nil ⟨w', rfl, sJ, gJ, (SJ.forget 3).forget 4, ?_⟩
        rw [List.take_length, fold_dd] at owJ
        rw [htk]
        exact owJ
    · obtain ⟨gI, SI, ow⟩ := hI
      rw [List.take_length] at ow
      refine w_ret (τ := dat K (layD (nextL T l))) ?_ fun v w2 g2 hv => q v w2 (gI.trans g2) hv
      have hz : (kvT (dd (imgs T l))).length ≤ 1000000 := by
        unfold kvT
        rw [List.length_map]
        have q2 := dd_len (imgs T l)
        rw [imgs_len] at q2
        have q3 : l.length * T.length ≤ 16 * 3 := Nat.mul_le_mul hl d3
        omega
      refine ofT (eqTu (prs_row' K (canon (imgs T l))) (tuple_ B.tuple_ (.inl (sortedR (d := 2) (ls := (dd (imgs T l)).map pl) (ls' := (canon (imgs T l)).map pl) B.sorted_ (by decide) (fun r hr => ?_) ?_ (sort_rows him) (eqL ?_ (listD rfl B.list_ (nm 2 SI) ow hz))))))
      · obtain ⟨x, hx, e⟩ := List.mem_map.mp hr
        have := him x (mem_dd.mp hx)
        subst e
        refine ⟨rfl, fun y hy => ?_⟩
        rcases (by simpa [pl] using hy : y = x.1 ∨ y = x.2) with q | q
        · rw [q]; exact this.1
        · rw [q]; exact this.2
      · rw [List.length_map]
        unfold kvT at hz
        rw [List.length_map] at hz
        exact hz
      · unfold kvT
        rw [List.map_map, List.map_map]
        refine List.map_congr_left fun x _ => ?_
        show dat K (NestedKey.data (prK x)) = dat K (rowD (pl x))
        rw [prK_data]
        rfl
end
end K27
/-! ## Core12 -/
/-! The calculus, twelfth part: a list as a field of what is being made. -/
namespace K27
open PySem L2 PySem.Spec PyProof.Rows
section
variable {X : Cx} {e a b : Expr} {es : List Expr} {σ : L2.St} {w w' : Wd} {τ τ' : Ty} {pos : Pos} {ds : List (Option Ty)} {rest body : List Stmt} {D : Ends}
/-- self.f = [..]: the list may still be changed -/
theorem w_selfL {f : Str} {o : Expr} {pos' p2 : Pos} {x C dx : Addr} {gs : List (Str × V)} {fs : List (Str × Ty)} {τs : List Ty} (he : Av X σ w es τs) (hl : τs.length ≤ 1000) (ho : Ev X σ w o (ex (.ref x))) (ow : Own w x (.ins C dx gs)) (F : Fds gs fs w.G) (c : Cls X.K C) (n : NoAttr X.K C f) (hn : fs.all (fun q => !decide (q.1 = f)) = true) (hz : fs.length < 900)
    (k : ∀ w1 gs1 l vs, Grow w w1 → w.H l = none → ∀ n1 : w1.G x = none, Own (w1.lay x (.ins C dx gs1) n1) x (.ins C dx gs1) → Own (w1.lay x (.ins C dx gs1) n1) l (.lst vs) → l ≠ x → Tys τs vs w1.G → Fds gs1 (fs ++ [(f, ex (.ref l))]) w1.G → wS X rest D σ (w1.lay x (.ins C dx gs1) n1).H)
    (hs : swapsWith (.List es p2) (some (.Attribute o f pos')) pos.line X.env = pure false := by rfl) :
    wS X (.Assign [.Attribute o f pos'] (.List es p2) pos :: rest) D σ w.H :=
  wS_cons (toS1 (ps_fld uE (pe_lst uA) hs) (he w (Grow.refl _) _ fun vs w2 g2 hv => ⟨by rw [hv.length]; exact Nat.le_trans hl (by decide), fun l hlf => by
    have gl := Grow.lay (w := w2) (o := .lst vs) hlf
    have n0 : w.H l = none := g2.h.free hlf
    have ne : l ≠ x := fun z => by
      subst z
      rw [ow.at_] at n0
      cases n0
    refine ho (w2.lay l (.lst vs) (w2.gnone hlf)) (g2.trans gl) _ fun u w3 g3 eu => ?_
    have G3 := (g2.trans gl).trans g3
    have ow3 := ow.grow G3
    have F3 := F.mono G3.g
    have ol : Own w3 l (.lst vs) := (Own.lay hlf).grow g3
    exact ⟨x, C, dx, gs, eu, ow3.at_, c, n, by rw [F3.len]; omega, k w3 (putF f (.ref l) gs) l vs G3 n0 ow3.free Own.self (ol.other ne) ne (hv.mono (gl.trans g3).g) (F3.put (τ := ex (.ref l)) hn rfl)⟩⟩))
end
end K27
/-! ## Defs5 -/
/-! Walks of pairs. -/
namespace K27
open PySem L2 PySem.Spec PyProof.Rows
/-! ### the layers known, as a dict -/
def kvW (T : Tb) (n p k : Nat) : List (NK × PyData) := (List.range k).map fun i => (.tup (layK (lay T n p i)), .int (i : Nat))
theorem kvW_snoc (T : Tb) (n p k : Nat) : kvW T n p (k + 1) = kvW T n p k ++ [(.tup (layK (lay T n p k)), .int (k : Nat))] := by
  unfold kvW
  rw [List.range_succ, List.map_append]
  rfl
theorem kvW_none {T : Tb} {n p : Nat} {l : List Pr} : ∀ {k : Nat}, (∀ i, i < k → lay T n p i ≠ l) → gt? (kvW T n p k) (.tup (layK l)) = none
  | 0, _ => rfl
  | k + 1, h => by
    rw [kvW_snoc, gt_append, kvW_none fun i hi => h i (by omega), gt_cons, if_neg, gt_nil]
    · rfl
    · intro e
      injection e with e
      exact h k (by omega) (layK_inj e)
theorem kvW_some {T : Tb} {n p e : Nat} : ∀ {k : Nat}, e < k → (∀ i, i < e → lay T n p i ≠ lay T n p e) → gt? (kvW T n p k) (.tup (layK (lay T n p e))) = some (.int (e : Nat))
  | 0, h, _ => absurd h (Nat.not_lt_zero _)
  | k + 1, h, hn => by
    rw [kvW_snoc, gt_append]
    by_cases q : e < k
    · rw [kvW_some q hn]
      rfl
    · have ek : e = k := by omega
      subst ek
      rw [kvW_none hn, gt_cons, if_pos rfl]
      rfl
theorem lay_len {T : Tb} {n : Nat} (M : MOk T n) (p L : Nat) : (lay T n p L).length ≤ 16 := by
  cases L with
  | zero =>
    show (lay0 n p).length ≤ 16
    unfold lay0
    rw [List.length_map, List.length_range]
    have := M.n4
    omega
  | succ L =>
    show (canon (imgs T (lay T n p L))).length ≤ 16
    exact Nat.le_trans (List.length_filter_le _ _) (by decide)
section
variable {P : Program} {w : World} {K : PySem.W.Frag} {mg : Str → Option Value} {base : Heap}
def layersT (K : PySem.W.Frag) (T : Tb) (n p k : Nat) : List Ty := (List.range k).map fun i => dat K (layD (lay T n p i))
def layersD (T : Tb) (n p k : Nat) : PyData := .list ((List.range k).map fun i => layD (lay T n p i))
theorem layersT_snoc (T : Tb) (n p k : Nat) : layersT K T n p (k + 1) = layersT K T n p k ++ [dat K (layD (lay T n p k))] := by
  unfold layersT
  rw [List.range_succ, List.map_append]
  rfl
theorem layersT_len (T : Tb) (n p k : Nat) : (layersT K T n p k).length = k := by
  unfold layersT
  rw [List.length_map, List.length_range]
theorem layersT_at (T : Tb) (n p k : Nat) {i : Nat} (h : i < k) : (layersT K T n p k)[i]? = some (dat K (layD (lay T n p i))) := by
  unfold layersT
  rw [List.getElem?_map, List.getElem?_range h]
  rfl
abbrev wFn : List Str := ["home", "layers", "entry", "circle"]
abbrev wkF (K : PySem.W.Frag) (T : Tb) (n p e c : Nat) : List (Str × Ty) := [("home", dat K (.int (p : Nat))), ("layers", dat K (layersD T n p (e + c))), ("entry", dat K (.int (e : Nat))), ("circle", dat K (.int (c : Nat)))]
abbrev wkT (K : PySem.W.Frag) (C : Addr) (T : Tb) (n p e c : Nat) : Ty := insT C (wkF K T n p e c)
/-- what stands for a walk -/
structure WArg where
  T : Tb
  n : Nat
  p : Nat
  e : Nat
  c : Nat
structure WArg.Ok (d : WArg) : Prop where
  m : MOk d.T d.n
  p : d.p < d.n
  k : Wk d.T d.n d.p d.e d.c
abbrev WArg.lay (d : WArg) (i : Nat) : List Pr := K27.lay d.T d.n d.p i
abbrev CPini (P : Program) (w : World) (K : PySem.W.Frag) (mg : Str → Option Value) (base : Heap) (M C : Addr) : Prop := ICal P w K mg base 2 C "PairWalk" p_pinit (spIni C WArg.Ok (fun d => [mchT K M d.T d.n, dat K (.int (d.p : Nat))]) (fun d => wkF K d.T d.n d.p d.e d.c))
theorem c_pini {M C : Addr} (D : IDefAt K C "PairWalk.__init__" sPairInit p_pinit) (hC : mg "PairWalk" = some (.ref C)) (B : Bu mg) (KM : Kls K M mFn) (KC : Kls K C wFn) (CP : CPair P w K mg base) : CPini P w K mg base M C :=
  idef_ok (N := n_pinit) D hC sc_pinit (fun _ => rfl) fun f cdv A outer s H E d w0 w1 x dx Q σ hr hd g hx ow S q => by
    obtain ⟨T, n, p, e, c⟩ := d
    obtain ⟨hM, hp, W⟩ := hd
    have hM : MOk T n := hM
    have hp : p < n := hp
    have W : Wk T n p e c := W
    have n1 := hM.n1
    have n4 := hM.n4
    have c1 := W.rnd.c1
    have hlen := W.len
    have hu : (A.deeper (envOfC "PairWalk.__init__" (defScope sPairInit) s.heap.objs.size f cdv)).units + 64 < cLine := hr.units
    show wS _ (_ :: _) _ _ _
    refine w_self (τ := dat K (.int (p : Nat))) (nm 2 S) (nm 0 S) ow (fs := []) .nil KC.cls (KC.no "home" (by simp)) rfl (by decide) fun w2 gs2 g2 n2 ow2 F2 => ?_
    have S2 : Sl (w2.lay x (.ins C dx gs2) n2).G σ _ := S.mono g2.g
    have G2 : Grow w0 (w2.lay x (.ins C dx gs2) n2) := (g.trans g2).change hx
    refine w_selfL (τs := [dat K (layD (lay T n p 0))]) (ac (ofT (eqTu ?_ (tuple_ B.tuple_ (.inl (lcM (xs := List.range n) (κ := fun i => dat K (.int (i : Nat))) [("other", 5)] 5 (fun i => dat K (prD (p, i))) rfl sc_pinit.nd S2 (ivR B.range_ (fld_c (nm 1 S2) KM (by simp) rfl) (by omega)) (by rw [List.length_range]; omega)
      (fun i y σ2 w4 hy g4 S4 s0 H0 C0 cl fp => tupD (ds := [.int (p : Nat), .int (y : Nat)]) (ac (nm 2 S4) (ac (nm 5 S4) a0)))))))) a0) (by simp) (nm 0 S2) ow2 F2 KC.cls (KC.no "layers" (by simp)) rfl (by simp) fun w3 gs3 l vs3 g3 hl0 n3 ow3 ol3 nel ht3 F3 => ?_
    · rw [List.map_map]
      show _ = List.map _ (lay0 n p)
      unfold lay0
      rw [List.map_map]
      rfl
    have hs0 : vs3 = vs3 := rfl
    have S3 : Sl (w3.lay x (.ins C dx gs3) n3).G σ _ := S2.mono g3.g
    have G3 : Grow w0 (w3.lay x (.ins C dx gs3) n3) := (G2.trans g3).change hx
    have hl00 : w0.H l = none := G2.h.free hl0
    have ix0 : atI ([dat K (layD (lay T n p 0))] : List Ty) 0 = some (dat K (layD (lay T n p 0))) := atI_nat (i := 0) rfl
    refine w_disp1 (ks := layK (lay T n p 0)) (dv := .int (0 : Nat)) 3 sc_pinit.nd S3 hu (eqE (layK_data _).symm (ixO (fldO (nm 0 S3) ow3 F3 KC.cls (KC.no "layers" (by simp)) rfl) ol3 ht3 ci ix0)) (layK_depth _) ci fun σ4 w4 d g4 hd0 od4 S4 => ?_
    have G4 := G3.trans g4
    have ow4 := ow3.grow g4
    have ol4 := ol3.grow g4
    have ht4 := ht3.mono g4.g
    have F4 := F3.mono g4.g
    have hd00 : w0.H d = none := G3.h.free hd0
    have nxd : x ≠ d := fun z => by
      subst z
      have := ow3.at_
      rw [hd0] at this
      cases this
    have nld : l ≠ d := fun z => by
      subst z
      have := ol3.at_
      rw [hd0] at this
      cases this
    have hin : ∀ k, ∀ y ∈ lay T n p k, InP n y := fun k y hy => lay_lt hM hp hy
    refine w_set (τ := dat K (layD (lay T n p 1))) 4 sc_pinit.nd S4 (call_c CP (hr.mono (by decide)) (T, n, lay T n p 0) ⟨hM, hin 0, lay_len hM p 0⟩ (ac (fld_c (nm 1 S4) KM (by simp) rfl) (ac (ixO (fldO (nm 0 S4) ow4 F4 KC.cls (KC.no "layers" (by simp)) rfl) ol4 ht4 ci ix0) a0))) fun σ5 w5 g5 S5 => ?_
    have G5 := G4.trans g5
    -- the word of the loop
    let J : Nat → L2.St → Wd → Prop := fun m σ w' => ∃ k, m + k = e + c ∧ 1 ≤ k ∧ Grow w0 w' ∧ Sl w'.G σ [some (ex (.ref x)), some (mchT K M T n), some (dat K (.int (p : Nat))), some (ex (.ref d)), some (dat K (layD (lay T n p k))), none] ∧
      (∃ gs, Own w' x (.ins C dx gs) ∧ Fds gs [("home", dat K (.int (p : Nat))), ("layers", ex (.ref l))] w'.G) ∧ (∃ vs, Own w' l (.lst vs) ∧ Tys (layersT K T n p k) vs w'.G) ∧ OwnD P w K w' d (kvW T n p k)
    have J0 : J (e + c - 1) σ5 w5 := ⟨1, by omega, Nat.le_refl _, G5, S5, ⟨_, ow4.grow g5, F4.mono g5.g⟩, ⟨_, ol4.grow g5, ht4.mono g5.g⟩, od4.grow g5⟩
    refine w_while (D := { nx := fun _ H' => Q .non H', rt := Q }) PassesOwn.never J _ J0 fun m σ' w' hJ => ?_
    obtain ⟨k, hmk, hk1, GJ, SJ, ⟨gs, owJ, FJ⟩, ⟨vs, olJ, htJ⟩, odJ⟩ := hJ
    have hkn : k ≤ 65537 := by omega
    refine ⟨decide (k < e + c), eqT ?_ (t_dnotin (ks := layK (lay T n p k)) hu (eqE (layK_data _).symm (nm 4 SJ)) (layK_depth _) (nm 3 SJ) odJ), fun hb w6 g6 => ?_, fun hb w6 g6 => ?_⟩
    · by_cases h : k < e + c
      · rw [kvW_none fun i hi => W.nd i k hi h, decide_eq_true h]
        rfl
      · have ek : k = e + c := by omega
        rw [ek, show lay T n p (e + c) = lay T n p e from W.rnd.eq, kvW_some (by omega) fun i hi => W.nd i e hi (by omega), decide_eq_false (by omega)]
        rfl
    · have hb := of_decide_eq_true hb
      have S6 := SJ.mono g6.g
      have ow6 := owJ.grow g6
      have ol6 := olJ.grow g6
      have ht6 := htJ.mono g6.g
      have od6 := odJ.grow g6
      have F6 := FJ.mono g6.g
      have lv : vs.length = k := by rw [htJ.length, layersT_len]
      refine w_dput (ks := layK (lay T n p k)) (dv := .int (k : Nat)) hu (eqE (by rw [lv]) (Own.lst_len (K := K) B.len_ (fldO (nm 0 S6) ow6 F6 KC.cls (KC.no "layers" (by simp)) rfl) ol6)) (nm 3 S6) (eqE (layK_data _).symm (nm 4 S6)) (layK_depth _) od6 (by unfold kvW; rw [List.length_map, List.length_range]; omega) fun w7 g7 o7 n7 od7 => ?_
      have S7 : Sl (w7.lay d o7 n7).G σ' _ := S6.mono g7.g
      have ow7 : Own (w7.lay d o7 n7) x (.ins C dx gs) := (ow6.grow g7).other nxd
      have ol7 : Own (w7.lay d o7 n7) l (.lst vs) := (ol6.grow g7).other nld
      have F7 : Fds gs _ (w7.lay d o7 n7).G := F6.mono g7.g
      have ht7 : Tys (layersT K T n p k) vs (w7.lay d o7 n7).G := ht6.mono g7.g
      have G7 : Grow w0 (w7.lay d o7 n7) := ((GJ.trans g6).trans g7).change hd00
      rw [ptK_new (kvW_none fun i hi => W.nd i k hi hb), ← kvW_snoc] at od7
      refine w_app (τ := dat K (layD (lay T n p k))) (fldO (nm 0 S7) ow7 F7 KC.cls (KC.no "layers" (by simp)) rfl) ol7 (nm 4 S7) (by omega) fun v8 w8 g8 hv8 ol8 => ?_
      have S8 : Sl (w8.lay l (.lst (vs ++ [v8])) ol8.free).G σ' _ := S7.mono g8.g
      have G8 : Grow w0 (w8.lay l (.lst (vs ++ [v8])) ol8.free) := (G7.trans g8).change hl00
      refine w_set (τ := dat K (layD (lay T n p (k + 1)))) 4 sc_pinit.nd S8 (call_c CP (hr.mono (by decide)) (T, n, lay T n p k) ⟨hM, hin k, lay_len hM p k⟩ (ac (fld_c (nm 1 S8) KM (by simp) rfl) (ac (nm 4 S8) a0))) fun σ9 w9 g9 S9 => wS_nil ?_
      refine ⟨e + c - (k + 1), w9, by omega, rfl, k + 1, by omega, by omega, G8.trans g9, S9, ⟨gs, ((ow7.grow g8).other (Ne.symm nel)).grow g9, (F7.mono g8.g).mono g9.g⟩, ⟨vs ++ [v8], Own.self.grow g9, ?_⟩, ((od7.grow g8).other (Ne.symm nld)).grow g9⟩
      rw [layersT_snoc]
      exact ((ht7.mono g8.g).append (.cons hv8 .nil)).mono g9.g
    · have hb : ¬ k < e + c := of_decide_eq_false hb
      have ek : k = e + c := by omega
      subst ek
      have S6 := SJ.mono g6.g
      have ow6 := owJ.grow g6
      have ol6 := olJ.grow g6
      have ht6 := htJ.mono g6.g
      have od6 := odJ.grow g6
      have F6 := FJ.mono g6.g
      have lv : vs.length = e + c := by rw [htJ.length, layersT_len]
      have G6 := GJ.trans g6
      have eqr : lay T n p (e + c) = lay T n p e := W.rnd.eq
      refine w_self (τ := dat K (.int (e : Nat))) (dget (ks := layK (lay T n p e)) hu (nm 3 S6) od6 (eqE ((congrArg layD eqr).trans (layK_data _).symm) (nm 4 S6)) (layK_depth _) (kvW_some (by omega) fun i hi => W.nd i e hi (by omega))) (nm 0 S6) ow6 F6 KC.cls (KC.no "entry" (by simp)) rfl (by simp) fun w7 gs7 g7 n7 ow7 F7 => ?_
      have S7 : Sl (w7.lay x (.ins C dx gs7) n7).G σ' _ := S6.mono g7.g
      have ol7 : Own (w7.lay x (.ins C dx gs7) n7) l (.lst vs) := (ol6.grow g7).other nel
      have G7 : Grow w0 (w7.lay x (.ins C dx gs7) n7) := (G6.trans g7).change hx
      refine w_self (τ := dat K (.int (c : Nat))) (eqE ?_ (sub (Own.lst_len (K := K) B.len_ (fldO (nm 0 S7) ow7 F7 KC.cls (KC.no "layers" (by simp)) rfl) ol7) (fldO (nm 0 S7) ow7 F7 KC.cls (KC.no "entry" (by simp)) rfl))) (nm 0 S7) ow7 F7 KC.cls (KC.no "circle" (by simp)) rfl (by simp) fun w8 gs8 g8 n8 ow8 F8 => wS_nil ?_
      · rw [lv]
        congr 1
        omega
      have ol8 : Own (w8.lay x (.ins C dx gs8) n8) l (.lst vs) := (ol7.grow g8).other nel
      have G8 : Grow w0 (w8.lay x (.ins C dx gs8) n8) := (G7.trans g8).change hx
      refine q ((w8.lay x (.ins C dx gs8) n8).frz l (.lst vs) ol8.at_) gs8 (G8.frz hl00 ol8.at_) (ow8.frz (Ne.symm nel)) ?_
      have F9 := Fds.mono (G' := ((w8.lay x (.ins C dx gs8) n8).frz l (.lst vs) ol8.at_).G) (Wd.frz_same ol8.free) F8
      have ht9 : Tys (layersT K T n p (e + c)) vs ((w8.lay x (.ins C dx gs8) n8).frz l (.lst vs) ol8.at_).G := (ht6.mono (g7.g.trans g8.g)).mono (Wd.frz_same ol8.free)
      cases F9 with
      | cons f1 F9 =>
        cases F9 with
        | cons f2 F9 =>
          refine .cons f1 (.cons ⟨f2.1, ?_⟩ F9)
          refine dat_list.mpr ⟨l, vs, f2.2, SqL.of Wd.frz_at, ?_⟩
          unfold layersT at ht9
          rw [List.map_map]
          exact ht9
end
end K27
/-! ## Defs6 -/
/-! What walks of pairs answer; the first length that parts. -/
namespace K27
open PySem L2 PySem.Spec PyProof.Rows
section
variable {X : Cx} {e a b : Expr} {es : List Expr} {σ : L2.St} {w w' : Wd} {τ τ' : Ty} {pos : Pos} {ds : List (Option Ty)} {rest body : List Stmt} {D : Ends}
/-- a list as a test -/
theorem t_lst {τs : List Ty} (h : Ev X σ w e (lstT X.K τs)) (he : ∀ whole, isTrue e X.env whole = (do let v ← whole; standAt e.pos; holding [v] (truthy v)) := by intro _; rfl) : Tv X σ w e (!τs.isEmpty) := fun w1 g Q k =>
  toT (pt_truth uE he) (h w1 g _ fun v w2 g2 ⟨p, vs, ev, hs, ht⟩ => by
    subst ev
    refine ⟨_, .inl ⟨vs, w2.sub.seq hs, rfl⟩, ?_⟩
    have e : vs.isEmpty = τs.isEmpty := by
      have := ht.length
      cases vs <;> cases τs <;> first | rfl | (simp at this)
    rw [e]
    exact k w2 g2)
/-- range(m, l, c), c above 0: its items -/
theorem rgc_pos {m l : Nat} {k : Nat} {c : Nat} (hc : 1 ≤ c) (hc2 : c < 1073741824) (hm : m < 2 ^ 60) (hl : l < 2 ^ 60) (hk : k = if m < l then (l - m - 1) / c + 1 else 0) : RgC (m : Int) (l : Int) (c : Int) k := by
  have e1 : Builtin.Range.rangeSize (m : Int) (l : Int) (c : Int) = ((k : Nat) : Int) := by
    unfold Builtin.Range.rangeSize
    rw [if_pos (by omega)]
    by_cases h : m < l
    · rw [if_pos (by omega), hk, if_pos h]
      have : (l : Int) - m - 1 = ((l - m - 1 : Nat) : Int) := by omega
      rw [this, ← Int.natCast_ediv]
      omega
    · rw [if_neg (by omega), hk, if_neg h]
      rfl
  refine ⟨by omega, by omega, ?_, e1⟩
  unfold Builtin.Range.small
  rw [e1]
  have hq : (k : Int) * c ≤ (l : Int) + c := by
    rw [hk]
    split
    · have := Nat.div_mul_le_self (l - m - 1) c
      have h3 : (((l - m - 1) / c + 1) * c : Nat) ≤ l + c := by
        rw [Nat.succ_mul]
        omega
      have h4 : ((((l - m - 1) / c + 1) * c : Nat) : Int) ≤ ((l + c : Nat) : Int) := by omega
      rw [Int.natCast_mul] at h4
      omega
    · omega
  have hkl : k ≤ l := by
    rw [hk]
    split
    · have := Nat.div_le_self (l - m - 1) c
      omega
    · omega
  rw [if_pos (show (c : Int) > 0 by omega)]
  simp only [Builtin.Range.rangeFitsLong, Bool.and_eq_true, Bool.or_eq_true, decide_eq_true_eq, beq_iff_eq]
  refine ⟨⟨⟨⟨?_, ?_⟩, ?_⟩, ?_⟩, .inr ?_⟩ <;> omega
end
section
variable {P : Program} {w : World} {K : PySem.W.Frag} {mg : Str → Option Value} {base : Heap}
abbrev CAt (P : Program) (w : World) (K : PySem.W.Frag) (mg : Str → Option Value) (base : Heap) (C : Addr) : Prop := MCal P w K mg base 1 C "layer_at" p_pat (spOf (fun i : WArg × Nat => i.1.Ok) (fun i => [wkT K C i.1.T i.1.n i.1.p i.1.e i.1.c, dat K (.int (i.2 : Nat))]) (fun i => dat K (layD (i.1.lay i.2))))
theorem c_at {C : Addr} (D : MDefAt K C "layer_at" "PairWalk.layer_at" sPairAt p_pat) (B : Bu mg) (KC : Kls K C wFn) : CAt P w K mg base C :=
  mdef_ok (N := n_pat) D sc_pat (fun _ => rfl) fun f cdv A outer s H E i w0 Q σ hr hd S q => by
    obtain ⟨⟨T, n, p, e, c⟩, L⟩ := i
    obtain ⟨hM, hp, W⟩ := hd
    have W : Wk T n p e c := W
    have c1 := W.rnd.c1
    have ll : ((List.range (e + c)).map fun i => layD (lay T n p i)).length = e + c := by rw [List.length_map, List.length_range]
    have at_ : ∀ i, i < e + c → ((List.range (e + c)).map fun i => layD (lay T n p i))[i]? = some (layD (lay T n p i)) := fun i hi => by
      rw [List.getElem?_map, List.getElem?_range hi]
      rfl
    show wS _ (_ :: _) _ _ _
    have hlen : Dv (BX P w K mg base n_pat "PairWalk.layer_at" sPairAt f cdv A outer s H E) σ w0 (.Call (.Name "len" ⟨89, 20, 89, 23⟩) [.Attribute (.Name "self" ⟨89, 24, 89, 28⟩) "layers" ⟨89, 24, 89, 35⟩] [] ⟨89, 20, 89, 36⟩) (.int ((e + c : Nat) : Nat)) := eqE (by rw [ll]) (lenLD B.len_ (fld_c (nm 0 S) KC (by simp) rfl))
    refine w_when (b := decide ((L : Int) < ((e + c : Nat) : Int))) (t_lt (nm 1 S) hlen) (fun hb w1 g1 => ?_) (fun hb w1 g1 => ?_)
    · have hb : L < e + c := by
        have := of_decide_eq_true hb
        omega
      have S1 := S.mono g1.g
      exact w_ret (τ := dat K (layD (lay T n p L))) (ixLD (fld_c (nm 0 S1) KC (by simp) rfl) (nm 1 S1) (atI_nat (at_ L hb))) fun v w2 g2 hv => q v w2 (g1.trans g2) hv
    · have hb : ¬ L < e + c := by
        have := of_decide_eq_false hb
        omega
      have S1 := S.mono g1.g
      have hlt : e + (L - e) % c < e + c := by
        have := Nat.mod_lt (L - e) c1
        omega
      have ei : (e : Int) + ((L : Int) - (e : Int)) % (c : Int) = ((e + (L - e) % c : Nat) : Int) := by
        have : (L : Int) - (e : Int) = ((L - e : Nat) : Int) := by omega
        rw [this, ← Int.natCast_emod]
        omega
      refine w_ret (τ := dat K (layD (lay T n p L))) (eqE ?_ (ixLD (i := (e : Int) + ((L : Int) - (e : Int)) % (c : Int)) (fld_c (nm 0 S1) KC (by simp) rfl) (add (fld_c (nm 0 S1) KC (by simp) rfl) (imod (sub (nm 1 S1) (fld_c (nm 0 S1) KC (by simp) rfl)) (fld_c (nm 0 S1) KC (by simp) rfl) (by omega))) (by rw [ei]; exact atI_nat (at_ _ hlt)))) fun v w2 g2 hv => q v w2 (g1.trans g2) hv
      rw [W.rnd.at (by omega)]
def endsD (l : List Pr) (p : Nat) : PyData := .list ((endsL l p).map prD)
abbrev CEnds (P : Program) (w : World) (K : PySem.W.Frag) (mg : Str → Option Value) (base : Heap) (C : Addr) : Prop := MCal P w K mg base 2 C "ends_at" p_pends (spOf (fun i : WArg × Nat => i.1.Ok) (fun i => [wkT K C i.1.T i.1.n i.1.p i.1.e i.1.c, dat K (.int (i.2 : Nat))]) (fun i => dat K (endsD (i.1.lay i.2) i.1.p)))
theorem pr_at0 (x : Pr) : atI ([PyData.int (x.1 : Nat), .int (x.2 : Nat)] : List PyData) 0 = some (.int (x.1 : Nat)) := atI_nat (i := 0) rfl
theorem pr_at1 (x : Pr) : atI ([PyData.int (x.1 : Nat), .int (x.2 : Nat)] : List PyData) 1 = some (.int (x.2 : Nat)) := atI_nat (i := 1) rfl
theorem dec_nat (a b : Nat) : decide ((a : Int) = (b : Int)) = decide (a = b) := by
  by_cases h : a = b
  · rw [decide_eq_true h, decide_eq_true (by omega)]
  · rw [decide_eq_false h, decide_eq_false (by omega)]
theorem c_ends {C : Addr} (D : MDefAt K C "ends_at" "PairWalk.ends_at" sPairEnds p_pends) (B : Bu mg) (KC : Kls K C wFn) (CA : CAt P w K mg base C) : CEnds P w K mg base C :=
  mdef_ok (N := n_pends) D sc_pends (fun _ => rfl) fun f cdv A outer s H E i w0 Q σ hr hd S q => by
    obtain ⟨⟨T, n, p, e, c⟩, L⟩ := i
    have hM : MOk T n := hd.m
    show wS _ (_ :: _) _ _ _
    refine w_ret (τ := dat K (endsD (lay T n p L) p)) (ofL (eqL ?_ (lcifM (xs := lay T n p L) (κ := fun x => dat K (prD x)) [("pair", 2)] 2 (fun x => decide (x.2 = p) && decide (x.1 ≠ p)) (fun x => dat K (prD x)) rfl sc_pends.nd S
      (eqI_ ?_ (ivT (xs := (lay T n p L).map prD) (meth_c CA KC.cls (hr.mono (by decide)) (⟨T, n, p, e, c⟩, L) hd (nm 0 S) rfl (ac (nm 1 S) a0) rfl))) ?_ (fun i x σ2 w4 hx g4 S4 s0 H0 C0 cl fp => ?_) (fun i x σ2 w4 hx hb g4 S4 s0 H0 C0 cl fp => nm 2 S4)))) q
    · rw [List.map_map]
      rfl
    · rw [List.map_map]
      rfl
    · have := lay_len hM p L
      omega
    · refine eqT ?_ (ww (and' (t_eqI (ixTD (nm 2 S4) ci (pr_at1 x)) (fld_c (nm 0 S4) KC (by simp) rfl)) fun _ => and1 (t_neI (ixTD (nm 2 S4) ci (pr_at0 x)) (fld_c (nm 0 S4) KC (by simp) rfl))))
      show (decide ((x.2 : Int) = (p : Int)) && !decide ((x.1 : Int) = (p : Int))) = (decide (x.2 = p) && decide (x.1 ≠ p))
      rw [dec_nat, dec_nat]
      simp
end
end K27
/-! ## Defs7 -/
/-! Walks from all starts; common divisors; the first length that parts; none is enough. -/
namespace K27
open PySem L2 PySem.Spec PyProof.Rows
noncomputable def wkA (T : Tb) (n p : Nat) : WArg := ⟨T, n, p, (wk_ex T n p).choose, (wk_ex T n p).choose_spec.choose⟩
theorem wkA_ok {T : Tb} {n p : Nat} (M : MOk T n) (hp : p < n) : (wkA T n p).Ok := ⟨M, hp, (wk_ex T n p).choose_spec.choose_spec⟩
abbrev walkT (K : PySem.W.Frag) (C : Addr) (d : WArg) : Ty := wkT K C d.T d.n d.p d.e d.c
def pB (d : WArg) (L : Nat) : Bool := !(endsL (d.lay L) d.p).isEmpty
theorem pB_iff {d : WArg} (h : d.Ok) (L : Nat) : pB d L = true ↔ Parts d.T d.n d.p L := by
  rw [← ends_iff h.m h.p]
  unfold pB
  cases q : endsL (d.lay L) d.p with
  | nil =>
    constructor
    · intro z; cases z
    · intro z; exact absurd rfl z
  | cons a b =>
    constructor
    · intro _ z
      cases z
    · intro _; rfl
/-- the first multiple of m, of the first k ones, that is P -/
def fpS (P : Nat → Bool) (m k : Nat) : Option Nat := ((List.range k).map fun i => (i + 1) * m).find? P
theorem fpS_none {P : Nat → Bool} {m k : Nat} (h : ∀ j, j < k → P ((j + 1) * m) = false) : fpS P m k = none := by
  unfold fpS
  rw [List.find?_eq_none]
  intro x hx
  obtain ⟨j, hj, e⟩ := List.mem_map.mp hx
  rw [List.mem_range] at hj
  rw [← e, h j hj]
  decide
theorem fpS_some {P : Nat → Bool} {m : Nat} : ∀ {k i : Nat}, i < k → (∀ j, j < i → P ((j + 1) * m) = false) → P ((i + 1) * m) = true → fpS P m k = some ((i + 1) * m)
  | 0, i, h, _, _ => absurd h (Nat.not_lt_zero _)
  | k + 1, i, h, h1, h2 => by
    have e : fpS P m (k + 1) = (fpS P m k).or ([(k + 1) * m].find? P) := by
      unfold fpS
      rw [List.range_succ, List.map_append, List.find?_append]
      rfl
    rw [e]
    by_cases q : i < k
    · rw [fpS_some q h1 h2]
      rfl
    · have ek : i = k := by omega
      subst ek
      rw [fpS_none h1, List.find?_cons, h2]
      rfl
theorem fpS_iff {P : Nat → Bool} {m k : Nat} : fpS P m k = none ↔ ∀ j, j < k → P ((j + 1) * m) = false := by
  constructor
  · intro h j hj
    unfold fpS at h
    rw [List.find?_eq_none] at h
    have := h ((j + 1) * m) (List.mem_map.mpr ⟨j, List.mem_range.mpr hj, rfl⟩)
    simpa using this
  · exact fpS_none
def lastOf (d : WArg) (m : Nat) : Option Nat → Nat
  | none => d.e + m / Nat.gcd m d.c * d.c
  | some b => min (d.e + m / Nat.gcd m d.c * d.c) (b - 1)
def fpOf (d : WArg) (m : Nat) (bo : Option Nat) : Option Nat := fpS (pB d) m (lastOf d m bo / m)
def optD : Option Nat → PyData
  | none => .none
  | some i => .int (i : Nat)
structure FpOk (i : WArg × Nat × Option Nat) : Prop where
  d : i.1.Ok
  m1 : 1 ≤ i.2.1
  m2 : i.2.1 ≤ 1000000
  b : ∀ b, i.2.2 = some b → 1 ≤ b ∧ b ≤ 1000000
section
variable {P : Program} {w : World} {K : PySem.W.Frag} {mg : Str → Option Value} {base : Heap}
abbrev CWalks (P : Program) (w : World) (K : PySem.W.Frag) (mg : Str → Option Value) (base : Heap) (M C : Addr) : Prop := Cal P w K mg base 6 "pair_walks" p_pwalks (spOf (fun d : Tb × Nat × Option (List Nat) => MOk d.1 d.2.1 ∧ LotOk d.2.1 d.2.2) (fun d => [mchT K M d.1 d.2.1, dat K (lotD d.2.2)]) (fun d => lstT K ((lotOf d.2.1 d.2.2).map fun p => walkT K C (wkA d.1 d.2.1 p))))
theorem c_walks {M C : Addr} (D : DefAt K mg "pair_walks" spair_walks p_pwalks) (CS : CStarts P w K mg base M) (CI : CPini P w K mg base M C) : CWalks P w K mg base M C :=
  def_ok (N := n_pwalks) D sc_pwalks (fun _ => rfl) fun f cdv A outer s H E d w0 Q σ hr hp S q => by
    obtain ⟨T, n, So⟩ := d
    obtain ⟨hM, L⟩ := hp
    have hM : MOk T n := hM
    have L : LotOk n So := L
    have n4 := hM.n4
    have l4 := L.lot_len n4
    show wS _ (_ :: _) _ _ _
    refine w_ret (lcM (xs := lotOf n So) (κ := fun p => dat K (.int (p : Nat))) [("state", 2)] 2 (fun p => walkT K C (wkA T n p)) rfl sc_pwalks.nd S (eqI_ ?_ (ivT (xs := natsD (lotOf n So)) (call_c CS (hr.mono (by decide)) (T, n, So) ⟨hM, L⟩ (ac (nm 0 S) (ac (nm 1 S) a0))))) (by omega) (fun i p σ2 w4 hp g4 S4 s0 H0 C0 cl fp => make_c CI (hr.mono (by decide)) (wkA T n p) (wkA_ok hM (L.lot_lt (List.mem_of_getElem? hp))) (ac (nm 0 S4) (ac (nm 2 S4) a0)))) q
    unfold natsD
    rw [List.map_map]
    rfl
abbrev CCdiv (P : Program) (w : World) (K : PySem.W.Frag) (mg : Str → Option Value) (base : Heap) : Prop := Cal P w K mg base 1 "common_divisor" p_cdiv (spOf (fun _ : Nat × Nat => True) (fun d => [dat K (.int (d.1 : Nat)), dat K (.int (d.2 : Nat))]) (fun d => dat K (.int (Nat.gcd d.1 d.2 : Nat))))
theorem c_cdiv (D : DefAt K mg "common_divisor" scommon_divisor p_cdiv) : CCdiv P w K mg base :=
  def_ok (N := n_cdiv) D sc_cdiv (fun _ => rfl) fun f cdv A outer s H E d w0 Q σ hr hp S q => by
    obtain ⟨a, b⟩ := d
    show wS _ (_ :: _) _ _ _
    refine w_while (D := { nx := fun _ H' => Q .non H', rt := Q }) PassesOwn.never (fun m σ w' => ∃ x, Nat.gcd x m = Nat.gcd a b ∧ Grow w0 w' ∧ Sl w'.G σ [some (dat K (.int (x : Nat))), some (dat K (.int (m : Nat)))]) b ⟨a, rfl, Grow.refl _, S⟩ fun m σ' w' ⟨x, eg, gJ, SJ⟩ => ?_
    refine ⟨decide (m ≠ 0), eqT ?_ (t_neI (nm 1 SJ) ci), fun hb w6 g6 => ?_, fun hb w6 g6 => ?_⟩
    · by_cases h : m = 0
      · subst h; rfl
      · rw [decide_eq_true h, decide_eq_false (by omega)]
        rfl
    · have hb : m ≠ 0 := of_decide_eq_true hb
      have S6 := SJ.mono g6.g
      refine w_par 0 1 rfl sc_cdiv.nd S6 (ac (nm 1 S6) (ac (imod (nm 0 S6) (nm 1 S6) (by omega)) a0)) fun σ7 w7 g7 S7 => wS_nil ⟨x % m, w7, Nat.mod_lt _ (by omega), rfl, m, ?_, (gJ.trans g6).trans g7, ?_⟩
      · rw [Nat.gcd_comm m, ← Nat.gcd_rec, Nat.gcd_comm]
        exact eg
      · rw [Int.natCast_emod]
        exact S7
    · have hb : m = 0 := Classical.not_not.mp (of_decide_eq_false hb)
      subst hb
      have S6 := SJ.mono g6.g
      rw [Nat.gcd_zero_right] at eg
      subst eg
      exact w_ret (nm 0 S6) fun v w2 g2 hv => q v w2 ((gJ.trans g6).trans g2) hv
abbrev CFirst (P : Program) (w : World) (K : PySem.W.Frag) (mg : Str → Option Value) (base : Heap) (C : Addr) : Prop := Cal P w K mg base 3 "first_parting" p_first (spOf FpOk (fun i => [walkT K C i.1, dat K (.int (i.2.1 : Nat)), dat K (boundD i.2.2)]) (fun i => dat K (optD (fpOf i.1 i.2.1 i.2.2))))
theorem c_first {C : Addr} (D : DefAt K mg "first_parting" sfirst_parting p_first) (B : Bu mg) (KC : Kls K C wFn) (CD : CCdiv P w K mg base) (CE : CEnds P w K mg base C) : CFirst P w K mg base C :=
  def_ok (N := n_first) D sc_first (fun _ => rfl) fun f cdv A outer s H E i w0 Q σ hr hp S q => by
    obtain ⟨d, m, bo⟩ := i
    have hd : d.Ok := hp.d
    have m1 : 1 ≤ m := hp.m1
    have m2 : m ≤ 1000000 := hp.m2
    have hbo : ∀ b, bo = some b → 1 ≤ b ∧ b ≤ 1000000 := hp.b
    have hlen := hd.k.len
    have c1 := hd.k.rnd.c1
    have gp : 1 ≤ Nat.gcd m d.c := Nat.gcd_pos_of_pos_left _ m1
    have gle : Nat.gcd m d.c ≤ m := Nat.gcd_le_left _ m1
    have h0 : m / Nat.gcd m d.c * d.c ≤ 1000000 * 65537 := Nat.mul_le_mul (Nat.le_trans (Nat.div_le_self _ _) m2) (by omega)
    show wS _ (_ :: _) _ _ _
    refine w_set (τ := dat K (.int (lastOf d m none : Nat))) 3 sc_first.nd S (eqE ?_ (add (fld_c (nm 0 S) KC (by simp) rfl) (mul (i := (m : Int) / (Nat.gcd m d.c : Nat)) (fdiv (nm 1 S) (call_c CD (hr.mono (by decide)) (m, d.c) True.intro (ac (nm 1 S) (ac (fld_c (nm 0 S) KC (by simp) rfl) a0))) (by show (0 : Int) < (Nat.gcd m d.c : Nat) ∧ ((Nat.gcd m d.c : Nat) : Int) < 1073741824; omega)) (fld_c (nm 0 S) KC (by simp) rfl) ?_))) fun σ2 w2 g2 S2 => ?_
    · show PyData.int ((d.e : Int) + (m : Int) / (Nat.gcd m d.c : Nat) * (d.c : Int)) = .int ((d.e + m / Nat.gcd m d.c * d.c : Nat) : Int)
      rw [← Int.natCast_ediv, ← Int.natCast_mul, ← Int.natCast_add]
    · exact .inr (by show -(2 ^ 64 : Int) < (d.c : Nat) ∧ ((d.c : Nat) : Int) < 2 ^ 64; omega)
    have lz : lastOf d m bo ≤ 65537 + 1000000 * 65537 := by
      cases bo with
      | none =>
        show d.e + _ ≤ _
        omega
      | some b =>
        show min _ _ ≤ _
        omega
    -- behind the bound
    have go : ∀ σ3 w3, Grow w0 w3 → Sl w3.G σ3 [some (walkT K C d), some (dat K (.int (m : Nat))), some (dat K (boundD bo)), some (dat K (.int (lastOf d m bo : Nat))), none] →
        wS (BX P w K mg base n_first "first_parting" sfirst_parting f cdv A outer s H E) ((defBody sfirst_parting).drop 2) { nx := fun _ H' => Q .non H', rt := Q } σ3 w3.H := by
      intro σ3 w3 g3 S3
      show wS _ (_ :: _) _ _ _
      have rg : RgC (m : Int) ((lastOf d m bo : Nat) + 1 : Int) (m : Int) (lastOf d m bo / m) := by
        have q := rgc_pos (m := m) (l := lastOf d m bo + 1) (c := m) (k := lastOf d m bo / m) m1 (by omega) (by omega) (by omega) (by
          by_cases h : m < lastOf d m bo + 1
          · rw [if_pos h]
            have : lastOf d m bo + 1 - m - 1 = lastOf d m bo - m := by omega
            rw [this]
            exact Nat.div_eq_sub_div m1 (by omega)
          · rw [if_neg h]
            exact Nat.div_eq_of_lt (by omega))
        rw [Int.natCast_add] at q
        exact q
      refine w_for (D := { nx := fun _ H' => Q .non H', rt := Q }) 4 rfl PassesOwn.never sc_first.nd (iv_rng3 B.range_ (nm 1 S3) (add (nm 3 S3) ci) (nm 1 S3) rg)
        (fun i σ w' => Grow w0 w' ∧ Sl w'.G σ [some (walkT K C d), some (dat K (.int (m : Nat))), some (dat K (boundD bo)), some (dat K (.int (lastOf d m bo : Nat))), none] ∧ ∀ j, j < i → pB d ((j + 1) * m) = false) (fun w' g => ⟨g3.trans g, S3.mono g.g, fun j hj => absurd hj (Nat.not_lt_zero _)⟩) (fun i τ σ' w4 w5 v hτ hI g5 hv => ?_) (fun σ' w' hI => ?_)
      · obtain ⟨gI, SI, pI⟩ := hI
        obtain ⟨hi, eτ⟩ := rngT_at hτ
        rw [eτ] at hv
        have ei : (m : Int) + (i : Nat) * (m : Int) = (((i + 1) * m : Nat) : Int) := by
          rw [Nat.succ_mul, Int.natCast_add, Int.natCast_mul]
          omega
        have S5 := (SI.mono g5.g).put hv 4
        rw [ei] at S5
        refine w_when (b := pB d ((i + 1) * m)) (eqT ?_ (t_lst (asL (meth_c CE KC.cls (hr.mono (by decide)) (d, (i + 1) * m) hd (nm 0 S5) rfl (ac (nm 4 S5) a0) rfl)))) (fun hb w6 g6 => ?_) (fun hb w6 g6 => wS_nil ⟨w6, rfl, g6.g, (gI.trans g5).trans g6, (S5.mono g6.g).forget 4, fun j hj => ?_⟩)
        · unfold pB
          rw [List.isEmpty_map, List.isEmpty_map]
        · have S6 := S5.mono g6.g
          refine w_ret (τ := dat K (optD (fpOf d m bo))) (eqE ?_ (nm 4 S6)) fun v w7 g7 hv => q v w7 (((gI.trans g5).trans g6).trans g7) hv
          unfold fpOf
          rw [fpS_some hi pI hb]
          rfl
        · rcases Nat.lt_or_ge j i with q | q
          · exact pI j q
          · have : j = i := by omega
            subst this
            exact hb
      · obtain ⟨gI, SI, pI⟩ := hI
        rw [rngT_length] at pI
        refine w_ret (τ := dat K (optD (fpOf d m bo))) (eqE ?_ cn) fun v w7 g7 hv => q v w7 (gI.trans g7) hv
        unfold fpOf
        rw [fpS_none pI]
        rfl
    cases bo with
    | none => exact w_if (b := false) (eqT rfl (t_notN (nm 2 S2) isn_none)) (fun h => nomatch h) (fun _ w3 g3 => wS_nil (go _ w3 (g2.trans g3) (S2.mono g3.g)))
    | some b =>
      obtain ⟨b1, b2⟩ := hbo b rfl
      refine w_if (b := true) (eqT rfl (t_notN (nm 2 S2) (isn_dat (by intro h; cases h)))) (fun _ w3 g3 => ?_) (fun h => nomatch h)
      have S3 := S2.mono g3.g
      refine w_set (τ := dat K (.int (lastOf d m (some b) : Nat))) 3 sc_first.nd S3 (eqE ?_ (min2_ rfl B.min_ (nm 3 S3) (sub (nm 2 S3) ci))) fun σ4 w4 g4 S4 => wS_nil (go _ w4 ((g2.trans g3).trans g4) S4)
      show PyData.int (if (b : Int) - 1 < ((lastOf d m none : Nat) : Int) then (b : Int) - 1 else ((lastOf d m none : Nat) : Int)) = .int ((min (lastOf d m none) (b - 1) : Nat) : Int)
      congr 1
      split <;> omega
abbrev CNone (P : Program) (w : World) (K : PySem.W.Frag) (mg : Str → Option Value) (base : Heap) (C : Addr) : Prop := Cal P w K mg base 3 "is_none_enough" p_none (spOf WArg.Ok (fun d => [walkT K C d]) (fun d => dat K (.bool (pB d ((d.e / d.c + 1) * d.c)))))
theorem c_none {C : Addr} (D : DefAt K mg "is_none_enough" sis_none_enough p_none) (B : Bu mg) (KC : Kls K C wFn) (CE : CEnds P w K mg base C) : CNone P w K mg base C :=
  def_ok (N := n_none) D sc_none (fun _ => rfl) fun f cdv A outer s H E d w0 Q σ hr hd S q => by
    have hlen := hd.k.len
    have c1 := hd.k.rnd.c1
    show wS _ (_ :: _) _ _ _
    refine w_set (τ := dat K (.int (d.e / d.c + 1 : Nat))) 1 sc_none.nd S (eqE ?_ (add (fdiv (fld_c (nm 0 S) KC (by simp) rfl) (fld_c (nm 0 S) KC (by simp) rfl) (by omega)) ci)) fun σ2 w2 g2 S2 => ?_
    · show PyData.int ((d.e : Int) / (d.c : Int) + 1) = .int ((d.e / d.c + 1 : Nat) : Int)
      rw [Int.natCast_add, Int.natCast_ediv]
      rfl
    have hq : d.e / d.c ≤ d.e := Nat.div_le_self _ _
    refine w_ret (τ := dat K (.bool (pB d ((d.e / d.c + 1) * d.c)))) (eqE ?_ (gt (lenLD B.len_ (meth_c CE KC.cls (hr.mono (by decide)) (d, (d.e / d.c + 1) * d.c) hd (nm 0 S2) rfl (ac (eqE ?_ (mul (nm 1 S2) (fld_c (nm 0 S2) KC (by simp) rfl) ?_)) a0) rfl)) ci)) fun v w3 g3 hv => q v w3 (g2.trans g3) hv
    · unfold pB
      rw [List.length_map]
      cases endsL (d.lay ((d.e / d.c + 1) * d.c)) d.p with
      | nil => rfl
      | cons a b =>
        rw [List.length_cons, decide_eq_true (by omega)]
        rfl
    · rw [Int.natCast_mul]
    · exact .inr ⟨by omega, by omega⟩
end
end K27
/-! ## Defs8 -/
/-! The least number of a machine. -/
namespace K27
open PySem L2 PySem.Spec PyProof.Rows
theorem fp_enough {d : WArg} (hd : d.Ok) {m : Nat} (m1 : 1 ≤ m) {bo : Option Nat} (hb : ∀ b, bo = some b → 1 ≤ b) : fpOf d m bo = none ↔ Enough1 (Parts d.T d.n d.p) m bo := by
  have c1 := hd.k.rnd.c1
  have gp : 1 ≤ Nat.gcd m d.c := Nat.gcd_pos_of_pos_left _ m1
  -- the step: a multiple of both
  have r1 : ∃ j, m / Nat.gcd m d.c * d.c = j * m := ⟨d.c / Nat.gcd m d.c, by
    obtain ⟨a, ha⟩ := Nat.gcd_dvd_left m d.c
    obtain ⟨b, hb⟩ := Nat.gcd_dvd_right m d.c
    generalize Nat.gcd m d.c = g at *
    subst ha
    rw [hb, Nat.mul_div_cancel_left _ gp, Nat.mul_div_cancel_left _ gp, Nat.mul_comm g b, ← Nat.mul_assoc, Nat.mul_comm a b, Nat.mul_assoc, Nat.mul_comm a g]⟩
  have r3 : 1 ≤ m / Nat.gcd m d.c * d.c := Nat.mul_pos (Nat.div_pos (Nat.gcd_le_left _ m1) gp) c1
  have per : ∀ L, d.e ≤ L → Parts d.T d.n d.p (L + d.c) = Parts d.T d.n d.p L := fun L hL => hd.k.rnd.parts hd.m hd.p L hL
  have chk : ∀ last, (∀ j, j < last / m → pB d ((j + 1) * m) = false) ↔ ∀ k, 1 ≤ k → k * m ≤ last → ¬ Parts d.T d.n d.p (k * m) := by
    intro last
    constructor
    · intro h k hk hle hP
      have h1 : k ≤ last / m := (Nat.le_div_iff_mul_le m1).mpr hle
      have h2 := h (k - 1) (by omega)
      have e : k - 1 + 1 = k := by omega
      rw [e] at h2
      rw [(pB_iff hd _).mpr hP] at h2
      cases h2
    · intro h j hj
      have h1 : (j + 1) * m ≤ last := (Nat.le_div_iff_mul_le m1).mp (by omega)
      have h2 := h (j + 1) (by omega) h1
      cases q : pB d ((j + 1) * m) with
      | false => rfl
      | true => exact absurd ((pB_iff hd _).mp q) h2
  unfold fpOf
  rw [fpS_iff, chk]
  cases bo with
  | none =>
    constructor
    · intro h
      exact enough1_of per r1 ⟨_, rfl⟩ r3 h
    · intro h k hk _
      exact h k hk fun b e => nomatch e
  | some b =>
    have b1 := hb b rfl
    constructor
    · intro h
      by_cases q : b - 1 ≤ d.e + m / Nat.gcd m d.c * d.c
      · have e : lastOf d m (some b) = b - 1 := Nat.min_eq_right q
        rw [e] at h
        exact enough1_bound b1 h
      · have e : lastOf d m (some b) = d.e + m / Nat.gcd m d.c * d.c := Nat.min_eq_left (by omega)
        rw [e] at h
        exact (enough1_of per r1 ⟨_, rfl⟩ r3 h).weaken fun x hx => nomatch hx
    · intro h k hk hle
      have : lastOf d m (some b) ≤ b - 1 := Nat.min_le_right _ _
      exact h k hk fun b' e => by
        injection e with e
        omega
/-- the number at which all logs' parting tells whether none is enough -/
def nOf (d : WArg) : Nat := (d.e / d.c + 1) * d.c
structure LArg where
  T : Tb
  n : Nat
  So : Option (List Nat)
  bo : Option Nat
  r : Option Nat
structure LArg.Ok (i : LArg) : Prop where
  m : MOk i.T i.n
  l : LotOk i.n i.So
  b : ∀ b, i.bo = some b → 1 ≤ b ∧ b ≤ 1000000
  none_ : i.r = none → i.bo = none ∧ ∃ p ∈ lotOf i.n i.So, pB (wkA i.T i.n p) (nOf (wkA i.T i.n p)) = true
  some_ : ∀ r, i.r = some r → r ≤ 1000 ∧ (i.bo = none → ∀ p ∈ lotOf i.n i.So, pB (wkA i.T i.n p) (nOf (wkA i.T i.n p)) = false) ∧ LeastIs i.T i.n (lotOf i.n i.So) i.bo r
theorem isn_opt {K : PySem.W.Frag} {o : Option Nat} : Isn (dat K (optD o)) o.isNone := by
  cases o with
  | none => exact isn_none
  | some i => exact isn_dat (by intro h; cases h)
section
variable {P : Program} {w : World} {K : PySem.W.Frag} {mg : Str → Option Value} {base : Heap}
abbrev kwSB : List (Str × V) := [("states", .non), ("bound", .non)]
abbrev CLeast (P : Program) (w : World) (K : PySem.W.Frag) (mg : Str → Option Value) (base : Heap) (M : Addr) : Prop := KCal P w K mg base 7 "least_wrap" sleast_wrap kwSB p_least (spOf LArg.Ok (fun i => [mchT K M i.T i.n, dat K (lotD i.So), dat K (boundD i.bo)]) (fun i => dat K (optD i.r)))
theorem c_least {M C : Addr} (D : KDefAt K mg "least_wrap" sleast_wrap kwSB) (B : Bu mg) (CW : CWalks P w K mg base M C) (CB : CBound P w K mg base) (CF : CFirst P w K mg base C) (CN : CNone P w K mg base C) : CLeast P w K mg base M :=
  kdef_ok (N := n_least) D sc_least (fun _ => rfl) fun f cdv A outer s H E i w0 Q σ hr hp S q => by
    obtain ⟨T, n, So, bo, r⟩ := i
    obtain ⟨hM, L, hb, hnone, hsome⟩ := hp
    have hM : MOk T n := hM
    have L : LotOk n So := L
    have hb : ∀ b, bo = some b → 1 ≤ b ∧ b ≤ 1000000 := hb
    have n4 := hM.n4
    have l4 := L.lot_len n4
    have okd : ∀ p ∈ lotOf n So, (wkA T n p).Ok := fun p hp => wkA_ok hM (L.lot_lt hp)
    show wS _ (_ :: _) _ _ _
    refine w_set (τ := lstT K ((lotOf n So).map fun p => walkT K C (wkA T n p))) 3 sc_least.nd S (call_c CW (hr.mono (by decide)) (T, n, So) ⟨hM, L⟩ (ac (nm 0 S) (ac (nm 1 S) a0))) fun σ1 w1 g1 S1 => ?_
    refine w_drop (call_c CB (hr.mono (by decide)) bo (fun b e => (hb b e).1) (ac (nm 2 S1) a0)) fun w2 g2 => ?_
    have S2 := S1.mono g2.g
    have G2 := g1.trans g2
    -- the loop, from one on
    have go : ∀ m, r = some m → ∀ w3, Grow w0 w3 → Sl w3.G σ1 [some (mchT K M T n), some (dat K (lotD So)), some (dat K (boundD bo)), some (lstT K ((lotOf n So).map fun p => walkT K C (wkA T n p))), none, none] →
        wS (BX P w K mg base n_least "least_wrap" sleast_wrap f cdv A outer s H E) ((defBody sleast_wrap).drop 3) { nx := fun _ H' => Q .non H', rt := Q } σ1 w3.H := by
      intro rr er w3 g3 S3
      obtain ⟨r1, _, hl⟩ := hsome rr er
      have hl : LeastIs T n (lotOf n So) bo rr := hl
      have r1 : rr ≤ 1000 := r1
      show wS _ (_ :: _) _ _ _
      refine w_set (τ := dat K (.int (1 : Nat))) 4 sc_least.nd S3 ci fun σ4 w4 g4 S4 => ?_
      have rr1 := hl.m1
      refine w_while (D := { nx := fun _ H' => Q .non H', rt := Q }) PassesOwn.never (fun k σ w' => ∃ m, k + m = rr ∧ 1 ≤ m ∧ Grow w0 w' ∧ Sl w'.G σ [some (mchT K M T n), some (dat K (lotD So)), some (dat K (boundD bo)), some (lstT K ((lotOf n So).map fun p => walkT K C (wkA T n p))), some (dat K (.int (m : Nat))), none]) (rr - 1) ⟨1, by omega, Nat.le_refl _, g3.trans g4, S4⟩ fun k σ' w' ⟨m, ek, m1, gJ, SJ⟩ => ?_
      have hen : (((lotOf n So).map fun p => (fpOf (wkA T n p) m bo).isNone).all id) = decide (m = rr) := by
        rw [List.all_map, Bool.eq_iff_iff, List.all_eq_true, decide_eq_true_eq]
        have h1 : (∀ p ∈ lotOf n So, (id ∘ fun p => (fpOf (wkA T n p) m bo).isNone) p = true) ↔ Enough T n (lotOf n So) m bo := by
          constructor
          · intro h p hp
            exact (fp_enough (okd p hp) m1 fun b e => (hb b e).1).mp (Option.isNone_iff_eq_none.mp (h p hp))
          · intro h p hp
            exact Option.isNone_iff_eq_none.mpr ((fp_enough (okd p hp) m1 fun b e => (hb b e).1).mpr (h p hp))
        rw [h1]
        constructor
        · intro h
          have := hl.le_of m1 h
          omega
        · intro h
          rw [h]
          exact hl.en
      refine ⟨decide (m < rr), eqT ?_ (t_not (t_val (all_ (bs := (lotOf n So).map fun p => (fpOf (wkA T n p) m bo).isNone) rfl B.all_ (eqL (by rw [List.map_map]; rfl) (lcM (xs := lotOf n So) (κ := fun p => walkT K C (wkA T n p)) [("walk", 5)] 5 (fun p => dat K (.bool (fpOf (wkA T n p) m bo).isNone)) rfl sc_least.nd SJ (iv_list (nm 3 SJ)) (by omega)
        (fun i p σ2 w4 hp g4 S4 s0 H0 C0 cl fp => isN (call_c CF (hr.mono (by decide)) (wkA T n p, m, bo) ⟨okd p (List.mem_of_getElem? hp), m1, (by show m ≤ 1000000; omega), hb⟩ (ac (nm 5 S4) (ac (nm 4 S4) (ac (nm 2 S4) a0)))) isn_opt)))))), fun hlt w6 g6 => ?_, fun hlt w6 g6 => ?_⟩
      · rw [hen]
        by_cases h : m = rr
        · rw [decide_eq_true h, decide_eq_false (by omega)]
          rfl
        · rw [decide_eq_false h, decide_eq_true (by omega)]
          rfl
      · have hlt := of_decide_eq_true hlt
        have S6 := SJ.mono g6.g
        refine w_inc 4 sc_least.nd S6 rfl ci fun σ7 w7 g7 S7 => wS_nil ⟨rr - (m + 1), w7, by omega, rfl, m + 1, by omega, by omega, (gJ.trans g6).trans g7, S7⟩
      · have hlt := of_decide_eq_false hlt
        have em : m = rr := by omega
        subst em
        have S6 := SJ.mono g6.g
        refine w_ret (nm 4 S6) fun v w7 g7 hv => q v w7 ((gJ.trans g6).trans g7) ?_
        rw [er]
        exact hv
    -- the question ahead of it
    have any1 : ∀ w3, Grow w0 w3 → Sl w3.G σ1 [some (mchT K M T n), some (dat K (lotD So)), some (dat K (boundD bo)), some (lstT K ((lotOf n So).map fun p => walkT K C (wkA T n p))), none, none] → True := fun _ _ _ => True.intro
    cases bo with
    | some b =>
      obtain ⟨m, em⟩ : ∃ m, r = some m := by
        cases r with
        | some m => exact ⟨m, rfl⟩
        | none => exact nomatch (hnone rfl).1
      exact w_if (b := false) (ww (andF (t_isN (nm 2 S2) (isn_dat (by intro h; cases h))))) (fun h => nomatch h) (fun _ w3 g3 => wS_nil (go m em w3 (G2.trans g3) (S2.mono g3.g)))
    | none =>
      refine w_if (b := (lotOf n So).any fun p => pB (wkA T n p) (nOf (wkA T n p))) (ww (andT (t_isN (nm 2 S2) isn_none) (and1 (eqT ?_ (t_val (any_ (bs := (lotOf n So).map fun p => pB (wkA T n p) (nOf (wkA T n p))) rfl B.any_ (eqL (by rw [List.map_map]; rfl) (lcM (xs := lotOf n So) (κ := fun p => walkT K C (wkA T n p)) [("walk", 5)] 5 (fun p => dat K (.bool (pB (wkA T n p) (nOf (wkA T n p))))) rfl sc_least.nd S2 (iv_list (nm 3 S2)) (by omega)
        (fun i p σ2 w4 hp g4 S4 s0 H0 C0 cl fp => call_c CN (hr.mono (by decide)) (wkA T n p) (okd p (List.mem_of_getElem? hp)) (ac (nm 5 S4) a0)))))))))) (fun ha w3 g3 => ?_) (fun ha w3 g3 => wS_nil ?_)
      · rw [List.any_map]
        rfl
      · cases r with
        | none => exact w_ret cn fun v w4 g4 hv => q v w4 ((G2.trans g3).trans g4) hv
        | some m =>
          obtain ⟨_, h2, _⟩ := hsome m rfl
          obtain ⟨p, hp, hpb⟩ := List.any_eq_true.mp ha
          rw [h2 rfl p hp] at hpb
          cases hpb
      · cases r with
        | none =>
          obtain ⟨_, p, hp, hpb⟩ := hnone rfl
          have : ((lotOf n So).any fun p => pB (wkA T n p) (nOf (wkA T n p))) = true := List.any_eq_true.mpr ⟨p, hp, hpb⟩
          rw [ha] at this
          cases this
        | some m => exact go m rfl w3 (G2.trans g3) (S2.mono g3.g)
end
end K27
/-! ## Core14 -/
/-! The calculus, fourteenth part: the least of some pairs; what is one of some kinds. -/
namespace K27
open PySem L2 PySem.Spec PyProof.Rows
theorem prs_alike (l : List Pr) : PySem.W.AlikeAll (l.map prD) := by
  refine ⟨fun x hx y hy => ?_, fun x hx => ?_⟩
  · obtain ⟨a, _, e⟩ := List.mem_map.mp hx
    obtain ⟨b, _, e2⟩ := List.mem_map.mp hy
    rw [← e, ← e2]
    rfl
  · obtain ⟨a, _, e⟩ := List.mem_map.mp hx
    rw [← e]
    intro h
    cases h
theorem prs_depth (l : List Pr) : PyData.depthAll (l.map prD) ≤ 2 := by
  induction l with
  | nil => exact Nat.zero_le _
  | cons x l ih =>
    show max (PyData.depth (prD x)) (PyData.depthAll (l.map prD)) ≤ 2
    have : PyData.depth (prD x) ≤ 2 := by
      unfold prD
      simp [PyData.depth, PyData.depthAll]
    omega
section
variable {X : Cx} {e a b : Expr} {es : List Expr} {σ : L2.St} {w w' : Wd} {τ τ' : Ty} {pos p : Pos} {ds : List (Option Ty)} {rest body : List Stmt} {D : Ends}
theorem neg_ {i : Int} (h : Dv X σ w e (.int i)) : Dv X σ w (.UnaryOp .USub e pos) (.int (-i)) := fun w1 g Q k =>
  toE (pe_un un_neg uE) (h w1 g _ fun v w2 g2 hv => ⟨i, Dp.int_iff hv, k _ w2 g2 (.int _)⟩)
/-- min(xs) of pairs: one of them -/
theorem minP {l : List Pr} (hc : X.calm = true) (hu : X.A.units + 64 < cLine) (hm : X.mg "min" = none) (hne : l ≠ []) (ha : Ev X σ w e (lstT X.K ((l.map prD).map (dat X.K)))) (hg : Gl X "min" := by rfl) (he : starEach [e] X.env = (false, eval e X.env) :: starEach [] X.env := by rfl) :
    Ev X σ w (.Call (.Name "min" p) [e] [] pos) (some_ (fun x => x ∈ l) fun x => dat X.K (prD x)) := by
  have cr : CallR X (.builtin "min") (fun xs H Q => ∃ (w2 : Wd) (a : Addr) (vs : List V), xs = [.ref a] ∧ w2.H = H ∧ SqL X.K w2.H a vs ∧ DpAll X.K w2.G vs (l.map prD) ∧ ∀ x v, x ∈ l → Dp X.K w2.G v (prD x) → Q v H) := by
    intro pins s σ H xs us Q I r ⟨w2, a, vs, ex, eH, hs, ht, q⟩
    subst ex eH
    obtain ⟨u, rfl, ru⟩ := r.one
    obtain rfl : u = Value.ref a := ru
    obtain ⟨its, rv, hl, hz'⟩ := I.list hs
    have ht2 : DpAll X.K w2.H vs (l.map prD) := dpAll_mono w2.sub _ _ ht
    obtain ⟨as, hr⟩ := Dp.readsAll I _ vs its ht2 rv
    cases l with
    | nil => exact absurd rfl hne
    | cons y l =>
      refine PySem.W.min_list_data (I.ok.hd hc) hl.isList (x := prD y) (xs := l.map prD) (as := as) (by simpa using hr) (prs_alike (y :: l)) ?_ fun i v h' tk bs hi _ hk => ?_
      · have := prs_depth (y :: l)
        have e : PyData.depthAll (prD y :: l.map prD) ≤ 2 := this
        omega
      · have hi' : its[i]? = some v := by simpa using hi
        obtain ⟨x, hx, rx⟩ : ∃ x, vs[i]? = some x ∧ RelV x v := by
          have hlen := rv.length
          have h1 := (List.getElem?_eq_some_iff.mp hi').1
          have h2 : vs[i]? = some vs[i] := List.getElem?_eq_getElem (by omega)
          obtain ⟨u, hu, ru⟩ := rv.get h2
          rw [hi'] at hu
          cases hu
          exact ⟨_, h2, ru⟩
        obtain ⟨τ, e1, e2⟩ := (dpAll_tys.mp ht).get hx
        rw [List.getElem?_map, List.getElem?_map] at e1
        cases q2 : (y :: l)[i]? with
        | none =>
          rw [q2] at e1
          cases e1
        | some z =>
          rw [q2] at e1
          have e1 : dat X.K (prD z) = τ := Option.some.inj e1
          rw [← e1] at e2
          exact ⟨x, w2.H, I.kept hk, rx, q z x (List.mem_of_getElem? q2) e2⟩
  exact bi1 cr hm (by decide +kernel) ha (fun v w2 Q g ⟨a, vs, ev, hs, ht⟩ k => ⟨w2, a, vs, by rw [ev], rfl, w2.sub.seq hs, dpAll_tys.mpr ht, fun x v hx hv => k v w2 (Grow.refl _) ⟨x, hx, hv⟩⟩) hg (by decide) (by decide) he
/-- x, y = e, of one of some kinds -/
theorem w_unpS {ι : Type} {Pp : ι → Prop} {κ1 κ2 : ι → Ty} {x y : Str} {px py pt : Pos} {kt} (i j : Nat) (hc : X.calm = true) (hN : X.N.Nodup) (S : Sl w.G σ ds) (he : Ev X σ w e (some_ Pp fun z => tupT X.K [κ1 z, κ2 z])) (k : ∀ z σ' w', Pp z → Grow w w' → Sl w'.G σ' ((ds.set i (some (κ1 z))).set j (some (κ2 z))) → wS X rest D σ' w'.H)
    (hi : PN X i x := by exact ⟨rfl, by first | exact Or.inl rfl | exact Or.inr rfl, by first | exact .inl rfl | exact .inr rfl⟩) (hj : PN X j y := by exact ⟨rfl, by first | exact Or.inl rfl | exact Or.inr rfl, by first | exact .inl rfl | exact .inr rfl⟩)
    (hs : swapsWithSole [.Tuple [.Name x px, .Name y py] kt pt] e pos.line X.env = pure false := by rfl) (hw : swappedStores [.Tuple [.Name x px, .Name y py] kt pt] e X.env = pure none := by rfl) :
    wS X (.Assign [.Tuple [.Name x px, .Name y py] kt pt] e pos :: rest) D σ w.H :=
  wS_cons (toS1 (ps_asg uE (pg_tup hc (pgs_cons (pn_pg hN hi) (pgs_cons (pn_pg hN hj) pgs_nil))) hs hw) (he w (Grow.refl _) _ fun v w2 g2 ⟨z, hz, hv⟩ => K27.g2 hv fun v1 v2 h1 h2 => k z _ w2 hz g2 (((S.mono g2.g).put h1 i).put h2 j)))
/-- name = e, of one of some kinds -/
theorem w_setS {ι : Type} {Pp : ι → Prop} {κ : ι → Ty} (i : Nat) {x : Str} {pos' : Pos} (hN : X.N.Nodup) (S : Sl w.G σ ds) (he : Ev X σ w e (some_ Pp κ)) (k : ∀ z σ' w', Pp z → Grow w w' → Sl w'.G σ' (ds.set i (some (κ z))) → wS X rest D σ' w'.H) (hi : X.N[i]? = some x := by rfl) (hx : Loc X.env.scope x := by first | exact Or.inl rfl | exact Or.inr rfl)
    (hs : swapsWith e (some (.Name x pos')) pos.line X.env = pure false := by rfl) (hf : X.fn x = true ∨ X.env.scope.names.lookup x = some .local := by first | exact .inl rfl | exact .inr rfl) :
    wS X (.Assign [.Name x pos'] e pos :: rest) D σ w.H :=
  w_setv i hN he (fun v w' g ⟨z, hz, hv⟩ => k z _ w' hz g ((S.mono g.g).put hv i)) hi hx hs hf
end
end K27
/-! ## Core15 -/
/-! The calculus, fifteenth part: dicts by a comprehension, their keys tuples; list(d) that may be changed. -/
namespace K27
open PySem L2 PySem.Spec PyProof.Rows
section
variable {X : Cx}
/-- what a turn stores -/
def PutN (X : Cx) (d : Addr) (y z : V) (H : Hp) (Nx : Hp → Prop) : Prop := ∃ (w' : Wd) (kvs : List (NK × PyData)) (ks : List NK) (dv : PyData) (ka : Addr), w'.H = H ∧ OwnD X.prog X.w X.K w' d kvs ∧ y = .ref ka ∧ Dp X.K w'.G (.ref ka) (NestedKey.data (.tup ks)) ∧ (NestedKey.tup ks).depth ≤ 8 ∧
  Dp X.K w'.G z dv ∧ kvs.length ≤ 1000000 ∧ ∀ (o : HO) (n : w'.G d = none), OwnD X.prog X.w X.K (w'.lay d o n) d (ptK kvs (.tup ks) dv) → Nx (w'.lay d o n).H
def tDcN (X : Cx) (wi : TI) (g : TG) (tk tv : TE) (vs : List Nat) : TE := fun σ H Q => wi σ H fun J H1 => ∀ d, H1 d = none → (d == sysModules) = false → ∃ W : Nat → Nat → Hp → Prop, (∃ m, W 0 m (upd H1 d (DObj X.prog X.w [] d))) ∧ ∀ i m H, W i m H →
  (J.stop i H ∧ Q (.ref d) H) ∨ (J.go i H ∧ ∃ Nx : Hp → Prop, (∀ H', Nx H' → ∃ m', m' < m ∧ W (i + 1) m' H') ∧ ∀ x H', J.yld i H x H' → g x (L2.wipe σ vs) H' fun σ2 H2 => L2.wipe σ2 vs = L2.wipe σ vs ∧ tk σ2 H2 fun y H4 => tv σ2 H4 fun z H5 => PutN X d y z H5 Nx)
theorem putN_run {A : Around} {E : Value → Shared → Prop} {Q : Unit → Shared → Prop} {pins : List (Addr × Obj)} {σ : L2.St} {s : Shared} {d : Addr} {y z : V} {uy uz : Value} {H : Hp} {Nx : Hp → Prop} (hu : A.units + 64 < cLine) (I : Inv X pins σ H s) (ry : RelV y uy) (rz : RelV z uz) (h : PutN X d y z H Nx)
    (q : ∀ H' s', Inv X pins σ H' s' → Nx H' → Q () s') : wpAny (model X.prog X.w) A (dictSet d uy uz) Q E s := by
  obtain ⟨w', kvs, ks, dv, ka, eH, ow, ey, hk, hdp, hz, hl, nx⟩ := h
  subst eH ey
  obtain rfl : uy = Value.ref ka := ry
  obtain ⟨xs, h1, h2, h3⟩ := ow.ex
  have dd := dict_of I h1 h3
  have r8 : (nestedKind X.prog X.w).room A := by
    show A.units + 8 < cLine
    omega
  refine wpAny_dictSet_heap (hsz := by rw [← Paired.length h3]; exact Nat.le_of_lt (small_big hl)) r8 (key_is I hdp hk) dd fun h' dd' hs => ?_
  obtain ⟨o, es, ep, g1, g2, g3, g4, g5, g6⟩ := dd'
  refine q (w'.lay d (DObj X.prog X.w (storedH xs (.tup ks) ka uz) d) h1.free).H _ ?_ (nx _ h1.free ⟨_, Own.self, h2, ents_put h3 hdp hk rz hz⟩)
  exact d_write I (by rw [h1.at_]; exact True.intro) hs ⟨o, g1⟩ (dobj_new ⟨o, es, ep, g1, g2, g3, g4, g6⟩)
theorem dcN_core {pins : List (Addr × Obj)} {s : Shared} {σ : L2.St} {H : Hp} {Q : VK} {kx vx tg iter : Expr} {scope : Scope} {own : List (Str × Nat)} {pos pos' : Pos} {wi : TI} {g : TG} {tk tv : TE} {use : Option (Value → Sem Unit)} {Qf : Value → Shared → Prop}
    (hu : X.A.units + 64 < cLine) (calm : X.calm = true) (hN : X.N.Nodup) (I : Inv X pins σ H s) (hi : PI X tg iter wi) (okB : BlkOk X.N X.env.scope scope own)
    (hg : ∀ (s : Shared) (H : Hp) (C : Addr) (cl : List (Str × Addr)) (fp : List Addr), PG (X.blk s H scope (compEnvC scope cl C X.env) fp) tg g)
    (hk : ∀ (s : Shared) (H : Hp) (C : Addr) (cl : List (Str × Addr)) (fp : List Addr), PE (X.blk s H scope (compEnvC scope cl C X.env) fp) kx tk)
    (hv : ∀ (s : Shared) (H : Hp) (C : Addr) (cl : List (Str × Addr)) (fp : List Addr), PE (X.blk s H scope (compEnvC scope cl C X.env) fp) vx tv) (fold : ∀ x, foldedSetIterable iter X.env x = pure x)
    (h : tDcN X wi g tk tv (own.map (·.2)) σ H Q)
    (back : ∀ D C s' m H', Inv X pins σ H' s' → Q (.ref D) H' → s'.heap.Ns C m → L2.FpOk X pins H' C → compPost (model X.prog X.w) X.A X.xe use Qf (.ref D) C (.ok .next) s') :
    wpAny (model X.prog X.w) X.A (comprehension (.DictComp kx vx [⟨tg, iter, [], 0⟩] scope pos) scope X.env pos' newDict false (eval iter X.env) use) Qf X.xe s := by
  have frees : ∀ y ∈ scope.names, y.2 = .free → ∃ c, X.env.cells.lookup y.1 = some c := fun y hy e =>
    (okB.free y hy e).elim (fun k => I.ok.has _ (.inl k)) fun k => I.ok.has _ (.inr k)
  refine wpAny_comprehension_free (use := use) rfl fold (closure_ok frees) okB.kind (fun y hy e => by rw [okB.uniq y hy, e])
    (thn (hi.run pins s σ H _ I h) fun xv z1 hx => thn hx fun itv z2 hz2 => ?_)
  obtain ⟨it, fp, tn, J, K2, e, J2, T, tn2, fp2, q⟩ := hz2
  subst e
  refine wpAny_newObj_type (newEnv_comp ?_)
  generalize eD : z2.heap.objs.size = D
  have freeD : K2 D = none := J2.hok.fresh (Nat.le_of_eq eD)
  have sysD : (D == sysModules) = false := by
    rw [← eD]
    exact beq_eq_false_iff_ne.mpr (Ne.symm (Nat.ne_of_lt J2.big))
  obtain ⟨W, ⟨m0, w0⟩, turn⟩ := q D freeD sysD
  generalize ez3 : ({ z2 with heap := z2.heap.push { cls := .type "dict", data := .dict #[] } } : Shared) = z3
  have J3 : Inv X pins σ (upd K2 D (DObj X.prog X.w [] D)) z3 := by
    rw [← ez3, ← eD]
    exact J2.laid (t' := z2.toks) (fun b o e => Heap.get?_push_of_some _ e) (Nat.le_refl _) dnew_obj
  have hp3 : z3.heap = z2.heap.push { cls := .type "dict", data := .dict #[] } := by rw [← ez3]
  have small : ∀ b ∈ fp, b < z2.heap.objs.size := fun b hb => by
    obtain ⟨o, e, _⟩ := T.obj _ _ tn2 b hb
    exact Heap.lt_size e
  have fp3 : ∀ b ∈ fp, L2.FpOk X pins (upd K2 D (DObj X.prog X.w [] D)) b ∧ b < z3.heap.objs.size := fun b hb => by
    have lt := small b hb
    refine ⟨⟨?_, (fp2 b hb).2⟩, by rw [hp3, Heap.size_push]; exact Nat.lt_succ_of_lt lt⟩
    rw [upd_ne (by rw [← eD]; exact Nat.ne_of_lt lt)]
    exact (fp2 b hb).1
  have tn3 : tn 0 z3.heap := T.keep _ _ _ tn2 fun b _ o e => by rw [hp3]; exact Heap.get?_push_of_some _ e
  have J4 := block_start J3 okB hN fp3
  have pg := hg z3 (upd K2 D (DObj X.prog X.w [] D)) z3.heap.objs.size (cellsFrom (z3.heap.objs.size + 1) scope.names (cloFrom X.env.cells scope.names [])) fp
  have pk := hk z3 (upd K2 D (DObj X.prog X.w [] D)) z3.heap.objs.size (cellsFrom (z3.heap.objs.size + 1) scope.names (cloFrom X.env.cells scope.names [])) fp
  have pv := hv z3 (upd K2 D (DObj X.prog X.w [] D)) z3.heap.objs.size (cellsFrom (z3.heap.objs.size + 1) scope.names (cloFrom X.env.cells scope.names [])) fp
  show codeAny _ _ (.compStart (.DictComp kx vx [⟨tg, iter, [], 0⟩] scope pos) 0 (.ref it) (.ref D) (compEnvC scope (cellsFrom (z3.heap.objs.size + 1) scope.names (cloFrom X.env.cells scope.names [])) z3.heap.objs.size X.env)) (compPost (model X.prog X.w) X.A X.xe use Qf (.ref D) z3.heap.objs.size) { z3 with heap := pushCells (z3.heap.push { cls := .type "dict", data := .dict #[] }) scope.names }
  have nofp : ∀ b ∈ fp, (upd K2 D (DObj X.prog X.w [] D)) b = none := fun b hb => (fp3 b hb).1.1
  generalize ece : compEnvC scope (cellsFrom (z3.heap.objs.size + 1) scope.names (cloFrom X.env.cells scope.names [])) z3.heap.objs.size X.env = ce at J4 pg pk pv ⊢
  have cL : ce.locals = z3.heap.objs.size := by subst ece; rfl
  generalize eK3 : upd K2 D (DObj X.prog X.w [] D) = K3 at J3 J4 pg pk pv w0 nofp fp3
  generalize ez4 : ({ z3 with heap := pushCells (z3.heap.push { cls := .type "dict", data := .dict #[] }) scope.names } : Shared) = z4 at J4 ⊢
  have tn4 : tn 0 z4.heap := T.keep _ _ _ tn3 fun b _ o e => by rw [← ez4]; exact pushCells_keeps _ _ _ _ (Heap.get?_push_of_some _ e)
  have stat : ∀ {σ' : L2.St} {H' : Hp} {s' : Shared}, Inv (X.blk z3 K3 scope ce fp) [] σ' H' s' → (∀ b ∈ fp, H' b = none) → ∀ b ∈ fp, L2.FpOk (X.blk z3 K3 scope ce fp) [] H' b := fun {σ' H' s'} I' hn b hb =>
    ⟨hn b hb, (I'.ok.exf b hb).1, I'.ok.exfs b hb, .inl hb, fun x c e => (I'.ok.exf b hb).2 x c e, fun p hp => absurd (show p ∈ ([] : List (Addr × Obj)) ++ [] from hp) (by simp)⟩
  have loop : codeAny (model X.prog X.w) X.A (.compLoop (.DictComp kx vx [⟨tg, iter, [], 0⟩] scope pos) 0 (.ref it) (.ref D) ce) (compPost (model X.prog X.w) X.A X.xe use Qf (.ref D) z3.heap.objs.size) z4 := by
    refine compLoop_anyD (fun n s' => ∃ i H', Inv (X.blk z3 K3 scope ce fp) [] (L2.wipe σ (own.map (·.2))) H' s' ∧ tn i s'.heap ∧ (∀ b ∈ fp, H' b = none) ∧ W i n H') ?_ m0 ⟨0, K3, J4, tn4, nofp, w0⟩
    rintro n z5 ⟨i, K5, J5, tn5, no5, w5⟩
    rcases turn i n K5 w5 with ⟨stop, qq⟩ | ⟨go, Nx, hNx, step⟩
    · refine thnF (T.done (X.blk z3 K3 scope ce fp) rfl rfl rfl calm i [] z5 _ K5 (fun _ _ => False) J5 (stat J5 no5) tn5 stop) fun r z6 ⟨hr, J6⟩ => ?_
      subst hr
      have J7 : Inv X pins σ K5 z6 := J3.call' (ch := fp) J6.os J6.base J6.hok J6.bare fun b hb => ⟨(fp3 b hb).1.2.2.2.1, (fp3 b hb).1.2.1, (fp3 b hb).1.2.2.2.2.1, (fp3 b hb).1.2.2.2.2.2⟩
      have nC : K5 z3.heap.objs.size = none := by
        rw [← cL]
        exact J6.free
      obtain ⟨m, hn, _⟩ := J6.loc
      have hn : z6.heap.Ns ce.locals m := hn
      rw [cL] at hn
      exact back D z3.heap.objs.size z6 m K5 J7 qq hn (J3.fpOk (Nat.le_refl _) nC)
    · refine thnF (T.item (X.blk z3 K3 scope ce fp) rfl rfl rfl calm i [] z5 _ K5 (fun _ _ => False) J5 (stat J5 no5) tn5 go) fun r z6 ⟨u, hr, hz6⟩ => ?_
      subst hr
      refine thnF hz6 fun _ z7 ⟨x, K7, J7, r7, y7, tn7, no7⟩ => ?_
      have J7' := J7.pinned (stat J7 no7) (T.obj _ _ tn7)
      refine thnF (pg.run _ z7 _ K7 x u _ J7' r7 (step x K7 y7)) fun _ z8 ⟨σ8, K8, J8, hw8, q8⟩ => ?_
      refine thnF ((pts_nil (X := X.blk z3 K3 scope ce fp)).run _ z8 σ8 K8 (fun b H' => b = true ∧ H' = K8) J8 ⟨rfl, rfl⟩) fun b z9 ⟨K9, J9, eb, eK⟩ => ?_
      subst eb eK
      have fin : ∀ {s' : Shared} {H' : Hp}, Inv (X.blk z3 K3 scope ce fp) ([] ++ pinsAt fp z7.heap) σ8 H' s' → Nx H' → ∃ m, m < n ∧ ∃ i H', Inv (X.blk z3 K3 scope ce fp) [] (L2.wipe σ (own.map (·.2))) H' s' ∧ tn i s'.heap ∧ (∀ b ∈ fp, H' b = none) ∧ W i m H' := fun {s' H'} I' nx => by
        obtain ⟨m', hm, w'⟩ := hNx H' nx
        have pin' : ∀ b ∈ fp, ∀ o, z7.heap.get? b = some o → s'.heap.get? b = some o ∧ H' b = none := fun b hb o e =>
          have z := I'.pin (b, o) (List.mem_append_right _ (List.mem_append_right _ (mem_pinsAt hb e)))
          ⟨z.1, z.2.1⟩
        have hl : (L2.wipe σ (own.map (·.2))).length = σ8.length := by rw [← hw8, L2.wipe_length]
        refine ⟨m', hm, i + 1, H', (I'.unpinned (pins := [])).weak hl (fun j v e => ?_), T.keep _ _ _ tn7 fun b hb o e => (pin' b hb o e).1, fun b hb => ?_, w'⟩
        · rw [← hw8] at e
          exact (wipe_some e).1
        · obtain ⟨o, e, _⟩ := T.obj _ _ tn7 b hb
          exact (pin' b hb o e).2
      simp only [if_true]
      refine thnF (pk.run _ z9 σ8 K9 _ J9 q8) fun z z10 ⟨yk, K10, J10, r10, q10⟩ => ?_
      refine thnF (pv.run _ z10 σ8 K10 _ J10 q10) fun zz z11 ⟨yv, K11, J11, r11, pn⟩ => ?_
      exact putN_run (X := X.blk z3 K3 scope ce fp) hu J11 r10 r11 pn fun H' z12 J12 nx => fin J12 nx
  exact codeAny_compStart_dict loop (T.self X.A 0 _ _ _ tn4 loop)
variable {e a b : Expr} {es : List Expr} {σ : L2.St} {w w' : Wd} {τ τ' : Ty} {pos p : Pos} {ds : List (Option Ty)} {rest body : List Stmt} {D : Ends} {α : Type}
/-- what {k: v for ..} leaves -/
def dcs (kk : α → List NK) (dv : α → PyData) (xs : List α) : List (NK × PyData) := xs.foldl (fun a x => ptK a (.tup (kk x)) (dv x)) []
theorem dcs_snoc (kk : α → List NK) (dv : α → PyData) (xs : List α) (x : α) : dcs kk dv (xs ++ [x]) = ptK (dcs kk dv xs) (.tup (kk x)) (dv x) := by
  unfold dcs
  rw [List.foldl_append]
  rfl
theorem ptK_len {κ β : Type} [DecidableEq κ] (kvs : List (κ × β)) (k : κ) (v : β) : (ptK kvs k v).length ≤ kvs.length + 1 := by
  unfold ptK
  split
  · rw [List.length_map]
    omega
  · rw [List.length_append]
    exact Nat.le_refl _
theorem dcs_len (kk : α → List NK) (dv : α → PyData) (xs : List α) : (dcs kk dv xs).length ≤ xs.length := by
  have go : ∀ (xs : List α) (acc : List (NK × PyData)), (xs.foldl (fun a x => ptK a (.tup (kk x)) (dv x)) acc).length ≤ acc.length + xs.length := by
    intro xs
    induction xs with
    | nil => exact fun acc => Nat.le_refl _
    | cons x xs ih =>
      intro acc
      have h1 := ih (ptK acc (.tup (kk x)) (dv x))
      have h2 := ptK_len acc (.tup (kk x)) (dv x)
      rw [List.foldl_cons, List.length_cons]
      omega
  have := go xs []
  rw [List.length_nil, Nat.zero_add] at this
  exact this
/-- name = {k: v for x in xs}, the name a plain local -/
theorem w_dcM (i : Nat) {x y : Str} {tp py : Pos} {kx vx iter : Expr} {scope : Scope} {xs : List α} {κ : α → Ty} (own : List (Str × Nat)) (j : Nat) (kk : α → List NK) (dv : α → PyData) (hu : X.A.units + 64 < cLine) (hc : X.calm = true) (hN : X.N.Nodup) (S : Sl w.G σ ds) (hi : Iv X σ w (.Name x tp) iter (xs.map κ)) (hz : xs.length ≤ 1000000)
    (hdp : ∀ z ∈ xs, (NestedKey.tup (kk z)).depth ≤ 8)
    (hk : ∀ (i : Nat) y σ2 w4, xs[i]? = some y → Grow w w4 → Sl w4.G σ2 ((wipeD ds (own.map (·.2))).set j (some (κ y))) → BEv X scope σ2 w4 kx (dat X.K (NestedKey.data (.tup (kk y)))))
    (hv : ∀ (i : Nat) y σ2 w4, xs[i]? = some y → Grow w w4 → Sl w4.G σ2 ((wipeD ds (own.map (·.2))).set j (some (κ y))) → BEv X scope σ2 w4 vx (dat X.K (dv y)))
    {spos : Pos} (k : ∀ σ' w' d, Grow w w' → w.H d = none → OwnD X.prog X.w X.K w' d (dcs kk dv xs) → Sl w'.G σ' (ds.set i (some (ex (.ref d)))) → wS X rest D σ' w'.H)
    (ok : BlkOk X.N X.env.scope scope own := by first | exact blkOk_by (by decide +kernel) | exact blkOk_by (by dsimp only [cxOf, Cx.nox, Cx.wish, envOfC, Cx.blk, compEnvC]; decide +kernel)) (hb : BN X scope j x := by first | exact ⟨rfl, .inl rfl⟩ | exact ⟨rfl, .inr ⟨rfl, rfl⟩⟩) (hj : j ∈ own.map (·.2) := by decide) (hf : ∀ x, foldedSetIterable iter X.env x = pure x := by intro _; rfl)
    (hyi : X.N[i]? = some y := by rfl) (hl : X.env.scope.names.lookup y = some .local := by rfl) (hs : swapsWith (.DictComp kx vx [⟨.Name x tp, iter, [], 0⟩] scope pos) (some (.Name y py)) spos.line X.env = pure true := by rfl) :
    wS X (.Assign [.Name y py] (.DictComp kx vx [⟨.Name x tp, iter, [], 0⟩] scope pos) spos :: rest) D σ w.H := by
  refine wS_cons fun pins s I => ?_
  rw [exec_Assign_Name_used _ _ _ _ hs]
  refine wpAny_bind (wpAny_standAt (wpAny_bind ?_))
  show wpAny _ X.A (do let _ ← comprehension (.DictComp kx vx [⟨.Name x tp, iter, [], 0⟩] scope pos) scope X.env (firstIterPos [⟨.Name x tp, iter, [], 0⟩] pos) newDict false (eval iter X.env) (some (assign (.Name y py) X.env))) _ _ s
  refine wpAny_bind (thn (dcN_core (Q := fun v H' => ∃ w' d, w'.H = H' ∧ v = .ref d ∧ Grow w w' ∧ w.H d = none ∧ OwnD X.prog X.w X.K w' d (dcs kk dv xs)) (Qf := fun _ s' => SP X pins { D with nx := wS X rest D } .next s') (g := gName j) (tk := bE X scope kx) (tv := bE X scope vx) hu hc hN I uI ok (bn_pg hN hb) (fun _ _ _ _ _ => upe) (fun _ _ _ _ _ => upe) hf ?_ fun L C s' m H' I' q hn f => ?_) fun _ s' hq => wpAny_pure (wpAny_pure hq))
  · refine hi w (Grow.refl _) _ fun J w2 g2 hy d hd hsys => ?_
    let Pv : Nat → Hp → Prop := fun i H' => ∃ w', w'.H = H' ∧ Grow w2 w' ∧ OwnD X.prog X.w X.K w' d (dcs kk dv (xs.take i))
    refine ⟨fun i m H' => m = xs.length - i ∧ i ≤ xs.length ∧ Pv i H', ⟨xs.length, rfl, Nat.zero_le _, w2.lay d _ (w2.gnone hd), rfl, Grow.lay hd, [], Own.lay hd, hsys, .nil⟩, ?_⟩
    rintro i m H' ⟨em, hle, w3, eH, g3, ow⟩
    subst eH
    obtain ⟨y1, y2⟩ := hy w3 g3.g
    by_cases hlt : i < xs.length
    · obtain ⟨go, yl⟩ := y1 i (κ xs[i]) (by rw [List.getElem?_map, List.getElem?_eq_getElem hlt]; rfl)
      refine .inr ⟨go, Pv (i + 1), fun H' p => ⟨xs.length - (i + 1), by omega, rfl, by omega, p⟩, fun v H4 hyl => ?_⟩
      obtain ⟨w4, e4, g4, h4⟩ := yl v H4 hyl
      subst e4
      have ge : xs[i]? = some xs[i] := List.getElem?_eq_getElem hlt
      have gw : Grow w w4 := (g2.trans g3).trans g4
      have S4 := ((S.mono gw.g).wipe (own.map (·.2))).put h4 j
      refine ⟨by rw [wipe_set hj, wipe_wipe], (hk i _ _ w4 ge gw S4).run fun v5 w5 g5 hv5 => (hv i _ _ w5 ge (gw.trans g5) (((S.mono (gw.trans g5).g).wipe _).put ((κ xs[i]).m g5.g h4) j)).run fun v6 w6 g6 hv6 => ?_⟩
      obtain ⟨ka, eka⟩ := key_ref hv5
      subst eka
      refine ⟨w6, _, kk xs[i], dv xs[i], ka, rfl, ((ow.grow g4).grow g5).grow g6, rfl, dp_mono g6.g _ _ hv5, hdp _ (List.getElem_mem hlt), hv6, Nat.le_trans (dcs_len kk dv _) (Nat.le_trans (List.length_take_le _ _) (by omega)), fun o n ow' => ⟨w6.lay d o n, rfl, (((g3.trans g4).trans g5).trans g6).change hd, ?_⟩⟩
      rw [List.take_succ, ge]
      show OwnD _ _ _ _ _ (dcs kk dv (_ ++ [xs[i]]))
      rw [dcs_snoc]
      exact ow'
    · have e : i = xs.length := by omega
      subst e
      rw [List.length_map] at y2
      rw [List.take_length] at ow
      exact .inl ⟨y2, w3, d, rfl, rfl, g2.trans g3, g2.h.free hd, ow⟩
  · obtain ⟨w5, d, eH, ev, g5, hd, ow⟩ := q
    subst eH
    injection ev with ev
    subst ev
    show wpAny _ _ (assign (.Name y py) X.env (.ref L)) _ _ _
    refine wpAny_assign_Name (store_ok2 (v := V.ref L) I' hN hyi (.inl hl) rfl (fun s2 I2 ⟨a, sb, ha⟩ => ?_) (.inr hl))
    obtain ⟨f0, f1, f2, f3, f4, f5⟩ := f
    have haC : C ≠ a := ha.elim (fun z => z ▸ f1) fun z e => f4 y a z e.symm
    refine ⟨m, hn.sameBut sb haC, fun h3 sb3 => ⟨_, w5.H, I2.turned (t' := s2.toks) (fun b o hb e => (sb3.2 b hb).trans e) f0 f1 f3 f4 f5, ?_⟩⟩
    exact k _ w5 L g5 hd ow ((S.mono g5.g).put (τ := ex (.ref L)) rfl i)
end
end K27
/-! ## Core16 -/
/-! The calculus, sixteenth part: list(d) that may be changed; lists that are being made, walked; pairs looked for in lists. -/
namespace K27
open PySem L2 PySem.Spec PyProof.Rows
section
variable {X : Cx} {e a b : Expr} {es : List Expr} {σ : L2.St} {w w' : Wd} {τ τ' : Ty} {pos : Pos} {ds : List (Option Ty)} {rest body : List Stmt} {D : Ends} {α : Type}
/-- name = list(d): the list may be changed -/
theorem w_listD (i : Nat) {x : Str} {d : Addr} {kvs : List (NK × PyData)} {p pos' cpos : Pos} (hc : X.calm = true) (hN : X.N.Nodup) (S : Sl w.G σ ds) (hm : X.mg "list" = none) (ho : Ev X σ w e (ex (.ref d))) (ow : OwnD X.prog X.w X.K w d kvs) (hz : kvs.length ≤ 1000000)
    (k : ∀ σ' w' l vs, Grow w w' → w.H l = none → Own w' l (.lst vs) → Tys (kvs.map fun q => dat X.K q.1.data) vs w'.G → Sl w'.G σ' (ds.set i (some (ex (.ref l)))) → wS X rest D σ' w'.H)
    (hg : Gl X "list" := by rfl) (he : starEach [e] X.env = (false, eval e X.env) :: starEach [] X.env := by rfl) (hi : X.N[i]? = some x := by rfl) (hx : Loc X.env.scope x := by first | exact Or.inl rfl | exact Or.inr rfl)
    (hs : swapsWith (.Call (.Name "list" p) [e] [] cpos) (some (.Name x pos')) pos.line X.env = pure false := by rfl) (hf : X.fn x = true ∨ X.env.scope.names.lookup x = some .local := by first | exact .inl rfl | exact .inr rfl) :
    wS X (.Assign [.Name x pos'] (.Call (.Name "list" p) [e] [] cpos) pos :: rest) D σ w.H :=
  wS_cons (toS1 (ps_set hN hi hx (pe_callTy (cr_listD hc hz) hg hm (by decide +kernel) (pa_cons uE pa_nil he) (by decide) (by decide) he rfl) hs hf) (ho w (Grow.refl _) _ fun v w2 g2 ev => ⟨w2, by rw [show v = .ref d from ev], rfl, ow.grow g2, fun l vs hl ht => by
    have gl := Grow.lay (w := w2) (o := .lst vs) hl
    exact k _ (w2.lay l (.lst vs) (w2.gnone hl)) l vs (g2.trans gl) (g2.h.free hl) (Own.lay hl) ht ((S.mono g2.g).put (τ := ex (.ref l)) rfl i)⟩))
/-- a list that is being made, walked: nobody changes it meanwhile -/
theorem ivg_own {tg : Expr} {l : Addr} {vs : List V} {τs : List Ty} (ho : Ev X σ w e (ex (.ref l))) (ow : Own w l (.lst vs)) (ht : Tys τs vs w.G) : IvG X σ w tg e τs := fun w1 g R k =>
  toI (pi_list uE) (ho w1 g _ fun v w2 g2 ev => ⟨l, ev, ⟨vs, SqL.of (ow.grow (g.trans g2)).at_⟩, k _ w2 g2 fun w3 g3 => by
    have h3 : SqL X.K w3.H l vs := SqL.of (ow.grow ((g.trans g2).trans g3)).at_
    have ht3 := ht.mono ((g.trans g2).trans g3).g
    refine ⟨fun i τ hi => ?_, vs, h3, by rw [ht3.length]; exact Nat.le_refl _⟩
    obtain ⟨v, e1, e2⟩ := ht3.at hi
    refine ⟨⟨vs, v, h3, e1⟩, fun x H' ⟨eH, hx⟩ => ⟨w3, eH.symm, Grow.refl _, ?_⟩⟩
    have := hx vs h3
    rw [e1] at this
    cases this
    exact e2⟩)
theorem IvG.eq {tg iter : Expr} {τs us : List Ty} (h : IvG X σ w tg iter τs) (e : τs = us) : IvG X σ w tg iter us := e ▸ h
/-! ### pairs in lists of pairs -/
theorem prD_eqv (z w : Pr) : PyData.eqv (prD z) (prD w) = decide (z = w) := by
  obtain ⟨a, b⟩ := z
  obtain ⟨a', b'⟩ := w
  have e : PyData.eqv (prD (a, b)) (prD (a', b')) = (((a : Int) == (a' : Int)) && (((b : Int) == (b' : Int)) && true)) := by simp only [prD, PyData.eqv, PyData.eqvAll]
  rw [e]
  by_cases h1 : a = a'
  · by_cases h2 : b = b'
    · rw [h1, h2]
      simp
    · have q : ((b : Int) == (b' : Int)) = false := beq_eq_false_iff_ne.mpr (by omega)
      rw [q, Bool.false_and, Bool.and_false]
      exact (decide_eq_false fun z => h2 (congrArg Prod.snd z)).symm
  · have q : ((a : Int) == (a' : Int)) = false := beq_eq_false_iff_ne.mpr (by omega)
    rw [q, Bool.false_and]
    exact (decide_eq_false fun z => h1 (congrArg Prod.fst z)).symm
theorem prD_shaped (z : Pr) : SeqAt.shaped (prD z) = true := by
  show ((prD z).canLay0 && decide ((prD z).depth ≤ 64)) = true
  simp [prD, PyData.canLay0, PyData.canLayAll0, PyData.depth, PyData.depthAll]
theorem prDs_lay : ∀ zs : List Pr, PyData.canLayAll0 (zs.map prD) = true
  | [] => by simp [PyData.canLayAll0]
  | z :: zs => by
    have h : (prD z).canLay0 = true := by simp [prD, PyData.canLay0, PyData.canLayAll0]
    rw [List.map_cons]
    simp [PyData.canLayAll0, h, prDs_lay zs]
theorem prDs_shaped (zs : List Pr) : SeqAt.shaped (.list (zs.map prD)) = true := by
  have h1 := prs_depth zs
  have h2 : PyData.depth (.list (zs.map prD)) ≤ 64 := by
    simp only [PyData.depth]
    omega
  show (PyData.canLay0 (.list (zs.map prD)) && decide (PyData.depth (.list (zs.map prD)) ≤ 64)) = true
  rw [Bool.and_eq_true]
  exact ⟨by simp only [PyData.canLay0]; exact prDs_lay zs, decide_eq_true h2⟩
theorem prs_any (zs : List Pr) (x : Pr) : ((zs.map prD).any fun z => PyData.eqv z (prD x)) = decide (x ∈ zs) := by
  rw [List.any_map, Bool.eq_iff_iff, List.any_eq_true, decide_eq_true_eq]
  constructor
  · rintro ⟨z, hz, h⟩
    have h : PyData.eqv (prD z) (prD x) = true := h
    rw [prD_eqv, decide_eq_true_eq] at h
    rw [← h]
    exact hz
  · intro h
    exact ⟨x, h, by show PyData.eqv (prD x) (prD x) = true; rw [prD_eqv]; exact decide_eq_true rfl⟩
/-- x in xs, pairs -/
theorem t_inP {x : Pr} {zs : List Pr} (hu : X.A.units + 65 < cLine) (ha : Dv X σ w a (prD x)) (hb : Dv X σ w b (.list (zs.map prD))) (hm : behindInMarks .In b = false := by rfl) : Tv X σ w (.Compare a [.In] [b] pos) (decide (x ∈ zs)) :=
  tv_cmp (op_inD hu) ha hb hm fun u v w3 Q _ hx hy q => ⟨prD x, zs.map prD, dp_mono w3.sub _ _ hx, dp_mono w3.sub _ _ hy, prD_shaped x, prDs_shaped zs, by
    rw [prs_any]
    exact q w3 (Grow.refl _)⟩
/-- if c: name = e -/
theorem w_ifset {c : Expr} {b : Bool} {τ0 τ1 τ2 : Ty} (i : Nat) {x : Str} {apos pos' : Pos} (hN : X.N.Nodup) (S : Sl w.G σ ds) (hd : ds[i]? = some (some τ0)) (hc : Tv X σ w c b) (he : b = true → ∀ w', Grow w w' → Ev X σ w' e τ1) (h1 : b = true → τ1 = τ2) (h0 : b = false → τ0 = τ2)
    (k : ∀ σ' w', Grow w w' → Sl w'.G σ' (ds.set i (some τ2)) → wS X rest D σ' w'.H) (hi : X.N[i]? = some x := by rfl) (hx : Loc X.env.scope x := by first | exact Or.inl rfl | exact Or.inr rfl)
    (hs : swapsWith e (some (.Name x pos')) apos.line X.env = pure false := by rfl) (hf : X.fn x = true ∨ X.env.scope.names.lookup x = some .local := by first | exact .inl rfl | exact .inr rfl) :
    wS X (.If c [.Assign [.Name x pos'] e apos] [] pos :: rest) D σ w.H := by
  refine w_if hc (fun hb w1 g1 => ?_) (fun hb w1 g1 => wS_nil ?_)
  · refine w_set i hN (S.mono g1.g) (he hb w1 g1) (fun σ2 w2 g2 S2 => wS_nil ?_) hi hx hs hf
    rw [h1 hb] at S2
    exact k σ2 w2 (g1.trans g2) S2
  · refine k σ w1 g1 ?_
    rw [← h0 hb]
    obtain ⟨v, e1, e2⟩ := (S.mono g1.g).get hd
    exact Sl.retype (τ := τ0) i (S.mono g1.g) ⟨v, e1, e2⟩
end
theorem room65 {k : Nat} {A : Around} (r : Room k A) : A.units + 65 < cLine := by
  have := r.un
  omega
end K27
/-! ## Core17 -/
/-! The calculus, seventeenth part: items of what is one of some kinds; t + u, both perhaps empty. -/
namespace K27
open PySem L2 PySem.Spec PyProof.Rows
section
variable {X : Cx} {e a b : Expr} {es : List Expr} {σ : L2.St} {w w' : Wd} {τ τ' : Ty} {pos : Pos} {ds : List (Option Ty)} {rest body : List Stmt} {D : Ends}
theorem ixSm {ι : Type} {Pp : ι → Prop} {κ : ι → List Ty} {τ : ι → Ty} {i : Int} (ha : Ev X σ w a (some_ Pp fun z => tupT X.K (κ z))) (hb : Dv X σ w b (.int i)) (hi : ∀ z, Pp z → atI (κ z) i = some (τ z)) (hs : PlainIx b := by intro _ _; rfl) : Ev X σ w (.Subscript a b pos) (some_ Pp τ) := fun w1 g Q k =>
  toE (pe_ix ix_tup uE uE hs) (ha w1 g _ fun x w2 g2 ⟨z, hz, p, vs, ex, h1, h2⟩ => hb w2 (g.trans g2) _ fun y w3 g3 hy => by
    obtain ⟨v, h3, h4⟩ := atI_tys (h2.mono g3.g) (hi z hz)
    exact ⟨p, vs, i, v, ex, Dp.int_iff hy, sm_seqT (g3.g.trans w3.sub) h1, h3, k v w3 (g2.trans g3) ⟨z, hz, h4⟩⟩)
theorem catA {τs us : List Ty} (ha : Ev X σ w a (tupT X.K τs)) (hb : Ev X σ w b (tupT X.K us)) (hz : τs.length + us.length ≤ 1000000) : Ev X σ w (.BinOp a .Add b pos) (tupT X.K (τs ++ us)) :=
  ev_op op_catA ha hb fun x y w3 Q _ ⟨p, vs, ex, hs, ht⟩ ⟨p2, vs2, ey, hs2, ht2⟩ q => by
    refine ⟨p, p2, vs, vs2, ex, ey, sm_seqT w3.sub hs, sm_seqT w3.sub hs2, ?_, fun z => ?_, fun _ z => ?_, fun _ _ l hl => ?_⟩
    · rw [ht.length, ht2.length]
      exact Nat.le_trans hz (by decide)
    · subst z
      cases ht
      exact q _ w3 (Grow.refl _) ⟨p2, vs2, rfl, hs2, ht2⟩
    · subst z
      cases ht2
      rw [List.append_nil] at q
      exact q _ w3 (Grow.refl _) ⟨p, vs, rfl, hs, ht⟩
    · exact q _ (w3.new l _) (Grow.new hl) ⟨l, _, rfl, SqT.of Wd.new_at, (ht.append ht2).mono (Grow.new hl).g⟩
theorem catD {xs ys : List PyData} (ha : Dv X σ w a (.tuple xs)) (hb : Dv X σ w b (.tuple ys)) (hz : xs.length + ys.length ≤ 1000000) : Dv X σ w (.BinOp a .Add b pos) (.tuple (xs ++ ys)) :=
  ofT (eqTu (by rw [List.map_append]) (catA (asT ha) (asT hb) (by rw [List.length_map, List.length_map]; exact hz)))
end
end K27
/-! ## Core18 -/
/-! The calculus, eighteenth part: repr of data; defs that ask it: the guards around are known. -/
namespace K27
open PySem L2 PySem.Spec PyProof.Rows
/-- what may be shown -/
structure Shw (d : PyData) : Prop where
  ok : d.showable = true
  nd : d.hasDict = false
  dp : d.depth ≤ 60
  sz : d.shown.length ≤ sizeLine
section
variable {X : Cx} {e a b : Expr} {es : List Expr} {σ : L2.St} {w w' : Wd} {τ τ' : Ty} {pos p : Pos} {ds : List (Option Ty)} {rest body : List Stmt} {D : Ends}
theorem cr_repr (hgd : X.A.guards = some []) (hu : X.A.units + 64 < cLine) : CallR X (.builtin "repr") (fun xs H Q => ∃ x d, xs = [x] ∧ Dp X.K H x d ∧ Shw d ∧ Q (.str d.shown) H) := by
  intro pins s σ H xs us Q I r ⟨x, d, ex, hd, sh, q⟩
  subst ex
  obtain ⟨u, rfl, ru⟩ := r.one
  obtain ⟨as, rd⟩ := Dp.reads I d x u hd ru
  have hd60 := sh.dp
  have scal : ∀ {tk : Nat} {t : Tok}, EP X pins σ Q (.str d.shown t) { s with toks := tk } := fun {tk t} => ⟨.str d.shown, H, I.tok _, ⟨_, rfl⟩, q⟩
  cases rd with
  | none => exact PySem.P.repr_of_none scal
  | bool b => exact PySem.P.repr_of_bool scal
  | int i t => exact PySem.P.repr_of_int (by simpa [PyData.showable] using sh.ok) scal
  | str x t => exact PySem.P.repr_of_str scal sh.sz
  | list h1 h2 h3 h4 => exact repr_of_reads' (.list h1 h2 h3 h4) sh.ok (PyData.noDict_hsm sh.nd) hgd (by omega) (fun _ _ e => e) (fun h' u tk hk => ⟨.str _, H, I.kept hk, ⟨_, rfl⟩, q⟩) sh.sz
  | tuple h1 h2 h3 h4 => exact repr_of_reads' (.tuple h1 h2 h3 h4) sh.ok (PyData.noDict_hsm sh.nd) hgd (by omega) (fun _ _ e => e) (fun h' u tk hk => ⟨.str _, H, I.kept hk, ⟨_, rfl⟩, q⟩) sh.sz
  | dict h1 h2 h3 h4 h5 => exact absurd sh.nd (by simp [PyData.hasDict])
theorem repr_ {d : PyData} (hgd : X.A.guards = some []) (hu : X.A.units + 64 < cLine) (hm : X.mg "repr" = none) (ha : Dv X σ w e d) (sh : Shw d) (hg : Gl X "repr" := by rfl) (he : starEach [e] X.env = (false, eval e X.env) :: starEach [] X.env := by rfl) : Dv X σ w (.Call (.Name "repr" p) [e] [] pos) (.str d.shown) :=
  bi1 (cr_repr hgd hu) hm (by decide +kernel) ha (fun v w2 Q g hv k => ⟨v, d, rfl, dp_mono w2.sub _ _ hv, sh, k _ w2 (Grow.refl _) (.str _)⟩) hg (by decide) (by decide) he
end
/-! ### defs called where no repr is under way -/
structure FnG (P : Program) (w : World) (K : PySem.W.Frag) (mg : Str → Option Value) (base : Heap) (k : Nat) (f : Addr) (fd : FuncData) (ps : List Str) (sp : Sp) : Prop where
  len : ∀ vs H Q E, sp vs H Q E → vs.length = ps.length
  run : ∀ (A : Around) (outer : List Env) (s : Shared) (H : Hp) (args : Args) (us : List Value) (vs : List V) (Q : VK) (E : XK), Room k A → A.guards = some [] → Env0 P w K mg base A outer s H → BindsTo s fd args (ps.zip us) → Vals vs us → sp vs H Q E →
    codeAny (model P w) A (.call (.ref f) args) (CR CX0 outer P w H s Q E) s
structure GCal (P : Program) (w : World) (K : PySem.W.Frag) (mg : Str → Option Value) (base : Heap) (k : Nat) (x : Str) (ps : List Str) (sp : Sp) : Prop where
  ex : ∃ f fd, FnG P w K mg base k f fd ps sp ∧ mg x = some (.ref f) ∧ PySem.W.keepIn K (.ref f) = true ∧ Binds K fd ps []
/-- a def whose promise is told of its state -/
theorem gdef_any {P : Program} {w : World} {K : PySem.W.Frag} {mg : Str → Option Value} {base : Heap} {k : Nat} {x : Str} {st : Stmt} {N ps : List Str} {sp : Sp} (D : DefAt K mg x st ps) (S : FnScope N ps (defScope st)) (len : ∀ vs H Q E, sp vs H Q E → vs.length = ps.length)
    (h : ∀ (f : Addr) (cdv : Value) (A : Around) (outer : List Env) (s : Shared) (H : Hp) (vs : List V) (Q : VK) (E : XK), Room k (A.deeper (envOfC x (defScope st) s.heap.objs.size f cdv)) → A.guards = some [] → sp vs H Q E →
      wS (BX P w K mg base N x st f cdv A outer s H E) (defBody st) { nx := fun _ H' => Q .non H', rt := Q } (L2.start N vs) H) :
    GCal P w K mg base (k + 1) x ps sp := by
  obtain ⟨f, fd, F, hm, hb⟩ := D.ex
  refine ⟨f, fd, ⟨len, fun A outer s H args us vs Q E hr hgd e0 hbd r hsp => ?_⟩, hm, F.kp, hb⟩
  obtain ⟨oc, od, kV, doc, pm, an, cdv, ct, osl, rfl, lk, hcd⟩ := F.ex
  exact LamX.run_ofS lk hcd S hr e0 hbd r (len vs H Q E hsp) fun hr' => ⟨_, (uS (st := defBody st)).nox, h f cdv A outer s H vs Q E hr' hgd hsp⟩
theorem gdef_ok {P : Program} {w : World} {K : PySem.W.Frag} {mg : Str → Option Value} {base : Heap} {k : Nat} {x : Str} {st : Stmt} {N ps : List Str} {ι : Type} {pre : ι → Prop} {as : ι → List Ty} {r : ι → Ty}
    (D : DefAt K mg x st ps) (S : FnScope N ps (defScope st)) (len : ∀ i, (as i).length = ps.length)
    (h : ∀ (f : Addr) (cdv : Value) (A : Around) (outer : List Env) (s : Shared) (H : Hp) (E : XK) (i : ι) (w0 : Wd) (Q : VK) (σ : L2.St), Room k (A.deeper (envOfC x (defScope st) s.heap.objs.size f cdv)) → A.guards = some [] → pre i →
      Sl w0.G σ ((as i).map some ++ List.replicate (N.length - ps.length) none) → (∀ v w', Grow w0 w' → (r i).p v w'.G → Q v w'.H) →
      wS (BX P w K mg base N x st f cdv A outer s H E) (defBody st) { nx := fun _ H' => Q .non H', rt := Q } σ w0.H) :
    GCal P w K mg base (k + 1) x ps (spOf pre as r) :=
  gdef_any D S (spOf_len len) fun f cdv A outer s H vs Q E hr hgd ⟨i, w0, eH, hp, ht, q⟩ => by
    subst eH
    have hl : vs.length = ps.length := by rw [ht.length, len i]
    have S0 := Sl.start (N := N) ht
    rw [hl] at S0
    exact h f cdv A outer s w0.H E i w0 Q _ hr hgd hp S0 q
section
variable {P : Program} {W : World} {K : PySem.W.Frag} {mg : Str → Option Value} {base : Heap} {X : Cx} {σ : L2.St} {w : Wd} {e : Expr} {es : List Expr} {pos p : Pos} {k : Nat} {f : Addr} {fd : FuncData} {ps : List Str} {sp : Sp} {x : Str} {t : TA}
theorem pe_callG (F : FnG X.prog X.w X.K X.mg X.base k f fd ps sp) (hr : Room k X.A) (hgd : X.A.guards = some []) (hg : Gl X x) (hm : X.mg x = some (.ref f)) (hk : PySem.W.keepIn X.K (.ref f) = true) (hb : Binds X.K fd ps [])
    (ha : PA X (e :: es) t) (hdb : (x == ("__debug__" : Str)) = false := by decide) (he : starEach (e :: es) X.env = (false, eval e X.env) :: starEach es X.env := by rfl) (hpl : (backTo pos (starEach es X.env)).any (·.1) = false := by rfl) :
    PE X (.Call (.Name x p) (e :: es) [] pos) (fun σ H Q => t σ H fun vs H1 => sp vs H1 Q fun _ _ _ => False) := by
  refine ⟨fun pins s σ H Q I h => wpAny_Call_Name_kw (ld_glob I hg hm ?_ hdb)⟩
  refine PySem.W.callWith_K (h₀ := X.base) I.ok.mod.kin hk (thn (ha.run pos pins s σ H _ I h) fun us s1 ⟨vs, H1, I1, r, q⟩ => ⟨I1.kIn, ?_⟩) he hpl
  have hl : us.length = ps.length := r.length.symm.trans (F.len _ _ _ _ q)
  have hb' := hb s1 us I1.kIn (by rw [List.append_nil]; exact hl)
  rw [List.append_nil] at hb'
  refine wpAny_call (codeAny_mono (F.run X.A X.stack s1 H1 ⟨us, []⟩ us vs Q _ hr hgd I1.env0 hb' r q) fun o s' hq => ?_)
  match o, hq with
  | .error _, hq => exact (show False from hq).elim
  | .ok (.ret u), hq => exact I1.after hq
  | .ok .next, hq => exact (show False from hq).elim
  | .ok .brk, hq => exact (show False from hq).elim
  | .ok .cont, hq => exact (show False from hq).elim
theorem call_g {ι : Type} {pre : ι → Prop} {as : ι → List Ty} {r : ι → Ty} (c : GCal P W K mg base k x ps (spOf pre as r)) (hr : Room k X.A) (hgd : X.A.guards = some []) (i : ι) (hp : pre i) (ha : Av X σ w (e :: es) (as i))
    (h1 : X.prog = P := by rfl) (h2 : X.w = W := by rfl) (h3 : X.K = K := by rfl) (h4 : X.mg = mg := by rfl) (h5 : X.base = base := by rfl)
    (hg : Gl X x := by rfl) (hdb : (x == ("__debug__" : Str)) = false := by decide) (he : starEach (e :: es) X.env = (false, eval e X.env) :: starEach es X.env := by rfl) (hpl : (backTo pos (starEach es X.env)).any (·.1) = false := by rfl) :
    Ev X σ w (.Call (.Name x p) (e :: es) [] pos) (r i) := by
  subst h1 h2 h3 h4 h5
  obtain ⟨f, fd, F, hm, hk, hb⟩ := c.ex
  exact fun w1 g Q q => toE (pe_callG F hr hgd hg hm hk hb uA hdb he hpl) (ha w1 g _ fun vs w2 g2 hvs => ⟨i, w2, rfl, hp, hvs, fun v w' g' hv => q v w' (g2.trans g') hv⟩)
end
end K27
/-! ## Defs9 -/
/-! A log told back; papers that a number is not enough. -/
namespace K27
open PySem L2 PySem.Spec PyProof.Rows
/-- what a layer's dict holds: all images so far, each with a pair of the layer -/
structure Ah (l S : List Pr) (kvs : List (NK × PyData)) : Prop where
  has : ∀ y ∈ S, (gt? kvs (prK y)).isSome = true
  val : ∀ y v, gt? kvs (prK y) = some v → ∃ x ∈ l, ∃ d : Nat, v = .tuple [prD x, .int (d : Nat)]
  len : kvs.length ≤ S.length
theorem Ah.nil (l : List Pr) : Ah l [] [] := ⟨fun y hy => (nomatch hy), fun y v h => (nomatch (show (none : Option PyData) = some v from h)), Nat.le_refl _⟩
theorem Ah.old {l S : List Pr} {kvs : List (NK × PyData)} {y : Pr} (h : Ah l S kvs) (hy : (gt? kvs (prK y)).isSome = true) : Ah l (S ++ [y]) kvs := by
  refine ⟨fun z hz => ?_, h.val, ?_⟩
  · rcases List.mem_append.mp hz with q | q
    · exact h.has z q
    · rw [show z = y by simpa using q]
      exact hy
  · rw [List.length_append]
    exact Nat.le_trans h.len (Nat.le_add_right _ _)
theorem Ah.new {l S : List Pr} {kvs : List (NK × PyData)} {y x : Pr} {d : Nat} (h : Ah l S kvs) (hy : gt? kvs (prK y) = none) (hx : x ∈ l) : Ah l (S ++ [y]) (kvs ++ [(prK y, .tuple [prD x, .int (d : Nat)])]) := by
  refine ⟨fun z hz => ?_, fun z v hz => ?_, ?_⟩
  · rw [gt_append, gt_cons]
    rcases List.mem_append.mp hz with q | q
    · have := h.has z q
      cases e : gt? kvs (prK z) with
      | none =>
        rw [e] at this
        cases this
      | some v => rfl
    · rw [show z = y by simpa using q, hy, if_pos rfl]
      rfl
  · rw [gt_append, gt_cons] at hz
    cases e : gt? kvs (prK z) with
    | some u =>
      rw [e] at hz
      have hz : some u = some v := hz
      cases hz
      exact h.val z _ e
    | none =>
      rw [e] at hz
      by_cases q : prK y = prK z
      · rw [if_pos q] at hz
        have hz : some (PyData.tuple [prD x, .int (d : Nat)]) = some v := hz
        cases hz
        exact ⟨x, hx, d, rfl⟩
      · rw [if_neg q] at hz
        have hz : (none : Option PyData) = some v := hz
        cases hz
  · rw [List.length_append, List.length_append]
    have := h.len
    simp
    omega
theorem lay_imgs {T : Tb} {n p k : Nat} {y : Pr} (h : y ∈ lay T n p (k + 1)) : y ∈ imgs T (lay T n p k) := of_decide_eq_true (List.mem_filter.mp (show y ∈ canon (imgs T (lay T n p k)) from h)).2
section
variable {P : Program} {w : World} {K : PySem.W.Frag} {mg : Str → Option Value} {base : Heap}
abbrev lbR (K : PySem.W.Frag) : Ty := some_ (fun _ : Nat × List Nat => True) fun z => tupT K [dat K (.int (z.1 : Nat)), dat K (.tuple (natsD z.2))]
abbrev CBack (P : Program) (w : World) (K : PySem.W.Frag) (mg : Str → Option Value) (base : Heap) (M C : Addr) : Prop := Cal P w K mg base 3 "log_back" p_logback (spOf (fun i : WArg × Nat => i.1.Ok ∧ pB i.1 i.2 = true ∧ i.2 ≤ 900000) (fun i => [mchT K M i.1.T i.1.n, walkT K C i.1, dat K (.int (i.2 : Nat))]) (fun _ => lbR K))
theorem c_back {M C : Addr} (D : DefAt K mg "log_back" slog_back p_logback) (B : Bu mg) (KM : Kls K M mFn) (KC : Kls K C wFn) (CE : CEnds P w K mg base C) (CA : CAt P w K mg base C) : CBack P w K mg base M C :=
  def_ok (N := n_logback) D sc_logback (fun _ => rfl) fun f cdv A outer s H E i w0 Q σ hr hp S q => by
    obtain ⟨d, L⟩ := i
    obtain ⟨hd, hpb, hL⟩ := hp
    have hd : d.Ok := hd
    have hpb : pB d L = true := hpb
    have hL : L ≤ 900000 := hL
    have hM := hd.m
    have d3 := hM.d3
    have hu : (A.deeper (envOfC "log_back" (defScope slog_back) s.heap.objs.size f cdv)).units + 64 < cLine := hr.units
    obtain ⟨y0, r0, e0⟩ : ∃ y r, endsL (d.lay L) d.p = y :: r := by
      unfold pB at hpb
      cases q : endsL (d.lay L) d.p with
      | nil =>
        rw [q] at hpb
        cases hpb
      | cons a b => exact ⟨a, b, rfl⟩
    have hy0 : y0 ∈ d.lay L := by
      have : y0 ∈ endsL (d.lay L) d.p := by rw [e0]; simp
      exact (List.mem_filter.mp this).1
    show wS _ (_ :: _) _ _ _
    refine w_set (τ := dat K (prD y0)) 3 sc_logback.nd S (ixLD (meth_c CE KC.cls (hr.mono (by decide)) (d, L) hd (nm 1 S) rfl (ac (nm 2 S) a0) rfl) ci (atI_nat (i := 0) (by
      show ((endsL (d.lay L) d.p).map prD)[0]? = _
      rw [e0]
      rfl))) fun σ1 w1 g1 S1 => ?_
    refine w_newlist 4 (τs := []) sc_logback.nd S1 a0 (by decide) fun σ2 w2 l vs2 g2 hl0 ol2 ht2 S2 => ?_
    have hl00 : w0.H l = none := g1.h.free hl0
    have rg : RgC ((L : Int) - 1) (-1) (-1) L := by
      have q := RgC.neg (i := (L : Int) - 1) (j := -1) (by omega) (by omega) (by omega) (by omega)
      have e : ((L : Int) - 1 - -1).toNat = L := by omega
      rw [e] at q
      exact q
    refine w_for (D := { nx := fun _ H' => Q .non H', rt := Q }) 5 rfl PassesOwn.never sc_logback.nd (iv_rng3 B.range_ (sub (nm 2 S2) ci) (neg_ ci) (neg_ ci) rg)
      (fun i σ w' => Grow w0 w' ∧ ∃ (y : Pr) (us : List Nat), y ∈ d.lay (L - i) ∧ us.length = i ∧ Sl w'.G σ [some (mchT K M d.T d.n), some (walkT K C d), some (dat K (.int (L : Nat))), some (dat K (prD y)), some (ex (.ref l)), none, none, none, none, none, none] ∧ ∃ vs, Own w' l (.lst vs) ∧ Tys (us.map fun (u : Nat) => dat K (.int u)) vs w'.G)
      (fun w' g => ⟨(g1.trans g2).trans g, y0, [], hy0, rfl, S2.mono g.g, vs2, ol2.grow g, ht2.mono g.g⟩) (fun i τ σ' w3 w4 v hτ hI g4 hv => ?_) (fun σ' w' hI => ?_)
    · obtain ⟨gI, y, us, hy, hus, SI, vs, olI, htI⟩ := hI
      obtain ⟨hi, eτ⟩ := rngT_at hτ
      rw [eτ] at hv
      have ek : (L : Int) - 1 + (i : Nat) * (-1) = ((L - i - 1 : Nat) : Int) := by omega
      rw [ek] at hv
      have S4 := (SI.mono g4.g).put hv 5
      have G4 := gI.trans g4
      have ol4 := olI.grow g4
      have ht4 := htI.mono g4.g
      refine w_newdict 6 sc_logback.nd S4 fun σ5 w5 a g5 ha ow5 S5 => ?_
      have ha0 : w0.H a = none := G4.h.free ha
      have G5 := G4.trans g5
      have ol5 := ol4.grow g5
      have ht5 := ht4.mono g5.g
      have nla : l ≠ a := fun z => by
        subst z
        have := ol4.at_
        rw [ha] at this
        cases this
      refine w_for2M (D := { nx := Nxt _ w4 (i + 1), rt := Q, ct := Nxt _ w4 (i + 1), bk := wS _ _ _ }) (xs := d.lay (L - i - 1)) (κ1 := fun x => dat K (.int (x.1 : Nat))) (κ2 := fun x => dat K (.int (x.2 : Nat))) 7 8 rfl PassesOwn.never sc_logback.nd (iv_tup (prs_ev (meth_c CA KC.cls (hr.mono (by decide)) (d, L - i - 1) hd (nm 1 S5) rfl (ac (nm 5 S5) a0) rfl)))
        (fun j σ w' => Same w4.G w'.G ∧ Grow w0 w' ∧ Sl w'.G σ [some (mchT K M d.T d.n), some (walkT K C d), some (dat K (.int (L : Nat))), some (dat K (prD y)), some (ex (.ref l)), some (dat K (.int (L - i - 1 : Nat))), some (ex (.ref a)), none, none, none, none] ∧ (Own w' l (.lst vs) ∧ Tys (us.map fun (u : Nat) => dat K (.int u)) vs w'.G) ∧ ∃ kvs, OwnD P w K w' a kvs ∧ Ah (d.lay (L - i - 1)) (imgs d.T ((d.lay (L - i - 1)).take j)) kvs)
        (fun w' g => ⟨g5.g.trans g.g, G5.trans g, S5.mono g.g, ⟨ol5.grow g, ht5.mono g.g⟩, [], ow5.grow g, Ah.nil _⟩) (fun j x σ' w6 w7 v1 v2 hx hJ g7 h1 h2 => ?_) (fun σ' w' hJ => ?_)
      · obtain ⟨sJ, gJ, SJ, ⟨olJ, htJ⟩, kvs, owJ, ahJ⟩ := hJ
        have S7 := ((SJ.mono g7.g).put h1 7).put h2 8
        have hxi : InP d.n x := lay_lt hM hd.p (List.mem_of_getElem? hx)
        have hxm : x ∈ d.lay (L - i - 1) := List.mem_of_getElem? hx
        refine w_for2 (D := { nx := Nxt _ w7 (j + 1), rt := Q, ct := Nxt _ w7 (j + 1), bk := wS _ _ _ }) 9 10 rfl PassesOwn.never sc_logback.nd (iv_enumT B.enumerate_ (asT (fld_c (nm 0 S7) KM (by simp) rfl)))
          (fun m σ w' => Same w7.G w'.G ∧ Grow w0 w' ∧ Sl w'.G σ [some (mchT K M d.T d.n), some (walkT K C d), some (dat K (.int (L : Nat))), some (dat K (prD y)), some (ex (.ref l)), some (dat K (.int (L - i - 1 : Nat))), some (ex (.ref a)), some (dat K (.int (x.1 : Nat))), some (dat K (.int (x.2 : Nat))), none, none] ∧ (Own w' l (.lst vs) ∧ Tys (us.map fun (u : Nat) => dat K (.int u)) vs w'.G) ∧ ∃ kvs, OwnD P w K w' a kvs ∧ Ah (d.lay (L - i - 1)) (imgs d.T ((d.lay (L - i - 1)).take j) ++ (d.T.take m).map fun t => (t.getD x.1 0, t.getD x.2 0)) kvs)
          (fun w' g => ⟨g.g, (gJ.trans g7).trans g, S7.mono g.g, ⟨(olJ.grow g7).grow g, (htJ.mono g7.g).mono g.g⟩, kvs, (owJ.grow g7).grow g, by
            rw [List.take_zero, List.map_nil, List.append_nil]
            exact ahJ⟩) (fun m τ σ' w8 w9 hτ hM2 g9 => ?_) (fun σ' w' hM2 => ?_)
        · obtain ⟨sM, gM, SM, ⟨olM, htM⟩, kvs2, owM, ahM⟩ := hM2
          rw [List.getElem?_mapIdx, List.getElem?_map, List.getElem?_map] at hτ
          cases q3 : d.T[m]? with
          | none =>
            rw [q3] at hτ
            cases hτ
          | some t =>
            rw [q3] at hτ
            have e4 : τ = tupT K [dat K (.int (m : Nat)), dat K (rowD t)] := (Option.some.inj hτ).symm
            refine ⟨_, _, e4, fun u1 u2 k1 k2 => ?_⟩
            have S9 := ((SM.mono g9.g).put k1 9).put k2 10
            have htm : t ∈ d.T := List.mem_of_getElem? q3
            have ltn := hM.len t htm
            have etk : (d.T.take (m + 1)).map (fun t => (t.getD x.1 0, t.getD x.2 0)) = (d.T.take m).map (fun t => (t.getD x.1 0, t.getD x.2 0)) ++ [(t.getD x.1 0, t.getD x.2 0)] := by
              rw [List.take_succ, q3, List.map_append]
              rfl
            have hz : kvs2.length ≤ 1000000 := by
              have q1 := ahM.len
              rw [List.length_append, imgs_len, List.length_map, List.length_take, List.length_take] at q1
              have q2 : (d.lay (L - i - 1)).length ≤ 16 := lay_len hM d.p (L - i - 1)
              have q4 : min j (d.lay (L - i - 1)).length * d.T.length ≤ 16 * 3 := Nat.mul_le_mul (by omega) d3
              omega
            have G9 := gM.trans g9
            refine w_setdef (ks := prN (t.getD x.1 0, t.getD x.2 0)) (dv := .tuple [prD x, .int (m : Nat)]) hu (nm 6 S9) (eqE (prK_data (t.getD x.1 0, t.getD x.2 0)).symm (tupD (ds := [.int (t.getD x.1 0 : Nat), .int (t.getD x.2 0 : Nat)]) (ac (ixTD (nm 10 S9) (nm 7 S9) (row_at (row_get ltn hxi.1))) (ac (ixTD (nm 10 S9) (nm 8 S9) (row_at (row_get ltn hxi.2))) a0)))) (prK_depth _)
              (tupD (ds := [prD x, .int (m : Nat)]) (ac (tupD (ds := [.int (x.1 : Nat), .int (x.2 : Nat)]) (ac (nm 7 S9) (ac (nm 8 S9) a0))) (ac (nm 9 S9) a0))) (owM.grow g9) hz (fun hk w10 g10 => wS_nil ?_) (fun hk w10 g10 o n ow10 => wS_nil ?_)
            · refine ⟨w10, rfl, g10.g, (sM.trans g9.g).trans g10.g, G9.trans g10, ((S9.mono g10.g).forget 9).forget 10, ⟨(olM.grow g9).grow g10, (htM.mono g9.g).mono g10.g⟩, kvs2, (owM.grow g9).grow g10, ?_⟩
              rw [etk, ← List.append_assoc]
              exact ahM.old hk
            · refine ⟨w10.lay a o n, rfl, g10.g, (sM.trans g9.g).trans g10.g, (G9.trans g10).change ha0, ((S9.mono g10.g).forget 9).forget 10, ⟨((olM.grow g9).grow g10).other nla, (htM.mono g9.g).mono g10.g⟩, _, ow10, ?_⟩
              rw [etk, ← List.append_assoc]
              exact ahM.new hk hxm
        · obtain ⟨sM, gM, SM, ⟨olM, htM⟩, kvs2, owM, ahM⟩ := hM2
          refine wS_nil ⟨w', rfl, sM, (sJ.trans g7.g).trans sM, gM, (SM.forget 7).forget 8, ⟨olM, htM⟩, kvs2, owM, ?_⟩
          rw [List.length_mapIdx, List.length_map, List.length_map, List.take_length] at ahM
          rw [List.take_succ, hx]
          show Ah _ (imgs d.T (_ ++ [x])) kvs2
          rw [imgs_snoc]
          exact ahM
      · obtain ⟨sJ, gJ, SJ, ⟨olJ, htJ⟩, kvs, owJ, ahJ⟩ := hJ
        rw [List.take_length] at ahJ
        have eL : L - i = (L - i - 1) + 1 := by omega
        have hyi : y ∈ imgs d.T (d.lay (L - i - 1)) := by
          rw [eL] at hy
          exact lay_imgs hy
        obtain ⟨v, hv⟩ := Option.isSome_iff_exists.mp (ahJ.has y hyi)
        obtain ⟨x, hx, u, ev⟩ := ahJ.val y v hv
        subst ev
        refine w_unp2 (τ1 := dat K (prD x)) (τ2 := dat K (.int (u : Nat))) 3 9 rfl sc_logback.nd SJ (asT (dget (ks := prN y) hu (nm 6 SJ) owJ (eqE (prK_data y).symm (nm 3 SJ)) (prK_depth y) hv)) fun σ8 w8 g8 S8 => ?_
        have ol8 := olJ.grow g8
        have lv : vs.length = us.length := by rw [htJ.length, List.length_map]
        refine w_app (τ := dat K (.int (u : Nat))) (nm 4 S8) ol8 (nm 9 S8) (by omega) fun v9 w9 g9 hv9 ol9 => wS_nil ?_
        refine ⟨w9.lay l (.lst (vs ++ [v9])) ol9.free, rfl, (sJ.trans g8.g).trans g9.g, ((gJ.trans g8).trans g9).change hl00, x, us ++ [u], ?_, ?_, (((S8.mono g9.g).forget 5).forget 6).forget 9, vs ++ [v9], Own.self, ?_⟩
        · have : L - (i + 1) = L - i - 1 := by omega
          rw [this]
          exact hx
        · rw [List.length_append, hus]
          rfl
        · rw [List.map_append]
          exact (htJ.mono (g8.g.trans g9.g)).append (.cons hv9 .nil)
    · obtain ⟨gI, y, us, hy, hus, SI, vs, olI, htI⟩ := hI
      refine w_ret (τ := tupT K [dat K (.int (y.2 : Nat)), dat K (.tuple (natsD us.reverse))]) (tup_ (ac (ixTD (nm 3 SI) ci (pr_at1 y)) (ac (ofT (eqTu ?_ (revO rfl B.tuple_ B.reversed_ (nm 4 SI) olI htI))) a0))) fun v w2 g2 hv => q v w2 (gI.trans g2) ⟨(y.2, us.reverse), True.intro, hv⟩
      unfold natsD
      rw [← List.map_reverse, List.map_map]
      rfl
end
end K27
/-! ## Core19 -/
/-! The calculus, nineteenth part: ints that are not known, the box that they are drawn from. -/
namespace K27
open PySem L2 PySem.Spec PyProof.Rows
/-- an int of which something is known -/
abbrev intT (K : PySem.W.Frag) (Pp : Int → Prop) : Ty := some_ Pp fun i => dat K (.int i)
/-- the box: a list of two ints, whatever they are -/
def boxO (b : Addr) : HO := .ext fun h => ∃ (g x : Int) (t1 t2 : Tok) (n : Nat), (0 ≤ x ∧ x < 4294967296) ∧ h.get? b = some { cls := .type "list", data := .seq #[.int g t1, .int x t2] n }
theorem boxO_ok {P : Program} {w : World} {H : Hp} {h : Heap} {b : Addr} {g x : Int} {t1 t2 : Tok} {n : Nat} (hx : 0 ≤ x ∧ x < 4294967296) (e : h.get? b = some { cls := .type "list", data := .seq #[.int g t1, .int x t2] n }) : ObjOk P w H h b (boxO b) :=
  ⟨⟨g, x, t1, t2, n, hx, e⟩, ⟨_, e⟩, fun h1 h2 ⟨g, x, t1, t2, n, hx, e⟩ k => ⟨g, x, t1, t2, n, hx, k _ e⟩⟩
def boxT : Ty := ⟨fun v G => ∃ b, v = .ref b ∧ G b = some (boxO b), fun e ⟨b, h1, h2⟩ => ⟨b, h1, e _ _ h2⟩⟩
theorem vals2 {g x : Int} {us : List Value} (h : Vals [.int g, .int x] us) : ∃ t1 t2, us = [.int g t1, .int x t2] := by
  cases h with
  | cons a b =>
    cases b with
    | cons c d =>
      cases d
      obtain ⟨t1, rfl⟩ := a
      obtain ⟨t2, rfl⟩ := c
      exact ⟨t1, t2, rfl⟩
section
variable {X : Cx} {e a b : Expr} {es : List Expr} {σ : L2.St} {w w' : Wd} {τ τ' : Ty} {pos p : Pos} {ds : List (Option Ty)} {rest body : List Stmt} {D : Ends}
/-- a list of two ints becomes the box -/
theorem boxed {pins : List (Addr × Obj)} {H : Hp} {s : Shared} {q : Addr} {g x : Int} (I : Inv X pins σ H s) (h : H q = some (.lst [.int g, .int x])) (hx : 0 ≤ x ∧ x < 4294967296) : Inv X pins σ (upd H q (boxO q)) s := by
  obtain ⟨its, n, r, ho, hz⟩ := I.lst h
  obtain ⟨t1, t2, rfl⟩ := vals2 r
  exact I.write (x := q) (e := q) (t' := s.toks) (by rw [h]; trivial) (.inl rfl) (fun b u _ hb => hb) ⟨_, ho⟩ (boxO_ok hx ho)
/-- the box, opened -/
theorem opened {pins : List (Addr × Obj)} {H : Hp} {s : Shared} {q : Addr} (I : Inv X pins σ H s) (h : H q = some (boxO q)) : ∃ g x : Int, (0 ≤ x ∧ x < 4294967296) ∧ Inv X pins σ (upd H q (.lst [.int g, .int x])) s := by
  have ok : ObjOk X.prog X.w H s.heap q (boxO q) := I.hok q _ h
  obtain ⟨⟨g, x, t1, t2, n, hx, ho⟩, _, _⟩ := ok
  exact ⟨g, x, hx, I.write (x := q) (e := q) (t' := s.toks) (by rw [h]; trivial) (.inl rfl) (fun b u _ hb => hb) ⟨_, ho⟩ ⟨(by show (2 : Nat) ≤ sizeLine; decide), [.int g t1, .int x t2], n, .cons ⟨_, rfl⟩ (.cons ⟨_, rfl⟩ .nil), ho⟩⟩
theorem upd_back {H : Hp} {q : Addr} {o u : HO} (h : H q = some o) : upd (upd H q u) q o = H := by
  rw [upd_upd]
  funext b
  by_cases hb : b = q
  · rw [hb, upd_same, h]
  · rw [upd_ne hb]
/-- an item of the box -/
def rIxB : R2 := fun x y H Q => ∃ q i, x = .ref q ∧ y = .int i ∧ H q = some (boxO q) ∧ ((i = 0 ∧ ∀ g : Int, Q (.int g) H) ∨ (i = 1 ∧ ∀ g : Int, 0 ≤ g ∧ g < 4294967296 → Q (.int g) H))
theorem ix_box : IxR X rIxB := by
  intro value slice pins s σ H x y v u Q I rx ry ⟨q, i, ex, ey, hq, h⟩ hs
  subst ex ey
  obtain ⟨g, z, hz, J⟩ := opened I hq
  have back : ∀ {u : Value} {s' : Shared} {d : V}, (∃ v H', Inv X pins σ H' s' ∧ RelV v u ∧ v = d ∧ H' = upd H q (.lst [.int g, .int z])) → Q d H → EP X pins σ Q u s' := fun {u s' d} ⟨v, H', I', r, e1, e2⟩ k => by
    subst e1 e2
    have J' := boxed I' upd_same hz
    rw [upd_back hq] at J'
    exact ⟨v, H, J', r, k⟩
  rcases h with ⟨ei, k⟩ | ⟨ei, k⟩
  · refine wpAny_mono (ix_list value slice pins s σ _ (.ref q) (.int i) v u (fun v H' => v = .int g ∧ H' = upd H q (.lst [.int g, .int z])) J rx ry ⟨q, _, i, .int g, rfl, rfl, SqL.of upd_same, by rw [ei]; rfl, rfl, rfl⟩ hs) (fun u s' hu => back hu (k g)) fun _ _ hq => hq
  · refine wpAny_mono (ix_list value slice pins s σ _ (.ref q) (.int i) v u (fun v H' => v = .int z ∧ H' = upd H q (.lst [.int g, .int z])) J rx ry ⟨q, _, i, .int z, rfl, rfl, SqL.of upd_same, by rw [ei]; rfl, rfl, rfl⟩ hs) (fun u s' hu => back hu (k z hz)) fun _ _ hq => hq
/-- an item of the box, stored -/
def rSetB : TSet := fun o i v H Q => ∃ q k j, o = .ref q ∧ i = .int k ∧ v = .int j ∧ H q = some (boxO q) ∧ (k = 0 ∨ (k = 1 ∧ 0 ≤ j ∧ j < 4294967296)) ∧ Q H
theorem set_box : PSet X rSetB := by
  intro pins s σ H o i v ov iv u Q I ro ri rv ⟨q, k, j, eo, ei, ev, hq, h, hQ⟩
  subst eo ei ev
  obtain ⟨g, z, hz, J⟩ := opened I hq
  rcases h with ek | ⟨ek, hj⟩
  · refine wpAny_mono (set_list pins s σ _ (.ref q) (.int k) (.int j) ov iv u (fun H' => H' = upd (upd H q (.lst [.int g, .int z])) q (.lst [.int j, .int z])) J ro ri rv ⟨q, _, k, 0, rfl, rfl, upd_same, by rw [ek]; rfl, rfl⟩) (fun _ s' ⟨H', I', e⟩ => ?_) fun _ _ hq => hq
    subst e
    have J' := boxed I' upd_same hz
    rw [upd_upd, upd_back hq] at J'
    exact ⟨H, J', hQ⟩
  · refine wpAny_mono (set_list pins s σ _ (.ref q) (.int k) (.int j) ov iv u (fun H' => H' = upd (upd H q (.lst [.int g, .int z])) q (.lst [.int g, .int j])) J ro ri rv ⟨q, _, k, 1, rfl, rfl, upd_same, by rw [ek]; rfl, rfl⟩) (fun _ s' ⟨H', I', e⟩ => ?_) fun _ _ hq => hq
    subst e
    have J' := boxed I' upd_same hj
    rw [upd_upd, upd_back hq] at J'
    exact ⟨H, J', hQ⟩
theorem box0 (ha : Ev X σ w a boxT) (hb : Dv X σ w b (.int 0)) (hs : PlainIx b := by intro _ _; rfl) : Ev X σ w (.Subscript a b pos) (intT X.K fun _ => True) := fun w1 g Q k =>
  toE (pe_ix ix_box uE uE hs) (ha w1 g _ fun x w2 g2 ⟨q, e, hq⟩ => hb w2 (g.trans g2) _ fun y w3 g3 hy => ⟨q, 0, e, Dp.int_iff hy, w3.sub _ _ (g3.g _ _ hq), .inl ⟨rfl, fun i => k _ w3 (g2.trans g3) ⟨i, True.intro, .int i⟩⟩⟩)
theorem box1 (ha : Ev X σ w a boxT) (hb : Dv X σ w b (.int 1)) (hs : PlainIx b := by intro _ _; rfl) : Ev X σ w (.Subscript a b pos) (intT X.K fun i => 0 ≤ i ∧ i < 4294967296) := fun w1 g Q k =>
  toE (pe_ix ix_box uE uE hs) (ha w1 g _ fun x w2 g2 ⟨q, e, hq⟩ => hb w2 (g.trans g2) _ fun y w3 g3 hy => ⟨q, 1, e, Dp.int_iff hy, w3.sub _ _ (g3.g _ _ hq), .inr ⟨rfl, fun i hi => k _ w3 (g2.trans g3) ⟨i, hi, .int i⟩⟩⟩)
/-- box[0] = e -/
theorem w_box0 {apos : Pos} (he : Ev X σ w e (intT X.K fun _ => True)) (ha : Ev X σ w a boxT) (hb : Dv X σ w b (.int 0)) (k : ∀ w', Grow w w' → wS X rest D σ w'.H)
    (hh : ∀ v, assign (.Subscript a b apos) X.env v = (do
      let ov ← holding [v] (eval a X.env)
      let iv ← holding [v, ov] (eval b X.env)
      standAt apos
      holding [v, ov, iv] (setItem ov iv v)
      release [v, ov, iv] []) := by intro _; rfl)
    (hs : swapsWithSole [.Subscript a b apos] e pos.line X.env = pure false := by rfl) (hw : swappedStores [.Subscript a b apos] e X.env = pure none := by rfl)
    (h1 : (assignEach [.Subscript a b apos] X.env).map (·.2) = [assign (.Subscript a b apos) X.env] := by rfl) : wS X (.Assign [.Subscript a b apos] e pos :: rest) D σ w.H :=
  wS_cons (toS1 (ps_asg uE (pg_sub uE uE set_box hh) hs hw h1) (he w (Grow.refl _) _ fun v w2 g2 ⟨j, _, hv⟩ => ha w2 g2 _ fun o w3 g3 ⟨q, eo, hq⟩ => hb w3 (g2.trans g3) _ fun i w4 g4 hi =>
    ⟨q, 0, j, eo, Dp.int_iff hi, Dp.int_iff hv, w4.sub _ _ (g4.g _ _ hq), .inl rfl, k w4 ((g2.trans g3).trans g4)⟩))
theorem w_box1 {apos : Pos} (he : Ev X σ w e (intT X.K fun i => 0 ≤ i ∧ i < 4294967296)) (ha : Ev X σ w a boxT) (hb : Dv X σ w b (.int 1)) (k : ∀ w', Grow w w' → wS X rest D σ w'.H)
    (hh : ∀ v, assign (.Subscript a b apos) X.env v = (do
      let ov ← holding [v] (eval a X.env)
      let iv ← holding [v, ov] (eval b X.env)
      standAt apos
      holding [v, ov, iv] (setItem ov iv v)
      release [v, ov, iv] []) := by intro _; rfl)
    (hs : swapsWithSole [.Subscript a b apos] e pos.line X.env = pure false := by rfl) (hw : swappedStores [.Subscript a b apos] e X.env = pure none := by rfl)
    (h1 : (assignEach [.Subscript a b apos] X.env).map (·.2) = [assign (.Subscript a b apos) X.env] := by rfl) : wS X (.Assign [.Subscript a b apos] e pos :: rest) D σ w.H :=
  wS_cons (toS1 (ps_asg uE (pg_sub uE uE set_box hh) hs hw h1) (he w (Grow.refl _) _ fun v w2 g2 ⟨j, hj, hv⟩ => ha w2 g2 _ fun o w3 g3 ⟨q, eo, hq⟩ => hb w3 (g2.trans g3) _ fun i w4 g4 hi =>
    ⟨q, 1, j, eo, Dp.int_iff hi, Dp.int_iff hv, w4.sub _ _ (g4.g _ _ hq), .inr ⟨rfl, hj⟩, k w4 ((g2.trans g3).trans g4)⟩))
/-- [great, number]: a box -/
theorem mkbox {Pp : Int → Prop} (ha : Ev X σ w a (intT X.K Pp)) (hb : Ev X σ w b (intT X.K fun i => 0 ≤ i ∧ i < 4294967296)) (h1 : starEach [a, b] X.env = (false, eval a X.env) :: starEach [b] X.env := by rfl) (h2 : starEach [b] X.env = (false, eval b X.env) :: starEach [] X.env := by rfl) : Ev X σ w (.List [a, b] pos) boxT := fun w1 g Q k pins s I => by
  refine wpAny_mono ((pe_lst (pa_cons uE (pa_cons uE pa_nil h2) h1)).run pins s σ w1.H (fun v H => ∃ (w3 : Wd) (q : Addr) (i j : Int), Grow w1 w3 ∧ v = .ref q ∧ w3.H q = none ∧ H = upd w3.H q (.lst [.int i, .int j]) ∧ 0 ≤ j ∧ j < 4294967296) I ?_) (fun u s' ⟨v, H', I', r, w3, q, i, j, g3, ev, hn, eH, hj⟩ => ?_) fun _ _ hq => hq
  · exact ha w1 g _ fun x w2 g2 ⟨i, _, hx⟩ => hb w2 (g.trans g2) _ fun y w3 g3 ⟨j, hj, hy⟩ => ⟨by show (2 : Nat) ≤ sizeLine; decide, fun q hq => ⟨w3, q, i, j, g2.trans g3, rfl, hq, by rw [Dp.int_iff hx, Dp.int_iff hy], hj⟩⟩
  · subst ev eH
    have J := boxed I' upd_same hj
    rw [upd_upd] at J
    exact ⟨.ref q, _, J, r, k _ (w3.new q (boxO q)) (g3.trans (Grow.new hn)) ⟨q, rfl, Wd.new_at⟩⟩
/-! ### reckoning with ints that are not known -/
variable {Pa Pb R : Int → Prop}
theorem iS {i : Int} (h : Dv X σ w e (.int i)) (hi : R i) : Ev X σ w e (intT X.K R) := h.imp fun v G q => ⟨i, hi, q⟩
theorem wkS (h : Ev X σ w e (intT X.K Pa)) (k : ∀ i, Pa i → R i) : Ev X σ w e (intT X.K R) := h.imp fun v G ⟨i, h1, h2⟩ => ⟨i, k i h1, h2⟩
theorem addZ (ha : Ev X σ w a (intT X.K Pa)) (hb : Ev X σ w b (intT X.K Pb)) (k : ∀ i j, Pa i → Pb j → R (i + j)) : Ev X σ w (.BinOp a .Add b pos) (intT X.K R) :=
  ev_op op_add ha hb fun x y w3 Q _ ⟨i, hi, hx⟩ ⟨j, hj, hy⟩ q => ⟨i, j, Dp.int_iff hx, Dp.int_iff hy, q _ w3 (Grow.refl _) ⟨_, k i j hi hj, .int _⟩⟩
theorem mulS (ha : Ev X σ w a (intT X.K Pa)) (hb : Ev X σ w b (intT X.K Pb)) (hc : ∀ i j, Pa i → Pb j → CMul i j) (k : ∀ i j, Pa i → Pb j → R (i * j)) : Ev X σ w (.BinOp a .Mult b pos) (intT X.K R) :=
  ev_op op_mul ha hb fun x y w3 Q _ ⟨i, hi, hx⟩ ⟨j, hj, hy⟩ q => ⟨i, j, Dp.int_iff hx, Dp.int_iff hy, hc i j hi hj, q _ w3 (Grow.refl _) ⟨_, k i j hi hj, .int _⟩⟩
theorem fdivS (ha : Ev X σ w a (intT X.K Pa)) (hb : Ev X σ w b (intT X.K Pb)) (hc : ∀ j, Pb j → 0 < j ∧ j < 1073741824) (k : ∀ i j, Pa i → Pb j → R (i / j)) : Ev X σ w (.BinOp a .FloorDiv b pos) (intT X.K R) :=
  ev_op op_fdiv ha hb fun x y w3 Q _ ⟨i, hi, hx⟩ ⟨j, hj, hy⟩ q => ⟨i, j, Dp.int_iff hx, Dp.int_iff hy, hc j hj, q _ w3 (Grow.refl _) ⟨_, k i j hi hj, .int _⟩⟩
theorem modS (ha : Ev X σ w a (intT X.K Pa)) (hb : Ev X σ w b (intT X.K Pb)) (hc : ∀ j, Pb j → 0 < j) (k : ∀ i j, Pa i → Pb j → R (i % j)) : Ev X σ w (.BinOp a .Mod b pos) (intT X.K R) :=
  ev_op op_mod ha hb fun x y w3 Q _ ⟨i, hi, hx⟩ ⟨j, hj, hy⟩ q => ⟨i, j, Dp.int_iff hx, Dp.int_iff hy, hc j hj, q _ w3 (Grow.refl _) ⟨_, k i j hi hj, .int _⟩⟩
theorem modS1 {j : Int} (ha : Ev X σ w a (intT X.K Pa)) (hb : Dv X σ w b (.int j)) (hj : 0 < j) : Ev X σ w (.BinOp a .Mod b pos) (intT X.K fun i => 0 ≤ i ∧ i < j) :=
  modS ha (iS (R := fun x => x = j) hb rfl) (fun x e => e ▸ hj) fun i x _ e => by subst e; exact ⟨Int.emod_nonneg _ (by omega), Int.emod_lt_of_pos _ hj⟩
theorem intS (hm : X.mg "int" = none) (ha : Ev X σ w e (intT X.K Pa)) (hg : Gl X "int" := by rfl) (he : starEach [e] X.env = (false, eval e X.env) :: starEach [] X.env := by rfl) : Ev X σ w (.Call (.Name "int" p) [e] [] pos) (intT X.K Pa) :=
  bt1 call_int1 hm (by decide +kernel) ha (fun v w2 Q g ⟨i, hi, hv⟩ k => .inl ⟨i, by rw [Dp.int_iff hv], k _ w2 (Grow.refl _) ⟨i, hi, .int _⟩⟩) hg (by decide) (by decide) he
theorem absS (hm : X.mg "abs" = none) (ha : Ev X σ w e (intT X.K Pa)) (k : ∀ i, Pa i → R (if i < 0 then -i else i)) (hg : Gl X "abs" := by rfl) (he : starEach [e] X.env = (false, eval e X.env) :: starEach [] X.env := by rfl) : Ev X σ w (.Call (.Name "abs" p) [e] [] pos) (intT X.K R) :=
  bi1 call_abs hm (by decide +kernel) ha (fun v w2 Q g ⟨i, hi, hv⟩ q => ⟨i, by rw [Dp.int_iff hv], q _ w2 (Grow.refl _) ⟨_, k i hi, .int _⟩⟩) hg (by decide) (by decide) he
/-- a test whose answer is not known -/
def TvU (X : Cx) (σ : L2.St) (w : Wd) (e : Expr) : Prop := ∀ w1, Grow w w1 → ∀ Q : Bool → Hp → Prop, (∀ c w2, Grow w1 w2 → Q c w2.H) → wT X e σ w1.H Q
theorem gtU (ha : Ev X σ w a (intT X.K Pa)) (hb : Ev X σ w b (intT X.K Pb)) : TvU X σ w (.Compare a [.Gt] [b] pos) := fun w1 g Q q =>
  toT (pt_cmpR op_gt uE uE (nomark _)) (ha w1 g _ fun x w2 g2 ⟨i, _, hx⟩ => hb w2 (g.trans g2) _ fun y w3 g3 ⟨j, _, hy⟩ => ⟨i, j, Dp.int_iff hx, Dp.int_iff hy, ⟨_, rfl, q _ w3 (g2.trans g3)⟩⟩)
theorem geU (ha : Ev X σ w a (intT X.K Pa)) (hb : Ev X σ w b (intT X.K Pb)) : TvU X σ w (.Compare a [.GtE] [b] pos) := fun w1 g Q q =>
  toT (pt_cmpR op_ge uE uE (nomark _)) (ha w1 g _ fun x w2 g2 ⟨i, _, hx⟩ => hb w2 (g.trans g2) _ fun y w3 g3 ⟨j, _, hy⟩ => ⟨i, j, Dp.int_iff hx, Dp.int_iff hy, ⟨_, rfl, q _ w3 (g2.trans g3)⟩⟩)
theorem w_ifU {c : Expr} {A B : List Stmt} (hc : TvU X σ w c) (hA : ∀ w', Grow w w' → wS X A { D with nx := wS X rest D } σ w'.H) (hB : ∀ w', Grow w w' → wS X B { D with nx := wS X rest D } σ w'.H) : wS X (.If c A B pos :: rest) D σ w.H :=
  wS_cons (toS1 (ps_if uT uS uS) (hc w (Grow.refl _) _ fun b w2 g2 => by
    cases b with
    | true => exact iteT (hA w2 g2)
    | false => exact iteF (hB w2 g2)))
theorem ifU {c : Expr} (h : TvU X σ w c) (ha : Ev X σ w a τ) (hb : Ev X σ w b τ) : Ev X σ w (.IfExp c a b pos) τ := fun w1 g Q k =>
  toE (pe_ifExp uT uE uE) (h w1 g _ fun d w2 g2 => by
    cases d with
    | true => exact iteT (ha w2 (g.trans g2) Q fun v w3 g3 => k v w3 (g2.trans g3))
    | false => exact iteF (hb w2 (g.trans g2) Q fun v w3 g3 => k v w3 (g2.trans g3)))
/-- an item of a list, at a place that is not known -/
theorem ixAny {τs : List Ty} (ha : Ev X σ w a (lstT X.K τs)) (hb : Ev X σ w b (intT X.K fun i => 0 ≤ i ∧ i < (τs.length : Int))) (hs : PlainIx b := by intro _ _; rfl) : Ev X σ w (.Subscript a b pos) (some_ (fun τ => τ ∈ τs) id) := fun w1 g1 Q k =>
  toE (pe_ix ix_list uE uE hs) (ha w1 g1 _ fun x w2 g2 ⟨l, vs, ex, hs, ht⟩ => hb w2 (g1.trans g2) _ fun y w3 g3 ⟨i, hb, hy⟩ => by
    obtain ⟨τ, hτ⟩ : ∃ τ, τs[i.toNat]? = some τ := ⟨_, List.getElem?_eq_getElem (show i.toNat < τs.length by omega)⟩
    obtain ⟨v, h1, h2⟩ := atI_tys (i := i) (τ := τ) ht (by rw [show i = ((i.toNat : Nat) : Int) by omega]; exact atI_nat hτ)
    exact ⟨l, vs, i, v, ex, Dp.int_iff hy, w3.sub.seq (g3.g.seq hs), h1, k v w3 (g2.trans g3) ⟨τ, List.mem_of_getElem? hτ, τ.m g3.g h2⟩⟩)
end
end K27
/-! ## Core23 -/
/-! The calculus, twenty-third part: a comprehension whose test is not known; is not True. -/
namespace K27
open PySem L2 PySem.Spec PyProof.Rows
section
variable {X : Cx} {e a b : Expr} {es : List Expr} {σ : L2.St} {w w' : Wd} {τ τ' : Ty} {pos p : Pos} {ds : List (Option Ty)} {rest body : List Stmt} {D : Ends} {α : Type}
theorem take_sub {xs l : List α} {i : Nat} {y : α} (h : l.Sublist (xs.take i)) (hy : xs[i]? = some y) : l.Sublist (xs.take (i + 1)) ∧ (l ++ [y]).Sublist (xs.take (i + 1)) := by
  rw [List.take_succ, hy]
  exact ⟨h.trans (List.sublist_append_left _ _), h.append (List.Sublist.refl _)⟩
theorem lcU_read {elt iter test : Expr} {x : Str} {tp : Pos} {scope : Scope} {xs : List α} {κ : α → Ty} (own : List (Str × Nat)) (j : Nat) (υ : α → Ty) (S : Sl w.G σ ds) (hi : Iv X σ w (.Name x tp) iter (xs.map κ)) (hz : xs.length ≤ 1000000)
    (ht : ∀ (i : Nat) y σ2 w4, xs[i]? = some y → Grow w w4 → Sl w4.G σ2 ((wipeD ds (own.map (·.2))).set j (some (κ y))) → ∀ s0 H0 C cl fp, TvU (Bk X scope s0 H0 C cl fp) σ2 w4 test)
    (hs : ∀ (i : Nat) y σ2 w4, xs[i]? = some y → Grow w w4 → Sl w4.G σ2 ((wipeD ds (own.map (·.2))).set j (some (κ y))) → BEv X scope σ2 w4 elt (υ y)) (hj : j ∈ own.map (·.2)) :
    ∀ w0, Grow w w0 → ∀ Q : VK, (∀ v w2, Grow w0 w2 → (some_ (fun l => l.Sublist xs) fun l : List α => lstT X.K (l.map υ)).p v w2.G → Q v w2.H) → tLc (wI X (.Name x tp) iter) (gName j) (bT X scope test) (bE X scope elt) (own.map (·.2)) σ w0.H Q := fun w0 g0 Q k =>
  (hi w0 g0 _ fun J w2 g2 hy D hD => by
    let Pv : Nat → Hp → Prop := fun i H' => ∃ w', w'.H = H' ∧ Grow w2 w' ∧ ∃ (acc : List V) (l : List α), l.Sublist (xs.take i) ∧ Own w' D (.lst acc) ∧ Tys (l.map υ) acc w'.G
    have fin : ∀ i H', Pv i H' → i = xs.length → Q (.ref D) H' := by
      rintro i H' ⟨w', eH, g3, acc, l, hl, ow, ta⟩ ei
      subst eH ei
      rw [List.take_length] at hl
      exact k (.ref D) (w'.frz D (.lst acc) ow.at_) (g2.trans (g3.frz hD ow.at_)) ⟨l, hl, D, acc, rfl, SqL.of Wd.frz_at, ta.mono (Wd.frz_same ow.free)⟩
    refine ⟨fun i m H' => m = xs.length - i ∧ i ≤ xs.length ∧ Pv i H', ⟨xs.length, rfl, Nat.zero_le _, w2.lay D (.lst []) (w2.gnone hD), rfl, Grow.lay hD, [], [], List.nil_sublist _, Own.lay hD, .nil⟩, ?_⟩
    rintro i m H' ⟨em, hle, w3, eH, g3, acc, l, hl, ow, ta⟩
    subst eH
    obtain ⟨y1, y2⟩ := hy w3 g3.g
    by_cases hlt : i < xs.length
    · have hx : xs[i]? = some xs[i] := List.getElem?_eq_getElem hlt
      obtain ⟨go, yl⟩ := y1 i (κ xs[i]) (by rw [List.getElem?_map, hx]; rfl)
      refine .inr ⟨go, Pv (i + 1), fun H' p => ⟨xs.length - (i + 1), by omega, rfl, by omega, p⟩, fun x H4 hyl => ?_⟩
      obtain ⟨w4, e4, g4, h4⟩ := yl x H4 hyl
      subst e4
      have gw : Grow w w4 := ((g0.trans g2).trans g3).trans g4
      have S4 : Sl w4.G ((L2.wipe σ (own.map (·.2))).set j (some x)) ((wipeD ds (own.map (·.2))).set j (some (κ xs[i]))) := ((S.mono gw.g).wipe _).put h4 j
      obtain ⟨hl1, hl2⟩ := take_sub hl hx
      have hll : l.length ≤ xs.length := Nat.le_trans hl.length_le (by rw [List.length_take]; omega)
      refine ⟨by rw [wipe_set hj, wipe_wipe], fun s0 H0 C cl fp => ht i _ _ w4 hx gw S4 s0 H0 C cl fp w4 (Grow.refl _) _ fun c w5 g5 => ?_⟩
      cases c with
      | false => exact iteF ⟨w5, rfl, (g3.trans g4).trans g5, acc, l, hl1, (ow.grow g4).grow g5, (ta.mono g4.g).mono g5.g⟩
      | true =>
        refine iteT ((hs i _ _ w5 hx (gw.trans g5) (S4.mono g5.g)).run fun v w6 g6 hv => ?_)
        have ow6 := ((ow.grow g4).grow g5).grow g6
        have ta6 := ((ta.mono g4.g).mono g5.g).mono g6.g
        have hla := ta6.length
        rw [List.length_map] at hla
        refine ⟨acc, ow6.at_, small_big (by omega), w6.lay D (.lst (acc ++ [v])) ow6.free, rfl, (((g3.trans g4).trans g5).trans g6).change hD, acc ++ [v], l ++ [xs[i]], hl2, Own.self, ?_⟩
        rw [List.map_append]
        exact ta6.append (.cons hv .nil)
    · have e : i = xs.length := by omega
      rw [List.length_map] at y2
      exact .inl ⟨by rw [e]; exact y2, fin i _ ⟨w3, rfl, g3, acc, l, hl, ow, ta⟩ e⟩)
theorem lcU {elt iter test : Expr} {x : Str} {tp : Pos} {scope : Scope} {xs : List α} {κ : α → Ty} (own : List (Str × Nat)) (j : Nat) (υ : α → Ty) (hc : X.calm = true) (hN : X.N.Nodup) (S : Sl w.G σ ds) (hi : Iv X σ w (.Name x tp) iter (xs.map κ)) (hz : xs.length ≤ 1000000)
    (ht : ∀ (i : Nat) y σ2 w4, xs[i]? = some y → Grow w w4 → Sl w4.G σ2 ((wipeD ds (own.map (·.2))).set j (some (κ y))) → ∀ s0 H0 C cl fp, TvU (Bk X scope s0 H0 C cl fp) σ2 w4 test)
    (hs : ∀ (i : Nat) y σ2 w4, xs[i]? = some y → Grow w w4 → Sl w4.G σ2 ((wipeD ds (own.map (·.2))).set j (some (κ y))) → BEv X scope σ2 w4 elt (υ y))
    (ok : BlkOk X.N X.env.scope scope own := by first | exact blkOk_by (by decide +kernel) | exact blkOk_by (by dsimp only [cxOf, Cx.nox, Cx.wish, envOfC, Cx.blk, compEnvC]; decide +kernel)) (hb : BN X scope j x := by first | exact ⟨rfl, .inl rfl⟩ | exact ⟨rfl, .inr ⟨rfl, rfl⟩⟩) (hj : j ∈ own.map (·.2) := by decide) (hf : ∀ x, foldedSetIterable iter X.env x = pure x := by intro _; rfl) :
    LcV X σ w (.ListComp elt [⟨.Name x tp, iter, [test], 0⟩] scope pos) (some_ (fun l => l.Sublist xs) fun l : List α => lstT X.K (l.map υ)) :=
  ⟨fun w0 g0 Q k => toE (pe_lc hc hN uI ok (bn_pg hN hb) (fun _ _ _ _ _ => pts_one upt) (fun s H C cl fp => upe) hf) (lcU_read own j υ S hi hz ht hs hj w0 g0 Q k),
   fun i y py spos hy hl hsw D k => toS1 (ps_setLc hc hN hy hl hsw uI ok (bn_pg hN hb) (fun _ _ _ _ _ => pts_one upt) (fun s H C cl fp => upe) hf) (lcU_read own j υ S hi hz ht hs hj w (Grow.refl _) _ k)⟩
/-! ### is not True -/
theorem op_isnotB : OpR X (compareOp .IsNot) (fun x y H Q => ∃ c d : Bool, x = .bl c ∧ y = .bl d ∧ Q (.bl (!decide (c = d))) H) := by
  intro pins s σ H x y v u Q I rx ry ⟨c, d, ex, ey, q⟩
  subst ex ey
  cases rx
  cases ry
  show wpAny _ _ ((isSame (Value.bool c) (Value.bool d)) >>= fun z => pure (Value.bool (!z))) _ _ s
  refine wpAny_bind (wpAny_isSame_plain rfl (wpAny_pure ?_))
  exact ⟨.bl (!decide (c = d)), H, I, by cases c <;> cases d <;> rfl, q⟩
theorem t_notTrue {c d : Bool} (ha : Dv X σ w a (.bool c)) (hb : Dv X σ w b (.bool d)) : Tv X σ w (.Compare a [.IsNot] [b] pos) (!decide (c = d)) :=
  tv_cmp op_isnotB ha hb (nomark _) fun x y w3 Q _ hx hy q => ⟨c, d, Dp.bool_iff hx, Dp.bool_iff hy, q w3 (Grow.refl _)⟩
end
end K27
/-! ## Exc1 -/
/-! Refused(e): made, by way of super().__init__; what the written part says of the class. -/
namespace K27
open PySem L2 PySem.Spec PyProof.Rows
open PySem.W (ksFn ksEnv kxs_mw)
/-- the text of Refused.__init__, in the class that its cell at cc names -/
abbrev refFn (doc pm : Value) (an : Option Addr) (cda : Addr) (ct : Value) (cc : Addr) : FuncData := ksFn "__init__" "Refused.__init__" (defArgs sRefusedInit) (defBody sRefusedInit) (defScope sRefusedInit) .none .none doc pm an (.ref cda) ct cc
structure RefTxt (P : Program) (K : PySem.W.Frag) (mg : Str → Option Value) (C fI : Addr) : Prop where
  gC : mg "Refused" = some (.ref C)
  gS : mg "super" = none
  cls : OexC K C
  noN : PySem.W.findIn K (.ref C) "at" = some none
  iC : PySem.W.findIn K (.ref C) "__init__" = some (some (.ref fI))
  tC : PySem.W.typeIn K (.ref fI) = some (.type "function")
  te : PySem.W.exmOne K (.ref C) (.ref C) = some true
  sub : PySem.W.mroIn K C (.ref C) = some true
  sup : PySem.W.ks_superIn K C C "__init__" = some (some (.builtin "ValueError.__init__"))
  subB : PySem.W.subIn K (.ref C) (.type "ValueError") = some true
  opq : PySem.W.nsIn K cStatics "thirdparty.any" = some none
  fn : ∃ (oc : Value) (od : Option Addr) (doc pm : Value) (an : Option Addr) (cda : Addr) (ct : Value) (cc : Addr) (osl : Array (Option Value)), K.lookup fI = some ⟨oc, od, .func (refFn doc pm an cda ct cc), osl⟩ ∧ PySem.W.codeIn K (.ref cda) "Refused.__init__" = true ∧
    (∃ (ccl : Value) (cdd : Option Addr) (vs : Array Value) (ccs : Array (Option Value)) (file : Str) (tf : Tok), K.lookup cda = some ⟨ccl, cdd, .fields vs, ccs⟩ ∧ vs[2]? = some (.str file tf) ∧ ((P.main.file : Str) == file) = true) ∧
    ∃ (cl : Value) (cld : Option Addr) (csl : Array (Option Value)), K.lookup cc = some ⟨cl, cld, .cell (some (.ref C)), csl⟩
  top : (P.main.scope.names.lookup ("super" : Str)).isSome = false
/-- what the __init__ leaves -/
structure RefEnd (h h' : Heap) (x C dx t1 : Addr) (v : Value) : Prop where
  keep : ∀ b o, b ≠ x → h.get? b = some o → h'.get? b = some o
  obj : h'.get? x = some { cls := .ref C, dict := some dx, data := .fields #[.ref t1, .none, .none, .none, .bool false, .none] }
  dbig : h.objs.size ≤ dx
  dne : dx ≠ x
  ns : h'.Ns1 dx (fun y => if y = "at" then some v else none)
section
variable {prog : Program} {w : World} {M : Model} {A : Around} {E : Value → Shared → Prop} {R : Result → Shared → Prop} {K : PySem.W.Frag} {mg : Str → Option Value} {C fI : Addr}
open PySem.HandSPX (excO refsVE refsVE_contains)
/-- ValueError.__init__, bound, called -/
theorem call_vw {h : Heap} {g : Array GenState} {d : Drawn} {t : Nat} {os : OsState} {u e t0 : Addr} {rest : List Value} {Q : Value → Shared → Prop} (T : OexC K C) (X : K.In h) (he : h.get? e = some (excO C t0)) (hu : h.get? u = some (kxs_mw "ValueError.__init__" e)) (hrest : rest.length ≤ sizeLine)
    (hq : ∀ h' t1, (∀ b o, b ≠ e → h.get? b = some o → h'.get? b = some o) → h'.get? e = some (excO C t1) → Q .none ⟨h', g, d, t, os⟩) : wpAny (model prog w) A (call (.ref u) rest) Q E ⟨h, g, d, t, os⟩ := by
  obtain ⟨nm, q, N, bs, bm, sn, sub, ab, col, dd, k0, k1, k2, k3, k5, hC, hbm⟩ := T.cls
  refine wpAny_call (codeAny_of_tree ?_)
  show wpAny _ A.in1 (callAny (.ref u) _) _ _ _
  simp only [callAny]
  refine wpAny_bind (wpAny_load hu ?_)
  have isw : (Value.type "method-wrapper" == Value.type "method" || Value.type "method-wrapper" == Value.type "builtin_function_or_method" || Value.type "method-wrapper" == Value.type "method-wrapper") = true := by decide
  simp only [kxs_mw, isw, if_true]
  refine PySem.W.KFB.if_so (by decide) ?_
  refine wpAny_bind (PySem.W.check_bound_init F.excBase_ValueError.toExcCallFacts (X _ _ hC) he rfl ?_)
  refine wpAny_bind (wpAny_pure (wpAny_pure ⟨PySem.plainId_quiet F.excBase_ValueError.init.plain _, ?_⟩))
  refine codeAny_builtin F.excBase_ValueError.initEntry ?_
  exact PySem.W.exc_init_tree (cls := .ref C) (t0 := t0) (dv := none) (c2 := .none) (c3 := .none) (b4 := .bool false) he hrest fun h' k e' _ => hq h' _ k e'
theorem ref_init {hp : Heap} {g : Array GenState} {d : Drawn} {t : Nat} {os : OsState} {base : Heap} (T : RefTxt prog K mg C fI) (Md : Mod K mg base) (kb : ∀ b o, base.get? b = some o → hp.get? b = some o) {x t0 : Addr} {v : Value} (hbx : base.get? x = none) (hx : hp.get? x = some (excO C t0)) (hroom : A.depth < recursionLimit)
    (hq : ∀ h' tk dx t1, RefEnd hp h' x C dx t1 v → R (.ok (.ret .none)) ⟨h', g, d, tk, os⟩) : codeAny (model prog w) A (.call (.ref fI) ⟨[.ref x, v], []⟩) R ⟨hp, g, d, t, os⟩ := by
  obtain ⟨oc, od, doc, pm, an, cda, ct, cc, osl, ho, hcd, ⟨ccl, cdd, vs, ccs, file, tf, hco, hvs, hfile⟩, cl, cld, csl, hcc⟩ := T.fn
  obtain ⟨nm, q, N, bs, bm, sn, sub, ab, col, dd, k0, k1, k2, k3, k5, hC, hbm⟩ := T.cls.cls
  obtain ⟨mb, hb1, hb2⟩ := Md.blt
  have X : K.In hp := Md.kin.keeps kb
  have hcl : PySem.W.clsIn K C = some { name := nm, bases := bs, mro := .ref C :: bm, ns := N, qualname := q, hasDict := true, slotNames := sn, subclasses := sub, abstract := ab, collection := col, hasDel := false } := by unfold PySem.W.clsIn; rw [hC] <;> rfl
  refine PySem.ks_codeAny_call_defAt (fd := refFn doc pm an cda ct cc) (body := defBody sRefusedInit) (binds := [("self", .ref x), ("at", v)]) hroom (X _ _ ho) rfl (Md.nolimit.keeps kb) (PySem.W.codeRec_of X hcd) rfl (BindsTo.of_eq (by first | rfl | with_unfolding_all rfl)) (show ∀ x ∈ (defScope sRefusedInit).names, x.2 ≠ .cell by decide +kernel) (fun y hy => ?_) (fun h₁ hns hk => ?_) rfl rfl rfl
  · rcases List.mem_cons.mp hy with e | hy
    · rw [e]
      exact (by decide +kernel : (defScope sRefusedInit).names.lookup ("self" : Str) = some .local)
    · rcases List.mem_cons.mp hy with e | hy
      · rw [e]
        exact (by decide +kernel : (defScope sRefusedInit).names.lookup ("at" : Str) = some .local)
      · cases hy
  have X₁ : K.In h₁ := X.keeps hk
  have kb₁ : ∀ b o, base.get? b = some o → h₁.get? b = some o := fun b o e => hk b o (kb b o e)
  have hx₁ := hk _ _ hx
  have hxL : hp.objs.size ≠ x := Nat.ne_of_gt (Heap.lt_size hx)
  show _root_.PySem.wpAt _ _ _ (execs (_ :: _) _) _ _ _
  refine PySem.ks_wpAt_execs_cons (PySem.ks_wpAt_Expr_any (PySem.ks_wpAt_MethodCall ?_))
  refine PySem.ks_wpAt_super_base (ar := { arg := "self", annotation := none, pos := ⟨11, 17, 11, 21⟩ }) (env := ksEnv "Refused.__init__" (defScope sRefusedInit) hp.objs.size fI (.ref cda) cc) rfl rfl rfl rfl (X₁ _ _ ho) rfl rfl rfl (X₁ _ _ hco) rfl hvs hfile T.top ?_
  refine PySem.W.ks_loadName_global rfl rfl (Calls.loadGlobal_builtin (Md.glob.keeps kb₁) T.gS (hb1.keeps kb₁) ((hb2 _ (by decide)).trans (by decide +kernel : bootBuiltins "super" = some (.type "super"))) ⟨rfl, ?_⟩)
  refine wpAny_loadName_free rfl rfl rfl ⟨_, X₁ _ _ hcc, rfl⟩ ?_
  refine wpAny_loadName_local (v := .ref x) rfl rfl hns (by first | rfl | with_unfolding_all rfl) ?_
  refine PySem.ks_wpAny_isType_cls (X₁ _ _ hC) rfl ⟨rfl, ?_⟩
  refine PySem.ks_wpAny_call_super (C := C) (X₁ _ _ hC) rfl hx₁ rfl (fun c e => nomatch e) (PySem.W.looks_mroIn X₁ T.sub) (fun h2 e2 k2 => ?_)
  have X₂ : K.In h2 := X₁.keeps k2
  have hx₂ := k2 _ _ hx₁
  have hxC : x ≠ C := fun z => by
    subst z
    have := X₂ _ _ hC
    rw [hx₂] at this
    cases this
  have hsup : PySem.W.alongIn K "__init__" (((Value.ref C :: bm).dropWhile (· != .ref C)).drop 1) = some (some (.builtin "ValueError.__init__")) := by
    have := T.sup
    unfold PySem.W.ks_superIn at this
    rw [hcl] at this
    exact this
  refine PySem.W.kxs_getMethod PySem.W.kxs_ValueError e2 (PySem.W.looks_opaque X₂ T.opq) (l₀ := .ref C :: bm) (fun A Q E s k q => wpAny_bind ((PySem.W.looks_clsIn X₂ hcl) A _ E s k (wpAny_pure q))) rfl X₂ hsup ?_ hxC rfl ?_
  · have I : PySem.W.InstAt h2 x (excO C t0) C none := ⟨hx₂, rfl, rfl, True.intro⟩
    exact I.type.andThen (PySem.W.looks_subIn X₂ T.subB)
  have k3 : ∀ b o, h2.get? b = some o → (h2.push (kxs_mw "ValueError.__init__" x)).get? b = some o := fun b o e => Heap.get?_push_of_some _ e
  have hu3 : (h2.push (kxs_mw "ValueError.__init__" x)).get? h2.objs.size = some (kxs_mw "ValueError.__init__" x) := Heap.get?_push_size _ rfl
  refine PySem.W.kxs_callWith (i := "ValueError.__init__") (x := x) rfl (Calls.evalArgs_plain (Calls.spliced_cons (Calls.Constant_str (pos := ⟨12, 25, 12, 45⟩) (k := 0) (Calls.spliced_nil ⟨hu3, ?_⟩))))
  refine call_vw T.cls (X₂.keeps k3) (k3 _ _ hx₂) hu3 (show 1 ≤ sizeLine by decide) fun h4 t1 k4 e4 => ?_
  have kk : ∀ b o, b ≠ x → h₁.get? b = some o → h4.get? b = some o := fun b o hb e => k4 b o hb (k3 b o (k2 b o e))
  have hlkx : K.lookup x = none := by
    cases e : K.lookup x with
    | none => rfl
    | some o =>
      have h5 := Md.kin _ _ e
      rw [hbx] at h5
      cases h5
  have X₄ : K.In h4 := fun a o e => kk a o (fun z => by rw [z, hlkx] at e; cases e) (X₁ a o e)
  have hns4 : h4.Ns hp.objs.size (fun y => ([("self", Value.ref x), ("at", v)] : List (Str × Value)).reverse.lookup y) := hns.at fun o e => kk _ o hxL e
  -- self.at = at
  show _root_.PySem.wpAt _ _ _ (execs (_ :: _) _) _ _ _
  refine wpAt_of_wpAny (wpAny_execs_cons (plainObj_wpAny_Assign_Attribute ?_))
  refine wpAny_Name (wpAny_loadName_local (v := v) rfl rfl hns4 (by first | rfl | with_unfolding_all rfl) (wpAny_Name (wpAny_loadName_local (v := .ref x) rfl rfl hns4 (by first | rfl | with_unfolding_all rfl) ?_) (by decide))) (by decide)
  refine PySem.W.set_plain X₄ (ox := excO C t1) (od := none) ⟨e4, rfl, rfl, True.intro⟩ T.cls.sa ?_
  refine PySem.HandSPX.exc_osa X₄ e4 hcl (show refsVE (.ref C :: bm) = true from hbm) rfl T.noN (fun h₅ tk₅ dx k₅ dn dne hx₅ hn₅ => ?_)
  refine wpAny_execs_nil (hq h₅ tk₅ dx t1 ⟨fun b o hb e => k₅ b o hb (kk b o hb (hk b o e)), hx₅, ?_, dne, hn₅⟩)
  refine Nat.le_trans (Nat.le_of_lt hns4.lt) dn
end
end K27
/-! ## Exc2 -/
/-! Defs that refuse: raise Refused(e); what a def that only raises is worth. -/
namespace K27
open PySem L2 PySem.Spec PyProof.Rows
section
open PySem.HandSPX (excO refsVE refsVE_contains)
theorem relO_at {v : V} {u : Value} (r : RelV v u) (f : Str) : RelO (List.lookup f [(("at" : Str), v)]) (if f = "at" then some u else none) := by
  by_cases h : f = "at"
  · subst h
    rw [if_pos rfl, show List.lookup ("at" : Str) [(("at" : Str), v)] = some v by simp [List.lookup]]
    exact r
  · have e : (f == ("at" : Str)) = false := by simpa using h
    rw [if_neg h, show List.lookup f [(("at" : Str), v)] = none by simp [List.lookup, e]]
    exact True.intro
/-- Refused(e), an exception whose only field is e -/
def tMkRef (C : Addr) (te : TE) : L2.St → Hp → XK → Prop := fun σ H Q => te σ H fun v H1 => ∀ d, H1 d = none → Q (.ref C) (some d) (upd H1 d (.xd [(("at" : Str), v)]))
theorem pmk_ref {X : Cx} {C fI : Addr} {k : Nat} {a : Expr} {p pos : Pos} (T : RefTxt X.prog X.K X.mg C fI) (hr : Room k X.A) (hg : Gl X "Refused" := by rfl)
    (he : starEach (a :: []) X.env = (false, eval a X.env) :: starEach [] X.env := by rfl) (hpl : (backTo pos (starEach [] X.env)).any (·.1) = false := by rfl) : PMk X (.Call (.Name "Refused" p) [a] [] pos) (tMkRef C (wE X a)) := by
  intro pins s σ H Q I h
  obtain ⟨nm, q, N, bs, bm, sn, sub, ab, col, dd, k0, k1, k2, k3, k5, hC, hbm⟩ := T.cls.cls
  refine wpAny_Call_Name_kw (ld_glob I hg T.gC ?_)
  refine PySem.W.callWith_K (h₀ := X.base) I.ok.mod.kin T.cls.kC (thn ((pa_cons (uE (e := a)) pa_nil he).run pos pins s σ H (fun vs H1 => ∃ v, vs = [v] ∧ ∀ d, H1 d = none → Q (.ref C) (some d) (upd H1 d (.xd [(("at" : Str), v)]))) I ?_) fun us s1 hh => ?_) he hpl
  · refine fun pins s I => thn (h pins s I) fun u s1 ⟨v, H1, I1, r1, q1⟩ => ⟨v, H1, I1, r1, v, rfl, q1⟩
  obtain ⟨vs, H1, I1, r1, v, ev, q1⟩ := hh
  subst ev
  refine ⟨I1.kIn, ?_⟩
  obtain ⟨u, rfl, ru⟩ := r1.one
  have bk := I1.bk
  have bn : ∀ z, s1.heap.objs.size ≤ z → X.base.get? z = none := fun z hz => by
    cases e : X.base.get? z with
    | none => rfl
    | some o => exact absurd (Heap.lt_size (bk _ _ e)) (Nat.not_lt.mpr hz)
  have Md := I1.mod
  obtain ⟨hp, g, dr, tk, os⟩ := s1
  have kk : ∀ b o, hp.get? b = some o → ((hp.push (PySem.W.kdv_tup [u])).push (excO C hp.objs.size)).get? b = some o := fun b o e => Heap.get?_push_of_some _ (Heap.get?_push_of_some _ e)
  have hget : ((hp.push (PySem.W.kdv_tup [u])).push (excO C hp.objs.size)).get? (hp.objs.size + 1) = some (excO C hp.objs.size) := by heap_get
  refine wpAny_call (PySem.HandSPX.call_own F.excBase_ValueError (fun Y => refsVE_contains Y bm hbm) (I1.kIn _ _ hC) (PySem.W.looks_findIn I1.kIn T.iC) (fun self => PySem.W.bind_fn I1.kIn self T.tC) (show 1 ≤ sizeLine by decide) ?_)
  refine ref_init T Md (fun b o e => kk b o (bk b o e)) (bn _ (Nat.le_succ _)) hget (by have := hr.dp; show X.A.depth + 1 < recursionLimit; omega) fun h' tk' d t1 M => ⟨rfl, ?_⟩
  have old : ∀ b o, hp.get? b = some o → h'.get? b = some o := fun b o e => M.keep b o (Nat.ne_of_lt (Nat.lt_succ_of_lt (Heap.lt_size e))) (kk b o e)
  have db : hp.objs.size ≤ d := by
    have := M.dbig
    rw [Heap.size_push, Heap.size_push] at this
    omega
  -- back to the ground: all but the exception itself
  obtain ⟨G, g1, g2⟩ := restrict h' fun b => decide (b ≠ hp.objs.size + 1)
  have ge : G.get? (hp.objs.size + 1) = none := g2 _ (by simp)
  have gk : ∀ b, b ≠ hp.objs.size + 1 → G.get? b = h'.get? b := fun b hb => g1 b (decide_eq_true hb)
  have J : Inv X pins σ (upd H1 d (.xd [(("at" : Str), v)])) ⟨G, g, dr, tk', os⟩ := I1.laid (t' := tk') (fun b o e => (gk b (Nat.ne_of_lt (Nat.lt_succ_of_lt (Heap.lt_size e)))).trans (old b o e)) db ⟨_, M.ns.at fun o e => (gk d M.dne).trans e, relO_at ru⟩
  refine ⟨hp.objs.size + 1, _, _, ⟨G, g, dr, tk', os⟩, _, .ref C, some d, rfl, J, fun b o e => ?_, ge, M.obj, ⟨rfl, rfl⟩, rfl, rfl, ?_, rfl, I1.bare, raises_own T.cls.exC T.cls.tyC, q1 d (I1.hok.fresh db)⟩
  · by_cases hb : b = hp.objs.size + 1
    · have e' : G.get? b = some o := e
      rw [hb, ge] at e'
      cases e'
    · exact (gk b hb).symm.trans e
  · rw [upd_ne (Ne.symm M.dne)]
    exact I1.hok.fresh (Nat.le_succ _)
end
/-- nothing is of this kind: an expression of it raises -/
def botT : Ty := ⟨fun _ _ => False, fun _ h => h⟩
section
variable {X : Cx} {e : Expr} {es : List Expr} {σ : L2.St} {w : Wd} {τ : Ty} {pos p p2 : Pos} {rest : List Stmt} {D : Ends} {W : WX}
theorem Ev.bot (h : Ev X σ w e botT) : Ev X σ w e τ := h.imp fun _ _ z => z.elim
theorem w_bot (i : Nat) {x : Str} {pos' : Pos} (hN : X.N.Nodup) (he : Ev X σ w e botT) (hi : X.N[i]? = some x := by rfl) (hx : Loc X.env.scope x := by first | exact Or.inl rfl | exact Or.inr rfl)
    (hs : swapsWith e (some (.Name x pos')) pos.line X.env = pure false := by rfl) (hf : X.fn x = true ∨ X.env.scope.names.lookup x = some .local := by first | exact .inl rfl | exact .inr rfl) :
    wS X (.Assign [.Name x pos'] e pos :: rest) D σ w.H := w_setv (τ := botT) i hN he (fun _ _ _ h => h.elim) hi hx hs hf
/-- raise Refused(e) -/
theorem w_raise {C fI : Addr} {k : Nat} (T : RefTxt X.prog X.K X.mg C fI) (hc : X.calm = true) (tk : Takes X W) (hr : Room k X.A) (ha : Ev X σ w e τ) (k : ∀ v w1 d, Grow w w1 → τ.p v w1.G → w1.H d = none → W (.ref C) (some d) σ (w1.new d (.xd [(("at" : Str), v)])).H)
    (hg : Gl X "Refused" := by rfl) (he : starEach (e :: []) X.env = (false, eval e X.env) :: starEach [] X.env := by rfl) (hpl : (backTo pos (starEach [] X.env)).any (·.1) = false := by rfl) :
    wS X (.Raise (some (.Call (.Name "Refused" p) [e] [] pos)) none p2 :: rest) D σ w.H :=
  wS_cons (toS1 (ps_raise hc tk (pmk_ref T hr hg he hpl)) (ha w (Grow.refl _) _ fun v w1 g hv d hd => k v w1 d g hv hd))
end
/-! ### defs that only raise -/
/-- what is raised: Refused, v its field, in a world grown from w -/
def Ref (C : Addr) (bad : Ty) (w : Wd) : XK := fun cls d H => ∃ v w1 dd, cls = .ref C ∧ d = some dd ∧ Grow w w1 ∧ bad.p v w1.G ∧ w1.H dd = none ∧ H = (w1.new dd (.xd [(("at" : Str), v)])).H
def spX {ι : Type} (C : Addr) (pre : ι → Prop) (as : ι → List Ty) (bad : ι → Ty) : Sp := fun vs H _ E => ∃ (i : ι) (w : Wd), w.H = H ∧ pre i ∧ Tys (as i) vs w.G ∧ ∀ cls d H', Ref C (bad i) w cls d H' → E cls d H'
structure XCal (P : Program) (w : World) (K : PySem.W.Frag) (mg : Str → Option Value) (base : Heap) (k : Nat) (x : Str) (ps : List Str) (sp : Sp) : Prop where
  ex : ∃ f fd, FnOk P w K mg base (L2.CX P w) k f fd ps sp ∧ mg x = some (.ref f) ∧ PySem.W.keepIn K (.ref f) = true ∧ Binds K fd ps []
structure XKCal (P : Program) (w : World) (K : PySem.W.Frag) (mg : Str → Option Value) (base : Heap) (k : Nat) (x : Str) (st : Stmt) (kws : List (Str × V)) (ps : List Str) (sp : Sp) : Prop where
  ex : ∃ f fd, FnOk P w K mg base (L2.CX P w) k f fd ps sp ∧ FunD K x x (defArgs st) (defBody st) (defScope st) [] kws f fd ∧ mg x = some (.ref f)
abbrev XX (P : Program) (w : World) (K : PySem.W.Frag) (mg : Str → Option Value) (base : Heap) (N : List Str) (x : Str) (st : Stmt) (f : Addr) (cdv : Value) (A : Around) (outer : List Env) (s : Shared) (H : Hp) (E : XK) : Cx :=
  cxOf (L2.CX P w) P w K mg base N x (defScope st) f cdv A outer s H E
theorem xdef_ok {P : Program} {w : World} {K : PySem.W.Frag} {mg : Str → Option Value} {base : Heap} {k : Nat} {x : Str} {st : Stmt} {N ps : List Str} {ι : Type} {pre : ι → Prop} {as : ι → List Ty} {bad : ι → Ty} {C : Addr}
    (D : DefAt K mg x st ps) (S : FnScope N ps (defScope st)) (len : ∀ i, (as i).length = ps.length)
    (h : ∀ (f : Addr) (cdv : Value) (A : Around) (outer : List Env) (s : Shared) (H : Hp) (E : XK) (i : ι) (w0 : Wd) (Dn : Ends) (σ : L2.St), Room k (A.deeper (envOfC x (defScope st) s.heap.objs.size f cdv)) → pre i →
      Sl w0.G σ ((as i).map some ++ List.replicate (N.length - ps.length) none) → Takes (XX P w K mg base N x st f cdv A outer s H E) (fun cls d _ H => E cls d H) → (∀ cls d H', Ref C (bad i) w0 cls d H' → E cls d H') →
      wS (XX P w K mg base N x st f cdv A outer s H E) (defBody st) Dn σ w0.H) :
    XCal P w K mg base (k + 1) x ps (spX C pre as bad) := by
  obtain ⟨f, fd, F, hm, hb⟩ := D.ex
  refine ⟨f, fd, F.okX S (fun vs H Q E ⟨i, _, _, _, t, _⟩ => by rw [t.length, len i]) fun cdv A outer s H vs Q E hr ⟨i, w0, eH, hp, ht, q⟩ => ⟨_, uS, ?_⟩, hm, F.kp, hb⟩
  subst eH
  have hl : vs.length = ps.length := by rw [ht.length, len i]
  have S0 := Sl.start (N := N) ht
  rw [hl] at S0
  exact h f cdv A outer s w0.H E i w0 _ _ hr hp S0 (takes_of rfl rfl rfl rfl) q
theorem xkdef_ok {P : Program} {w : World} {K : PySem.W.Frag} {mg : Str → Option Value} {base : Heap} {k : Nat} {x : Str} {st : Stmt} {kws : List (Str × V)} {N ps : List Str} {ι : Type} {pre : ι → Prop} {as : ι → List Ty} {bad : ι → Ty} {C : Addr}
    (D : KDefAt K mg x st kws) (S : FnScope N ps (defScope st)) (len : ∀ i, (as i).length = ps.length)
    (h : ∀ (f : Addr) (cdv : Value) (A : Around) (outer : List Env) (s : Shared) (H : Hp) (E : XK) (i : ι) (w0 : Wd) (Dn : Ends) (σ : L2.St), Room k (A.deeper (envOfC x (defScope st) s.heap.objs.size f cdv)) → pre i →
      Sl w0.G σ ((as i).map some ++ List.replicate (N.length - ps.length) none) → Takes (XX P w K mg base N x st f cdv A outer s H E) (fun cls d _ H => E cls d H) → (∀ cls d H', Ref C (bad i) w0 cls d H' → E cls d H') →
      wS (XX P w K mg base N x st f cdv A outer s H E) (defBody st) Dn σ w0.H) :
    XKCal P w K mg base (k + 1) x st kws ps (spX C pre as bad) := by
  obtain ⟨f, fd, F, hm⟩ := D.ex
  refine ⟨f, fd, F.ok S (fun vs H Q E ⟨i, _, _, _, t, _⟩ => by rw [t.length, len i]) fun cdv A outer s H vs Q E hr ⟨i, w0, eH, hp, ht, q⟩ => ⟨_, uS, ?_⟩, F, hm⟩
  subst eH
  have hl : vs.length = ps.length := by rw [ht.length, len i]
  have S0 := Sl.start (N := N) ht
  rw [hl] at S0
  exact h f cdv A outer s w0.H E i w0 _ _ hr hp S0 (takes_of rfl rfl rfl rfl) q
section
variable {P : Program} {W0 : World} {K : PySem.W.Frag} {mg : Str → Option Value} {base : Heap} {X : Cx} {σ : L2.St} {w : Wd} {e : Expr} {es : List Expr} {pos p kp : Pos} {τs us : List Ty} {kws : List Keyword} {W : WX} {ι : Type} {pre : ι → Prop} {as : ι → List Ty} {bad : ι → Ty} {C : Addr} {k : Nat} {x : Str} {ps ks : List Str}
theorem Ref.grow {bad : Ty} {w w' : Wd} {cls : Value} {d : Option Addr} {H : Hp} (g : Grow w w') (h : Ref C bad w' cls d H) : Ref C bad w cls d H := by
  obtain ⟨v, w1, dd, e1, e2, g1, hv, hd, eH⟩ := h
  exact ⟨v, w1, dd, e1, e2, g.trans g1, hv, hd, eH⟩
/-- f(e, ..), which raises -/
theorem ev_callX (c : XCal P W0 K mg base k x ps (spX C pre as bad)) (tk : Takes X W) (hr : Room k X.A) (i : ι) (hp : pre i) (ha : Av X σ w (e :: es) (as i)) (wish : ∀ σ cls d H', Ref C (bad i) w cls d H' → W cls d σ H')
    (h1 : X.prog = P := by rfl) (h2 : X.w = W0 := by rfl) (h3 : X.K = K := by rfl) (h4 : X.mg = mg := by rfl) (h5 : X.base = base := by rfl)
    (hg : Gl X x := by rfl) (hdb : (x == ("__debug__" : Str)) = false := by decide) (he : starEach (e :: es) X.env = (false, eval e X.env) :: starEach es X.env := by rfl) (hpl : (backTo pos (starEach es X.env)).any (·.1) = false := by rfl) :
    Ev X σ w (.Call (.Name x p) (e :: es) [] pos) botT := by
  subst h1 h2 h3 h4 h5
  obtain ⟨f, fd, F, hm, hk, hb⟩ := c.ex
  exact fun w1 g Q _ => toE (pe_call (E := Ref C (bad i) w) F hr hg hm hk hb .nil (passes_call tk fun cls d σ H h => wish σ cls d H h) uA hdb he hpl) (ha w1 g _ fun vs w2 g2 hvs => ⟨i, w2, rfl, hp, by rw [List.append_nil]; exact hvs, fun cls d H' h => h.grow (g.trans g2)⟩)
end
end K27
/-! ## Math4 -/
/-! The mathematics, fourth part: walks over pairs with a length told by its rest. -/
namespace K27
abbrev Kn := Pr × Nat
abbrev Ke := Kn × Option (Kn × Nat)
def kst (T : Tb) (size : Nat) (k : Kn) (d : Nat) : Kn := (pstp T k.1 d, (k.2 + 1) % size)
def kys {β : Type} (kn : List (α × β)) : List α := kn.map (·.1)
theorem kys_len {α β : Type} (kn : List (α × β)) : (kys kn).length = kn.length := List.length_map _
theorem kys_get {α β : Type} {kn : List (α × β)} {i : Nat} {p : α × β} (h : kn[i]? = some p) : (kys kn)[i]? = some p.1 := by
  unfold kys
  rw [List.getElem?_map, h]
  rfl
theorem kys_at {α β : Type} {kn : List (α × β)} {i : Nat} {x : α} (h : (kys kn)[i]? = some x) : ∃ v, kn[i]? = some (x, v) := by
  unfold kys at h
  rw [List.getElem?_map] at h
  cases q : kn[i]? with
  | none =>
    rw [q] at h
    cases h
  | some p =>
    rw [q] at h
    refine ⟨p.2, ?_⟩
    have : p.1 = x := Option.some.inj h
    rw [← this]
theorem kys_snoc {α β : Type} (kn : List (α × β)) (p : α × β) : kys (kn ++ [p]) = kys kn ++ [p.1] := by
  unfold kys
  rw [List.map_append]
  rfl
theorem get_snoc {α : Type} {l : List α} {x y : α} {i : Nat} (h : (l ++ [x])[i]? = some y) : l[i]? = some y ∨ (i = l.length ∧ x = y) := by
  rcases Nat.lt_trichotomy i l.length with q | q | q
  · rw [List.getElem?_append_left q] at h
    exact .inl h
  · subst q
    rw [List.getElem?_append_right (Nat.le_refl _), Nat.sub_self] at h
    exact .inr ⟨rfl, Option.some.inj h⟩
  · rw [List.getElem?_eq_none (by rw [List.length_append, List.length_singleton]; omega)] at h
    cases h
theorem get_keep {α : Type} {l : List α} {x y : α} {i : Nat} (h : l[i]? = some y) : (l ++ [x])[i]? = some y := by
  have := (List.getElem?_eq_some_iff.mp h).1
  rw [List.getElem?_append_left this]
  exact h
theorem nodup_snoc {α : Type} {l : List α} {x : α} (h : l.Nodup) (n : x ∉ l) : (l ++ [x]).Nodup := by
  rw [List.nodup_append]
  refine ⟨h, List.nodup_cons.mpr ⟨fun z => (nomatch z), List.nodup_nil⟩, fun a ha b hb e => ?_⟩
  have : b = x := by simpa using hb
  subst this
  subst e
  exact n ha
/-- what round_walk is asked -/
structure RW where
  T : Tb
  n : Nat
  starts : List Pr
  goals : List Pr
  size : Nat
  rest : Nat
  least : Nat
structure RW.Ok (r : RW) : Prop where
  m : MOk r.T r.n
  st : ∀ x ∈ r.starts, InP r.n x
  nd : r.starts.Nodup
  sl : r.starts.length ≤ 4
  gs : ∀ x ∈ r.goals, InP r.n x
  gl : r.goals.length ≤ 4
  s1 : 1 ≤ r.size
  s2 : r.size ≤ 20
  rs : r.rest < r.size
  ls : r.least ≤ 1
/-- what it hands back -/
def RW.Res (r : RW) : Option (Pr × List Nat) → Prop
  | none => ∀ s ∈ r.starts, ∀ w, Log r.T w → r.least ≤ w.length → prun r.T s w ∈ r.goals → w.length % r.size ≠ r.rest
  | some (x, w) => x ∈ r.starts ∧ Log r.T w ∧ r.least ≤ w.length ∧ prun r.T x w ∈ r.goals ∧ w.length % r.size = r.rest ∧ w.length ≤ 16 * r.size
abbrev RW.hit (r : RW) (k : Kn) : Prop := k.2 = r.rest ∧ k.1 ∈ r.goals
structure BI (r : RW) (kn : List Ke) (goal : Option (Kn × Nat)) (at_ m : Nat) : Prop where
  nd : (kys kn).Nodup
  rg : ∀ k ∈ kys kn, InP r.n k.1 ∧ k.2 < r.size
  st : ∀ x ∈ r.starts, (x, 0) ∈ kys kn
  pn : ∀ k, (k, none) ∈ kn → k.2 = 0 ∧ k.1 ∈ r.starts
  pa : ∀ (i : Nat) (k k' : Kn) (d : Nat), kn[i]? = some (k, some (k', d)) → d < r.T.length ∧ k = kst r.T r.size k' d ∧ ∃ j, j < i ∧ (kys kn)[j]? = some k'
  cl : ∀ (i : Nat) (k : Kn) (d : Nat), (kys kn)[i]? = some k → (i < at_ ∧ d < r.T.length ∨ i = at_ ∧ d < m) → kst r.T r.size k d ∈ kys kn ∧ (goal = none → ¬ r.hit (kst r.T r.size k d))
  go : ∀ (k : Kn) (d : Nat), goal = some (k, d) → k ∈ kys kn ∧ d < r.T.length ∧ r.hit (kst r.T r.size k d)
def kn0 (r : RW) : List Ke := r.starts.map fun x => ((x, 0), none)
theorem kys_kn0 (r : RW) : kys (kn0 r) = r.starts.map fun x => (x, 0) := by
  unfold kys kn0
  rw [List.map_map]
  rfl
theorem BI.start {r : RW} (h : r.Ok) : BI r (kn0 r) none 0 0 where
  nd := by
    rw [kys_kn0]
    refine List.Pairwise.map _ (fun a b (e : a ≠ b) z => e ?_) h.nd
    exact congrArg (fun (q : Kn) => q.1) z
  rg := fun k hk => by
    rw [kys_kn0] at hk
    obtain ⟨x, hx, e⟩ := List.mem_map.mp hk
    subst e
    exact ⟨h.st x hx, h.s1⟩
  st := fun x hx => by
    rw [kys_kn0]
    exact List.mem_map.mpr ⟨x, hx, rfl⟩
  pn := fun k hk => by
    obtain ⟨x, hx, e⟩ := List.mem_map.mp hk
    have e1 : (x, 0) = k := congrArg (fun (q : Ke) => q.1) e
    subst e1
    exact ⟨rfl, hx⟩
  pa := fun i k k' d hi => by
    obtain ⟨x, hx, e⟩ := List.mem_map.mp (List.mem_of_getElem? hi)
    cases e
  cl := fun i k d _ h => by omega
  go := fun k d e => nomatch e
def addE (kn : List Ke) (x : Kn) (v : Option (Kn × Nat)) : List Ke := if x ∈ kys kn then kn else kn ++ [(x, v)]
theorem BI.step {r : RW} (hr : r.Ok) {kn : List Ke} {goal : Option (Kn × Nat)} {a m : Nat} (h : BI r kn goal a m) {k : Kn} (hk : (kys kn)[a]? = some k) (hm : m < r.T.length) :
    BI r (addE kn (kst r.T r.size k m) (some (k, m))) (if r.hit (kst r.T r.size k m) ∧ goal = none then some (k, m) else goal) a (m + 1) := by
  have kin : k ∈ kys kn := List.mem_of_getElem? hk
  have krg := h.rg k kin
  have keep : ∀ x, x ∈ kys kn → x ∈ kys (addE kn (kst r.T r.size k m) (some (k, m))) := fun x hx => by
    unfold addE
    split
    · exact hx
    · rw [kys_snoc]
      exact List.mem_append_left _ hx
  have has : kst r.T r.size k m ∈ kys (addE kn (kst r.T r.size k m) (some (k, m))) := by
    unfold addE
    split
    · assumption
    · rw [kys_snoc]
      simp
  refine ⟨?_, ?_, fun x hx => keep _ (h.st x hx), ?_, ?_, ?_, ?_⟩
  · unfold addE
    split
    · exact h.nd
    · rw [kys_snoc]
      exact nodup_snoc h.nd (by assumption)
  · intro k2 hk2
    unfold addE at hk2
    split at hk2
    · exact h.rg k2 hk2
    · rw [kys_snoc] at hk2
      rcases List.mem_append.mp hk2 with q | q
      · exact h.rg k2 q
      · have e : k2 = kst r.T r.size k m := by simpa using q
        subst e
        exact ⟨hr.m.pstp_in krg.1 hm, Nat.mod_lt _ hr.s1⟩
  · intro k2 hk2
    unfold addE at hk2
    split at hk2
    · exact h.pn k2 hk2
    · rcases List.mem_append.mp hk2 with q | q
      · exact h.pn k2 q
      · simp at q
  · intro i k2 k' d hi
    unfold addE at hi ⊢
    split at hi
    · rw [if_pos (by assumption)]
      exact h.pa i k2 k' d hi
    · rw [if_neg (by assumption), kys_snoc]
      rcases get_snoc hi with q | ⟨q, e⟩
      · obtain ⟨h1, h2, j, hj, h3⟩ := h.pa i k2 k' d q
        exact ⟨h1, h2, j, hj, get_keep h3⟩
      · injection e with e1 e2
        injection e2 with e2
        injection e2 with e2 e3
        subst e1 e2 e3
        refine ⟨hm, rfl, a, ?_, get_keep hk⟩
        have := (List.getElem?_eq_some_iff.mp hk).1
        rw [kys_len] at this
        omega
  · intro i k2 d hi hd
    have old : (kys kn)[i]? = some k2 := by
      unfold addE at hi
      split at hi
      · exact hi
      · rw [kys_snoc] at hi
        rcases get_snoc hi with q | ⟨q, _⟩
        · exact q
        · have := (List.getElem?_eq_some_iff.mp hk).1
          omega
    by_cases now : i = a ∧ d = m
    · obtain ⟨e1, e2⟩ := now
      subst e1 e2
      rw [hk] at old
      have old := Option.some.inj old
      subst old
      refine ⟨has, fun hg hh => ?_⟩
      by_cases q : goal = none
      · rw [if_pos ⟨hh, q⟩] at hg
        cases hg
      · rw [if_neg fun z => q z.2] at hg
        exact q hg
    · obtain ⟨h1, h2⟩ := h.cl i k2 d old (by omega)
      refine ⟨keep _ h1, fun hg => h2 ?_⟩
      split at hg
      · cases hg
      · exact hg
  · intro k2 d hg
    split at hg
    · injection hg with hg
      injection hg with e1 e2
      subst e1 e2
      rename_i hh
      exact ⟨keep _ kin, hm, hh.1⟩
    · obtain ⟨h1, h2, h3⟩ := h.go k2 d hg
      exact ⟨keep _ h1, h2, h3⟩
theorem BI.next {r : RW} {kn : List Ke} {goal : Option (Kn × Nat)} {a : Nat} (h : BI r kn goal a r.T.length) : BI r kn goal (a + 1) 0 :=
  ⟨h.nd, h.rg, h.st, h.pn, h.pa, fun i k d hi hd => h.cl i k d hi (by omega), h.go⟩
theorem BI.small {r : RW} (hr : r.Ok) {kn : List Ke} {goal : Option (Kn × Nat)} {a m : Nat} (h : BI r kn goal a m) : kn.length ≤ 16 * r.size := by
  have n4 := hr.m.n4
  let g : Kn → Nat := fun k => k.2 * 16 + (k.1.1 * 4 + k.1.2)
  have nd : ((kys kn).map g).Nodup := by
    rw [List.nodup_iff_pairwise_ne, List.pairwise_map]
    refine List.Pairwise.imp_of_mem (fun {x y} hx hy ne e => ne ?_) (List.nodup_iff_pairwise_ne.mp h.nd)
    obtain ⟨⟨x1, x2⟩, x3⟩ := x
    obtain ⟨⟨y1, y2⟩, y3⟩ := y
    obtain ⟨⟨a1, a2⟩, _⟩ := h.rg _ hx
    obtain ⟨⟨b1, b2⟩, _⟩ := h.rg _ hy
    have e : x3 * 16 + (x1 * 4 + x2) = y3 * 16 + (y1 * 4 + y2) := e
    have a1 : x1 < r.n := a1
    have a2 : x2 < r.n := a2
    have b1 : y1 < r.n := b1
    have b2 : y2 < r.n := b2
    have h3 : x3 = y3 := by omega
    have h1 : x1 = y1 := by omega
    have h2 : x2 = y2 := by omega
    rw [h1, h2, h3]
  have := dup_of_many ((kys kn).map g) (N := 16 * r.size) (fun v hv => by
    obtain ⟨k, hk, e⟩ := List.mem_map.mp hv
    obtain ⟨⟨a1, a2⟩, a3⟩ := h.rg k hk
    rw [← e]
    show k.2 * 16 + (k.1.1 * 4 + k.1.2) < 16 * r.size
    omega) nd
  rw [List.length_map, kys_len] at this
  exact this
theorem BI.reach {r : RW} (hr : r.Ok) {kn : List Ke} {goal : Option (Kn × Nat)} {a : Nat} (h : BI r kn goal a 0) (ha : kn.length ≤ a) {s : Pr} (hs : s ∈ r.starts) : ∀ (v u : List Nat), (prun r.T s u, u.length % r.size) ∈ kys kn → Log r.T v → (prun r.T s (u ++ v), (u ++ v).length % r.size) ∈ kys kn
  | [], u, h0, _ => by
    rw [List.append_nil]
    exact h0
  | d :: v, u, h0, hv => by
    have e : u ++ d :: v = (u ++ [d]) ++ v := by simp
    rw [e]
    refine BI.reach hr h ha hs v (u ++ [d]) ?_ fun x hx => hv x (List.mem_cons_of_mem _ hx)
    obtain ⟨i, hi⟩ := List.getElem?_of_mem h0
    have hlt := (List.getElem?_eq_some_iff.mp hi).1
    rw [kys_len] at hlt
    have q := (h.cl i _ d hi (.inl ⟨by omega, hv d (by simp)⟩)).1
    unfold kst at q
    rw [prun_snoc]
    rw [Nat.mod_add_mod] at q
    rw [List.length_append]
    exact q
theorem BI.none_ {r : RW} (hr : r.Ok) {kn : List Ke} {a : Nat} (h : BI r kn none a 0) (ha : kn.length ≤ a) {s : Pr} (hs : s ∈ r.starts) {w : List Nat} (hw : Log r.T w) (hne : w ≠ []) (hg : prun r.T s w ∈ r.goals) : w.length % r.size ≠ r.rest := by
  intro e
  obtain ⟨u, d, eu⟩ : ∃ u d, w = u ++ [d] := ⟨w.dropLast, w.getLast hne, (List.dropLast_concat_getLast hne).symm⟩
  subst eu
  have h0 := BI.reach hr h ha hs u [] (by
    have := h.st s hs
    rw [prun_nil]
    have z : ([] : List Nat).length % r.size = 0 := Nat.zero_mod _
    rw [z]
    exact this) hw.left
  rw [List.nil_append] at h0
  obtain ⟨i, hi⟩ := List.getElem?_of_mem h0
  have hlt := (List.getElem?_eq_some_iff.mp hi).1
  rw [kys_len] at hlt
  refine (h.cl i _ d hi (.inl ⟨by omega, hw d (by simp)⟩)).2 rfl ⟨?_, ?_⟩
  · show (u.length % r.size + 1) % r.size = r.rest
    rw [Nat.mod_add_mod, ← e, List.length_append]
    rfl
  · show pstp r.T (prun r.T s u) d ∈ r.goals
    rw [← prun_snoc]
    exact hg
/-- on the way back -/
structure BkI (r : RW) (kn : List Ke) (k : Kn) (us : List Nat) (i : Nat) : Prop where
  at_ : (kys kn)[i]? = some k
  log : Log r.T us
  ne : us ≠ []
  goal : prun r.T k.1 us.reverse ∈ r.goals
  len : (k.2 + us.length) % r.size = r.rest
  few : us.length + i ≤ kn.length
theorem BkI.start {r : RW} {kn : List Ke} {k : Kn} {d a m : Nat} (h : BI r kn (some (k, d)) a m) : ∃ i, BkI r kn k [d] i := by
  obtain ⟨h1, h2, h3⟩ := h.go k d rfl
  obtain ⟨i, hi⟩ := List.getElem?_of_mem h1
  have hlt := (List.getElem?_eq_some_iff.mp hi).1
  rw [kys_len] at hlt
  refine ⟨i, hi, fun x hx => ?_, by simp, h3.2, h3.1, by simp; omega⟩
  have : x = d := by simpa using hx
  rw [this]
  exact h2
theorem BkI.step {r : RW} {kn : List Ke} {goal : Option (Kn × Nat)} {a m : Nat} (h : BI r kn goal a m) {k k' : Kn} {d i : Nat} {us : List Nat} (b : BkI r kn k us i) (hv : kn[i]? = some (k, some (k', d))) : ∃ j, j < i ∧ BkI r kn k' (us ++ [d]) j := by
  obtain ⟨h1, h2, j, hj, h3⟩ := h.pa i k k' d hv
  refine ⟨j, hj, h3, b.log.snoc h1, by simp, ?_, ?_, ?_⟩
  · rw [List.reverse_append]
    show prun r.T k'.1 (d :: us.reverse) ∈ r.goals
    rw [prun_cons]
    have := b.goal
    rw [h2] at this
    exact this
  · have := b.len
    rw [h2] at this
    show (k'.2 + (us ++ [d]).length) % r.size = r.rest
    rw [← this]
    show _ = ((k'.2 + 1) % r.size + us.length) % r.size
    rw [Nat.mod_add_mod, List.length_append]
    congr 1
    simp
    omega
  · rw [List.length_append]
    have := b.few
    simp
    omega
theorem BkI.fin {r : RW} (hr : r.Ok) {kn : List Ke} {goal : Option (Kn × Nat)} {a m : Nat} (h : BI r kn goal a m) {k : Kn} {i : Nat} {us : List Nat} (b : BkI r kn k us i) (hv : (k, none) ∈ kn) : r.Res (some (k.1, us.reverse)) := by
  obtain ⟨h1, h2⟩ := h.pn k hv
  have h3 := h.small hr
  have h4 := b.few
  have h5 := b.len
  have h6 : 1 ≤ us.length := List.length_pos_iff.mpr b.ne
  have h7 := hr.ls
  rw [h1, Nat.zero_add] at h5
  refine ⟨h2, fun x hx => b.log x (List.mem_reverse.mp hx), ?_, b.goal, ?_, ?_⟩
  · rw [List.length_reverse]
    omega
  · rw [List.length_reverse]
    exact h5
  · rw [List.length_reverse]
    omega
end K27
/-! ## Math5 -/
/-! The mathematics, fifth part: the part of a pair's rounds; papers that no number is enough. -/
namespace K27
/-- steps from home, and the edges gone over -/
structure SI (T : Tb) (n : Nat) (home : Pr) (ks : List (Pr × Nat)) (es : List (Pr × Pr)) (at_ m : Nat) : Prop where
  nd : (kys ks).Nodup
  rg : ∀ x ∈ kys ks, InP n x
  hm : ks[0]? = some (home, 0)
  wk : ∀ (i : Nat) (x : Pr) (s : Nat), ks[i]? = some (x, s) → s ≤ i ∧ ∃ w, Log T w ∧ prun T home w = x ∧ w.length = s
  ed : ∀ u v : Pr, (u, v) ∈ es → u ∈ kys ks ∧ v ∈ kys ks ∧ ∃ d, d < T.length ∧ v = pstp T u d
  al : ∀ (i : Nat) (u : Pr) (d : Nat), (kys ks)[i]? = some u → (i < at_ ∧ d < T.length ∨ i = at_ ∧ d < m) → (u, pstp T u d) ∈ es
  el : es.length = at_ * T.length + m
theorem SI.start {T : Tb} {n : Nat} {home : Pr} (h : InP n home) : SI T n home [(home, 0)] [] 0 0 where
  nd := List.nodup_cons.mpr ⟨fun z => (nomatch z), List.nodup_nil⟩
  rg := fun x hx => by
    have : x = home := by simpa [kys] using hx
    rw [this]
    exact h
  hm := rfl
  wk := fun i x s hi => by
    cases i with
    | zero =>
      have := Option.some.inj hi
      injection this with e1 e2
      subst e1 e2
      exact ⟨Nat.le_refl _, [], Log.nil T, rfl, rfl⟩
    | succ i => cases hi
  ed := fun u v h => nomatch h
  al := fun i u d _ h => by omega
  el := by simp
def addS (ks : List (Pr × Nat)) (x : Pr) (s : Nat) : List (Pr × Nat) := if x ∈ kys ks then ks else ks ++ [(x, s)]
theorem SI.step {T : Tb} {n : Nat} (M : MOk T n) {home : Pr} {ks : List (Pr × Nat)} {es : List (Pr × Pr)} {a m : Nat} (h : SI T n home ks es a m) {x : Pr} {s : Nat} (hx : ks[a]? = some (x, s)) (hm : m < T.length) :
    SI T n home (addS ks (pstp T x m) (s + 1)) (es ++ [(x, pstp T x m)]) a (m + 1) := by
  have kx := kys_get hx
  have xin : x ∈ kys ks := List.mem_of_getElem? kx
  have xrg := h.rg x xin
  have alt := (List.getElem?_eq_some_iff.mp hx).1
  have keep : ∀ y, y ∈ kys ks → y ∈ kys (addS ks (pstp T x m) (s + 1)) := fun y hy => by
    unfold addS
    split
    · exact hy
    · rw [kys_snoc]
      exact List.mem_append_left _ hy
  have has : pstp T x m ∈ kys (addS ks (pstp T x m) (s + 1)) := by
    unfold addS
    split
    · assumption
    · rw [kys_snoc]
      simp
  refine ⟨?_, ?_, ?_, ?_, ?_, ?_, ?_⟩
  · unfold addS
    split
    · exact h.nd
    · rw [kys_snoc]
      exact nodup_snoc h.nd (by assumption)
  · intro y hy
    unfold addS at hy
    split at hy
    · exact h.rg y hy
    · rw [kys_snoc] at hy
      rcases List.mem_append.mp hy with q | q
      · exact h.rg y q
      · have e : y = pstp T x m := by simpa using q
        subst e
        exact M.pstp_in xrg hm
  · unfold addS
    split
    · exact h.hm
    · exact get_keep h.hm
  · intro i y t hi
    unfold addS at hi
    split at hi
    · exact h.wk i y t hi
    · rcases get_snoc hi with q | ⟨q, e⟩
      · exact h.wk i y t q
      · injection e with e1 e2
        obtain ⟨h1, w, h2, h3, h4⟩ := h.wk a x s hx
        subst e1 e2 q
        refine ⟨by omega, w ++ [m], h2.snoc hm, ?_, ?_⟩
        · rw [prun_snoc, h3]
        · rw [List.length_append, h4]
          rfl
  · intro u v huv
    rcases List.mem_append.mp huv with q | q
    · obtain ⟨h1, h2, h3⟩ := h.ed u v q
      exact ⟨keep _ h1, keep _ h2, h3⟩
    · have e : (u, v) = (x, pstp T x m) := by simpa using q
      injection e with e1 e2
      subst e1 e2
      exact ⟨keep _ xin, has, m, hm, rfl⟩
  · intro i u d hi hd
    have old : (kys ks)[i]? = some u := by
      unfold addS at hi
      split at hi
      · exact hi
      · rw [kys_snoc] at hi
        rcases get_snoc hi with q | ⟨q, _⟩
        · exact q
        · rw [kys_len] at q
          omega
    by_cases now : i = a ∧ d = m
    · obtain ⟨e1, e2⟩ := now
      subst e1 e2
      rw [kx] at old
      have old := Option.some.inj old
      subst old
      exact List.mem_append_right _ (by simp)
    · exact List.mem_append_left _ (h.al i u d old (by omega))
  · rw [List.length_append, h.el]
    exact Nat.add_assoc _ _ _
theorem SI.next {T : Tb} {n : Nat} {home : Pr} {ks : List (Pr × Nat)} {es : List (Pr × Pr)} {a : Nat} (h : SI T n home ks es a T.length) : SI T n home ks es (a + 1) 0 :=
  ⟨h.nd, h.rg, h.hm, h.wk, h.ed, fun i u d hi hd => h.al i u d hi (by omega), by rw [h.el, Nat.succ_mul]; rfl⟩
theorem few_prs {n : Nat} (n4 : n ≤ 4) {l : List Pr} (nd : l.Nodup) (rg : ∀ x ∈ l, InP n x) : l.length ≤ 16 := by
  let g : Pr → Nat := fun k => k.1 * 4 + k.2
  have nd2 : (l.map g).Nodup := by
    rw [List.nodup_iff_pairwise_ne, List.pairwise_map]
    refine List.Pairwise.imp_of_mem (fun {x y} hx hy ne e => ne ?_) (List.nodup_iff_pairwise_ne.mp nd)
    obtain ⟨a1, a2⟩ := rg x hx
    obtain ⟨b1, b2⟩ := rg y hy
    have e : x.1 * 4 + x.2 = y.1 * 4 + y.2 := e
    exact Prod.ext (by omega) (by omega)
  have := dup_of_many (l.map g) (N := 16) (fun v hv => by
    obtain ⟨k, hk, e⟩ := List.mem_map.mp hv
    obtain ⟨a1, a2⟩ := rg k hk
    rw [← e]
    show k.1 * 4 + k.2 < 16
    omega) nd2
  rw [List.length_map] at this
  exact this
theorem SI.small {T : Tb} {n : Nat} (M : MOk T n) {home : Pr} {ks : List (Pr × Nat)} {es : List (Pr × Pr)} {a m : Nat} (h : SI T n home ks es a m) : ks.length ≤ 16 := by
  have := few_prs M.n4 h.nd h.rg
  rw [kys_len] at this
  exact this
/-- all that is led to -/
theorem SI.reach {T : Tb} {n : Nat} {home : Pr} {ks : List (Pr × Nat)} {es : List (Pr × Pr)} {a : Nat} (h : SI T n home ks es a 0) (ha : ks.length ≤ a) : ∀ (v u : List Nat), prun T home u ∈ kys ks → Log T v → prun T home (u ++ v) ∈ kys ks
  | [], u, h0, _ => by
    rw [List.append_nil]
    exact h0
  | d :: v, u, h0, hv => by
    have e : u ++ d :: v = (u ++ [d]) ++ v := by simp
    rw [e]
    refine SI.reach h ha v (u ++ [d]) ?_ fun x hx => hv x (List.mem_cons_of_mem _ hx)
    obtain ⟨i, hi⟩ := List.getElem?_of_mem h0
    have hlt := (List.getElem?_eq_some_iff.mp hi).1
    rw [kys_len] at hlt
    rw [prun_snoc]
    exact (h.ed _ _ (h.al i _ d hi (.inl ⟨by omega, hv d (by simp)⟩))).2.1
theorem SI.all {T : Tb} {n : Nat} {home : Pr} {ks : List (Pr × Nat)} {es : List (Pr × Pr)} {a : Nat} (h : SI T n home ks es a 0) (ha : ks.length ≤ a) {u : Pr} (hu : u ∈ kys ks) {d : Nat} (hd : d < T.length) : (u, pstp T u d) ∈ es := by
  obtain ⟨i, hi⟩ := List.getElem?_of_mem hu
  have hlt := (List.getElem?_eq_some_iff.mp hi).1
  rw [kys_len] at hlt
  exact h.al i _ d hi (.inl ⟨by omega, hd⟩)
/-- the pairs that lead home, so far -/
structure BkS (T : Tb) (home : Pr) (ks : List Pr) (bk : List Pr) : Prop where
  nd : bk.Nodup
  hm : home ∈ bk
  inn : ∀ x ∈ bk, x ∈ ks
  wk : ∀ x ∈ bk, ∃ w, Log T w ∧ prun T x w = home
theorem BkS.start {T : Tb} {home : Pr} {ks : List Pr} (h : home ∈ ks) : BkS T home ks [home] where
  nd := List.nodup_cons.mpr ⟨fun z => (nomatch z), List.nodup_nil⟩
  hm := by simp
  inn := fun x hx => by
    have : x = home := by simpa using hx
    rw [this]
    exact h
  wk := fun x hx => by
    have : x = home := by simpa using hx
    exact ⟨[], Log.nil T, this⟩
theorem BkS.add {T : Tb} {home : Pr} {ks bk : List Pr} (h : BkS T home ks bk) {u v : Pr} (hu : u ∈ ks) (hv : v ∈ bk) {d : Nat} (hd : d < T.length) (e : v = pstp T u d) (nu : u ∉ bk) : BkS T home ks (bk ++ [u]) where
  nd := nodup_snoc h.nd nu
  hm := List.mem_append_left _ h.hm
  inn := fun x hx => by
    rcases List.mem_append.mp hx with q | q
    · exact h.inn x q
    · have : x = u := by simpa using q
      rw [this]
      exact hu
  wk := fun x hx => by
    rcases List.mem_append.mp hx with q | q
    · exact h.wk x q
    · have ex : x = u := by simpa using q
      subst ex
      obtain ⟨w, h1, h2⟩ := h.wk v hv
      refine ⟨d :: w, fun y hy => ?_, ?_⟩
      · rcases List.mem_cons.mp hy with q | q
        · rw [q]
          exact hd
        · exact h1 y q
      · rw [prun_cons, ← e]
        exact h2
theorem BkS.closed {T : Tb} {home : Pr} {ks bk : List Pr} {es : List (Pr × Pr)} (h : BkS T home ks bk) (hc : ∀ u v : Pr, (u, v) ∈ es → v ∈ bk → u ∈ bk) (hk : ∀ u ∈ ks, ∀ d, d < T.length → (u, pstp T u d) ∈ es ∧ pstp T u d ∈ ks) : ∀ (w : List Nat) (x : Pr), x ∈ ks → Log T w → prun T x w = home → x ∈ bk
  | [], x, _, _, e => by
    have e : x = home := e
    rw [e]
    exact h.hm
  | d :: w, x, hx, hw, e => by
    have hd := hw d (by simp)
    obtain ⟨h1, h2⟩ := hk x hx d hd
    exact hc _ _ h1 (BkS.closed h hc hk w _ h2 (fun y hy => hw y (List.mem_cons_of_mem _ hy)) (by rw [← prun_cons]; exact e))
def stOf (ks : List (Pr × Nat)) (x : Pr) : Nat := ((ks.find? fun p => decide (p.1 = x)).map (·.2)).getD 0
theorem stOf_at {ks : List (Pr × Nat)} (nd : (kys ks).Nodup) {x : Pr} {s : Nat} (h : (x, s) ∈ ks) : stOf ks x = s := by
  induction ks with
  | nil => cases h
  | cons p ks ih =>
    unfold stOf
    rw [List.find?_cons]
    have nd' : (p.1 :: kys ks).Nodup := nd
    rw [List.nodup_cons] at nd'
    by_cases e : p.1 = x
    · rw [decide_eq_true e]
      rcases List.mem_cons.mp h with q | q
      · rw [← q]
        rfl
      · refine absurd ?_ nd'.1
        rw [e]
        exact List.mem_map.mpr ⟨_, q, rfl⟩
    · rw [decide_eq_false e]
      rcases List.mem_cons.mp h with q | q
      · rw [← q] at e
        exact absurd rfl e
      · exact ih nd'.2 q
/-- what an edge tells -/
def edG (ks : List (Pr × Nat)) (u v : Pr) : Nat := Int.natAbs ((stOf ks u : Int) + 1 - (stOf ks v : Int))
theorem is_part {T : Tb} {n : Nat} (M : MOk T n) {home : Pr} {ks : List (Pr × Nat)} {es : List (Pr × Pr)} {a : Nat} (h : SI T n home ks es a 0) (ha : ks.length ≤ a) {bk : List Pr} (b : BkS T home (kys ks) bk) (hc : ∀ u v : Pr, (u, v) ∈ es → v ∈ bk → u ∈ bk)
    {f : Nat} (h1 : ∀ u v : Pr, (u, v) ∈ es → u ∈ bk → v ∈ bk → f ∣ edG ks u v) (h2 : ∀ g, (∀ u v : Pr, (u, v) ∈ es → u ∈ bk → v ∈ bk → g ∣ edG ks u v) → g ∣ f) : IsPart T home f := by
  have hk : ∀ u ∈ kys ks, ∀ d, d < T.length → (u, pstp T u d) ∈ es ∧ pstp T u d ∈ kys ks := fun u hu d hd => ⟨h.all ha hu hd, (h.ed _ _ (h.all ha hu hd)).2.1⟩
  have hin : home ∈ kys ks := b.inn _ b.hm
  have both : ∀ x, Both T home x ↔ x ∈ kys ks ∧ x ∈ bk := by
    intro x
    constructor
    · rintro ⟨⟨w, hw, e⟩, w2, hw2, e2⟩
      have k := SI.reach h ha w [] hin hw
      rw [List.nil_append, e] at k
      exact ⟨k, b.closed hc hk w2 x k hw2 e2⟩
    · rintro ⟨hx, hb⟩
      obtain ⟨i, hi⟩ := List.getElem?_of_mem hx
      obtain ⟨s, hs⟩ := kys_at hi
      obtain ⟨_, w, h1, h2, _⟩ := h.wk i x s hs
      exact ⟨⟨w, h1, h2⟩, b.wk x hb⟩
  have dv : ∀ (g : Nat) (u v : Pr), g ∣ edG ks u v ↔ (g : Int) ∣ (stOf ks u : Int) + 1 - (stOf ks v : Int) := fun g u v => by
    unfold edG
    rw [← Int.natCast_dvd_natCast, Int.dvd_natAbs]
  refine ⟨stOf ks, stOf_at h.nd (List.mem_of_getElem? h.hm), fun x hx => ?_, fun u e he b1 b2 => ?_, fun g hg => h2 g fun u v huv hu hv => ?_⟩
  · obtain ⟨i, hi⟩ := List.getElem?_of_mem ((both x).mp hx).1
    obtain ⟨s, hs⟩ := kys_at hi
    obtain ⟨_, w, h1, h2, h3⟩ := h.wk i x s hs
    exact ⟨w, h1, h2, by rw [h3, stOf_at h.nd (List.mem_of_getElem? hs)]⟩
  · obtain ⟨u1, u2⟩ := (both u).mp b1
    exact (dv _ _ _).mp (h1 _ _ (hk u u1 e he).1 u2 ((both _).mp b2).2)
  · obtain ⟨k1, k2, d, hd, e⟩ := h.ed u v huv
    subst e
    exact (dv _ _ _).mpr (hg u d hd ((both u).mpr ⟨k1, hu⟩) ((both _).mpr ⟨k2, hv⟩))
theorem edG_small {T : Tb} {n : Nat} (M : MOk T n) {home : Pr} {ks : List (Pr × Nat)} {es : List (Pr × Pr)} {a m : Nat} (h : SI T n home ks es a m) {u v : Pr} (hu : u ∈ kys ks) (hv : v ∈ kys ks) : edG ks u v ≤ 16 ∧ stOf ks u ≤ 15 ∧ stOf ks v ≤ 15 := by
  have hs := h.small M
  have st : ∀ x ∈ kys ks, stOf ks x ≤ 15 := fun x hx => by
    obtain ⟨i, hi⟩ := List.getElem?_of_mem hx
    obtain ⟨s, hs2⟩ := kys_at hi
    rw [stOf_at h.nd (List.mem_of_getElem? hs2)]
    have h1 := (h.wk i x s hs2).1
    have h2 := (List.getElem?_eq_some_iff.mp hs2).1
    omega
  have h1 := st u hu
  have h2 := st v hv
  unfold edG
  exact ⟨by omega, h1, h2⟩
/-! ### papers -/
/-- a paper that no number is enough -/
structure Pap where
  p : Nat
  q : Nat
  a : List Nat
  r : List Nat
  f : List Nat
structure Pap.Ok (T : Tb) (n : Nat) (d : Pap) : Prop where
  pn : d.p < n
  qn : d.q < n
  la : Log T d.a
  lr : Log T d.r
  lf : Log T d.f
  za : d.a.length ≤ 10000
  zr : d.r.length ≤ 10000
  zf : d.f.length ≤ 10000
  ne : d.r ≠ []
  sz : (d.a.length + d.f.length) % d.r.length = 0
  rd : prun T (prun T (d.p, d.q) d.a) d.r = prun T (d.p, d.q) d.a
  e2 : (prun T (prun T (d.p, d.q) d.a) d.f).2 = d.p
  e1 : (prun T (prun T (d.p, d.q) d.a) d.f).1 ≠ d.p
end K27
/-! ## Defs10 -/
/-! A paper that a number is not enough, or none. -/
namespace K27
open PySem L2 PySem.Spec PyProof.Rows
theorem fp_some {d : WArg} {m L : Nat} {bo : Option Nat} (m1 : 1 ≤ m) (h : fpOf d m bo = some L) : pB d L = true ∧ L ≤ lastOf d m bo := by
  unfold fpOf fpS at h
  have h1 := List.find?_some h
  have h2 := List.mem_of_find?_eq_some h
  obtain ⟨j, hj, e⟩ := List.mem_map.mp h2
  rw [List.mem_range] at hj
  refine ⟨h1, ?_⟩
  rw [← e]
  exact (Nat.le_div_iff_mul_le m1).mp hj
theorem vals_app {vs zs : List V} {us ws : List Value} (h : Vals vs us) (h2 : Vals zs ws) : Vals (vs ++ zs) (us ++ ws) := by
  induction h with
  | nil => exact h2
  | cons a t ih => exact .cons a ih
structure PArg where
  T : Tb
  n : Nat
  So : Option (List Nat)
  m : Nat
structure PArg.Ok (i : PArg) : Prop where
  mo : MOk i.T i.n
  l : LotOk i.n i.So
  m1 : 1 ≤ i.m
  m2 : i.m ≤ 12
def PArg.en (i : PArg) : Prop := Enough i.T i.n (lotOf i.n i.So) i.m none
/-- none just if p -/
abbrev noneIf (K : PySem.W.Frag) (p : Prop) : Ty := some_ (fun d : PyData => d = .none ↔ p) (dat K)
theorem isn_if {K : PySem.W.Frag} {p : Prop} {c : Bool} (h : c = true ↔ p) : Isn (noneIf K p) c := fun v G ⟨d, hd, hv⟩ => by
  cases c with
  | true => exact isn_none v G (by rw [← hd.mpr (h.mp rfl)]; exact hv)
  | false =>
    refine isn_dat (fun e => ?_) v G hv
    exact nomatch h.mpr (hd.mp e)
section
variable {P : Program} {w : World} {K : PySem.W.Frag} {mg : Str → Option Value} {base : Heap}
abbrev CWpap (P : Program) (w : World) (K : PySem.W.Frag) (mg : Str → Option Value) (base : Heap) (M : Addr) : Prop := KCal P w K mg base 7 "wrap_paper" swrap_paper kwSB p_wpaper (spOf PArg.Ok (fun i => [mchT K M i.T i.n, dat K (.int (i.m : Nat)), dat K (lotD i.So), dat K .none]) (fun i => noneIf K i.en))
theorem c_wpap {M C : Addr} (D : KDefAt K mg "wrap_paper" swrap_paper kwSB) (B : Bu mg) (KC : Kls K C wFn) (CN : CNmod P w K mg base) (CW : CWalks P w K mg base M C) (CB : CBound P w K mg base) (CF : CFirst P w K mg base C) (CI : CPini P w K mg base M C) (CL : CBack P w K mg base M C) : CWpap P w K mg base M :=
  kdef_ok (N := n_wpaper) D sc_wpaper (fun _ => rfl) fun f cdv A outer s H E i w0 Q σ hr hp S q => by
    obtain ⟨T, n, So, m⟩ := i
    obtain ⟨hM, L, m1, m2⟩ := hp
    have hM : MOk T n := hM
    have L : LotOk n So := L
    have m1 : 1 ≤ m := m1
    have m2 : m ≤ 12 := m2
    have n4 := hM.n4
    have l4 := L.lot_len n4
    have okd : ∀ p ∈ lotOf n So, (wkA T n p).Ok := fun p hp => wkA_ok hM (L.lot_lt hp)
    have hu : (A.deeper (envOfC "wrap_paper" (defScope swrap_paper) s.heap.objs.size f cdv)).units + 64 < cLine := hr.units
    have enI : (∀ p ∈ lotOf n So, fpOf (wkA T n p) m none = none) ↔ Enough T n (lotOf n So) m none :=
      ⟨fun h p hp => (fp_enough (okd p hp) m1 fun b (e : (none : Option Nat) = some b) => nomatch e).mp (h p hp), fun h p hp => (fp_enough (okd p hp) m1 fun b (e : (none : Option Nat) = some b) => nomatch e).mpr (h p hp)⟩
    have q : ∀ v w', Grow w0 w' → (noneIf K (Enough T n (lotOf n So) m none)).p v w'.G → Q v w'.H := q
    show wS _ (_ :: _) _ _ _
    refine w_drop (call_c CN (hr.mono (by decide)) m ⟨m1, by omega⟩ (ac (nm 1 S) a0)) fun w1 g1 => ?_
    have S1 := S.mono g1.g
    refine w_set (τ := lstT K ((lotOf n So).map fun p => walkT K C (wkA T n p))) 4 sc_wpaper.nd S1 (call_c CW (hr.mono (by decide)) (T, n, So) ⟨hM, L⟩ (ac (nm 0 S1) (ac (nm 2 S1) a0))) fun σ2 w2 g2 S2 => ?_
    refine w_drop (call_c CB (hr.mono (by decide)) none (fun b e => nomatch e) (ac (nm 3 S2) a0)) fun w3 g3 => ?_
    have S3 := S2.mono g3.g
    have G3 := (g1.trans g2).trans g3
    refine w_setLc 5 S3 (lcMV (xs := lotOf n So) (κ := fun p => walkT K C (wkA T n p)) [("walk", 11)] 11 (fun p => tupT K [dat K (optD (fpOf (wkA T n p) m none)), dat K (.int (p : Nat))]) rfl sc_wpaper.nd S3 (iv_list (nm 4 S3)) (by omega)
      (fun i p σ2 w4 hp g4 S4 s0 H0 C0 cl fp => tup_ (ac (call_c CF (hr.mono (by decide)) (wkA T n p, m, none) ⟨okd p (List.mem_of_getElem? hp), m1, (by show m ≤ 1000000; omega), fun b e => nomatch e⟩ (ac (nm 11 S4) (ac (nm 1 S4) (ac (nm 3 S4) a0)))) (ac (fld_c (nm 11 S4) KC (by simp) rfl) a0)))) fun σ4 w4 g4 S4 => ?_
    refine w_setLc 6 S4 (lcifMV (xs := lotOf n So) (κ := fun p => tupT K [dat K (optD (fpOf (wkA T n p) m none)), dat K (.int (p : Nat))]) [("one", 12)] 12 (fun p => !(fpOf (wkA T n p) m none).isNone) (fun p => dat K (prD ((fpOf (wkA T n p) m none).getD 0, p))) rfl sc_wpaper.nd S4 (iv_list (nm 5 S4)) (by omega)
      (fun i p σ2 w4 hp g4 S4 s0 H0 C0 cl fp => t_notN (ixT (nm 12 S4) ci (atI_nat (i := 0) rfl)) isn_opt)
      (fun i p σ2 w4 hp hb g4 S4 s0 H0 C0 cl fp => ofT (eqTu ?_ (nm 12 S4)))) fun σ5 w5 g5 S5 => ?_
    · cases q9 : fpOf (wkA T n p) m none with
      | none =>
        rw [q9] at hb
        cases hb
      | some L9 => rfl
    have G5 := (G3.trans g4).trans g5
    refine w_when (b := decide ((((lotOf n So).filter fun p => !(fpOf (wkA T n p) m none).isNone).length : Int) = 0)) (eqT ?_ (t_eqI (lenL B.len_ (nm 6 S5)) ci)) (fun hb w6 g6 => ?_) (fun hb w6 g6 => ?_)
    · rw [List.length_map]
    · have hb := of_decide_eq_true hb
      have hz : (lotOf n So).filter (fun p => !(fpOf (wkA T n p) m none).isNone) = [] := List.length_eq_zero_iff.mp (by omega)
      have en : Enough T n (lotOf n So) m none := enI.mp fun p hp => by
        have := List.filter_eq_nil_iff.mp hz p hp
        cases q9 : fpOf (wkA T n p) m none with
        | none => rfl
        | some L9 => exact absurd (by rw [q9]; rfl) this
      exact w_ret cn fun v w7 g7 hv => q v w7 ((G5.trans g6).trans g7) ⟨.none, ⟨fun _ => en, fun _ => rfl⟩, hv⟩
    · have hb := of_decide_eq_false hb
      have S6 := S5.mono g6.g
      have hne : (lotOf n So).filter (fun p => !(fpOf (wkA T n p) m none).isNone) ≠ [] := fun z => hb (by rw [z]; rfl)
      have nen : ¬ Enough T n (lotOf n So) m none := fun en => by
        obtain ⟨p, hp⟩ := List.exists_mem_of_ne_nil _ hne
        obtain ⟨h1, h2⟩ := List.mem_filter.mp hp
        rw [enI.mpr en p h1] at h2
        cases h2
      refine w_unpS (Pp := fun z => z ∈ ((lotOf n So).filter fun p => !(fpOf (wkA T n p) m none).isNone).map fun p => ((fpOf (wkA T n p) m none).getD 0, p)) (κ1 := fun z => dat K (.int (z.1 : Nat))) (κ2 := fun z => dat K (.int (z.2 : Nat))) 7 8 rfl sc_wpaper.nd S6 (Ev.imp (minP (l := ((lotOf n So).filter fun p => !(fpOf (wkA T n p) m none).isNone).map fun p => ((fpOf (wkA T n p) m none).getD 0, p)) rfl hu B.min_ (fun z => hne (List.map_eq_nil_iff.mp z)) (eqL ?_ (nm 6 S6))) fun v G ⟨z, hz, hv⟩ => ⟨z, hz, dat_tuple.mp hv⟩) fun z σ7 w7 hz g7 S7 => ?_
      · rw [List.map_map, List.map_map]
        rfl
      obtain ⟨p, hp, ez⟩ := List.mem_map.mp hz
      obtain ⟨hpl, hps⟩ := List.mem_filter.mp hp
      obtain ⟨L0, eL⟩ : ∃ L0, fpOf (wkA T n p) m none = some L0 := by
        cases q9 : fpOf (wkA T n p) m none with
        | none =>
          rw [q9] at hps
          cases hps
        | some L9 => exact ⟨L9, rfl⟩
      rw [eL] at ez
      subst ez
      have hd := okd p hpl
      obtain ⟨hpb, hle⟩ := fp_some m1 eL
      have hlen := hd.k.len
      have hL9 : L0 ≤ 900000 := by
        have h1 : m / Nat.gcd m (wkA T n p).c * (wkA T n p).c ≤ 12 * 65537 := Nat.mul_le_mul (Nat.le_trans (Nat.div_le_self _ _) m2) (by omega)
        have h2 : lastOf (wkA T n p) m none = (wkA T n p).e + m / Nat.gcd m (wkA T n p).c * (wkA T n p).c := rfl
        omega
      refine w_unpS (Pp := fun _ : Nat × List Nat => True) (κ1 := fun z => dat K (.int (z.1 : Nat))) (κ2 := fun z => dat K (.tuple (natsD z.2))) 9 10 rfl sc_wpaper.nd S7 (call_c CL (hr.mono (by decide)) (wkA T n p, L0) ⟨hd, hpb, hL9⟩ (ac (nm 0 S7) (ac (make_c CI (hr.mono (by decide)) (wkA T n p) hd (ac (nm 0 S7) (ac (nm 8 S7) a0))) (ac (nm 7 S7) a0)))) fun z σ8 w8 _ g8 S8 => ?_
      refine w_ret (τ := dat K (.tuple [.str "wrap", .int (p : Nat), .int (z.1 : Nat), .tuple (natsD z.2)])) (tupD (ds := [.str "wrap", .int (p : Nat), .int (z.1 : Nat), .tuple (natsD z.2)]) (ac cs (ac (nm 8 S8) (ac (nm 9 S8) (ac (nm 10 S8) a0))))) fun v w9 g9 hv => q v w9 ((((G5.trans g6).trans g7).trans g8).trans g9) ?_
      exact ⟨.tuple [.str "wrap", .int (p : Nat), .int (z.1 : Nat), .tuple (natsD z.2)], ⟨fun h => (nomatch h), fun h => absurd h nen⟩, hv⟩
abbrev CIsen (P : Program) (w : World) (K : PySem.W.Frag) (mg : Str → Option Value) (base : Heap) (M : Addr) : Prop := KCal P w K mg base 8 "is_enough" sis_enough kwSB p_enough (spOf (fun i : PArg × Bool => i.1.Ok ∧ (i.2 = true ↔ i.1.en)) (fun i => [mchT K M i.1.T i.1.n, dat K (.int (i.1.m : Nat)), dat K (lotD i.1.So), dat K .none]) (fun i => dat K (.bool i.2)))
theorem c_isen {M : Addr} (D : KDefAt K mg "is_enough" sis_enough kwSB) (CP : CWpap P w K mg base M) : CIsen P w K mg base M :=
  kdef_ok (N := n_enough) D sc_enough (fun _ => rfl) fun f cdv A outer s H E i w0 Q σ hr hp S q => by
    obtain ⟨i, c⟩ := i
    obtain ⟨ho, hc⟩ := hp
    have ho : i.Ok := ho
    have hc : c = true ↔ i.en := hc
    show wS _ (_ :: _) _ _ _
    refine w_ret (isN (kcall 2 [] (fun vs _ zs => vs ++ zs) CP (hr.mono (by decide)) i ho (ac (nm 0 S) (ac (nm 1 S) a0)) (kc (nm 2 S) (kc (nm 3 S) k0)) rfl (fun q h => nomatch h) (by simp) (fun vs zs G h1 h2 => Tys.append h1 h2) (fun h1 h2 h3 => vals_app h1 h3) ?_ rfl) (isn_if hc)) q
    intro D doc pm an cdv ct us mv ws h1 h2 h3
    match us, mv, ws, h1, h2, h3 with
    | [_, _], [], [_, _], _, _, _ => exact rfl
end
end K27
/-! ## Defs11 -/
/-! Walks over pairs to a goal. -/
namespace K27
open PySem L2 PySem.Spec PyProof.Rows
def knD (k : Kn) : PyData := .tuple [prD k.1, .int (k.2 : Nat)]
abbrev knN (k : Kn) : List NK := [prK k.1, .num (k.2 : Nat)]
def knK (k : Kn) : NK := .tup (knN k)
theorem knK_data (k : Kn) : NestedKey.data (knK k) = knD k := by
  unfold knK knD
  simp [NestedKey.data, NestedKey.datas, prK_data]
theorem knK_depth (k : Kn) : (knK k).depth ≤ 8 := by
  unfold knK
  simp [NestedKey.depth, NestedKey.depthAll, prK]
theorem knK_inj {x y : Kn} (h : knK x = knK y) : x = y := by
  unfold knK at h
  injection h with h
  injection h with h1 h2
  injection h2 with h2 _
  injection h2 with h2
  exact Prod.ext (prK_inj h1) (by omega)
def edD (p : Kn × Nat) : PyData := .tuple [knD p.1, .int (p.2 : Nat)]
def oeD : Option (Kn × Nat) → PyData
  | none => .none
  | some p => edD p
def kvR (kn : List Ke) : List (NK × PyData) := kn.map fun p => (knK p.1, oeD p.2)
theorem kvR_get (kn : List Ke) (k : Kn) : (gt? (kvR kn) (knK k)).isSome = decide (k ∈ kys kn) := by
  rw [gt_isSome]
  congr 1
  unfold kvR kys
  rw [List.map_map]
  apply propext
  constructor
  · intro h
    obtain ⟨y, hy, e⟩ := List.mem_map.mp h
    exact List.mem_map.mpr ⟨y, hy, knK_inj e⟩
  · intro h
    obtain ⟨y, hy, e⟩ := List.mem_map.mp h
    exact List.mem_map.mpr ⟨y, hy, by rw [← e]; rfl⟩
theorem kvR_at : ∀ {kn : List Ke}, (kys kn).Nodup → ∀ {k : Kn} {v : Option (Kn × Nat)}, (k, v) ∈ kn → gt? (kvR kn) (knK k) = some (oeD v)
  | [], _, k, v, h => nomatch h
  | p :: kn, nd, k, v, h => by
    have nd : (p.1 :: kys kn).Nodup := nd
    rw [List.nodup_cons] at nd
    show gt? ((knK p.1, oeD p.2) :: kvR kn) (knK k) = _
    rw [gt_cons]
    rcases List.mem_cons.mp h with q | q
    · rw [← q, if_pos rfl]
    · rw [if_neg fun e => nd.1 (by
        have e : p.1 = k := knK_inj e
        rw [e]
        exact List.mem_map.mpr ⟨_, q, rfl⟩)]
      exact kvR_at nd.2 q
theorem kvR_new {kn : List Ke} {k : Kn} {v : Option (Kn × Nat)} (h : k ∉ kys kn) : ptK (kvR kn) (knK k) (oeD v) = kvR (kn ++ [(k, v)]) := by
  have h1 := kvR_get kn k
  rw [decide_eq_false h] at h1
  rw [ptK_new (by cases q : gt? (kvR kn) (knK k) with
    | none => rfl
    | some z => rw [q] at h1; cases h1)]
  unfold kvR
  rw [List.map_append]
  rfl
theorem dcs_starts {xs : List Pr} (nd : xs.Nodup) : dcs (fun x => knN (x, 0)) (fun _ => PyData.none) xs = kvR (xs.map fun x => ((x, 0), none)) := by
  have go : ∀ (ys xs : List Pr), (xs ++ ys).Nodup → ys.foldl (fun a x => ptK a (.tup (knN (x, 0))) PyData.none) (kvR (xs.map fun x => ((x, 0), none))) = kvR ((xs ++ ys).map fun x => ((x, 0), none)) := by
    intro ys
    induction ys with
    | nil =>
      intro xs _
      rw [List.append_nil]
      rfl
    | cons y ys ih =>
      intro xs nd
      rw [List.foldl_cons]
      have e : ptK (kvR (xs.map fun x => ((x, 0), none))) (.tup (knN (y, 0))) PyData.none = kvR ((xs ++ [y]).map fun x => ((x, 0), none)) := by
        have := kvR_new (kn := xs.map fun x => ((x, 0), none)) (k := (y, 0)) (v := none) (fun h => by
          unfold kys at h
          rw [List.map_map] at h
          obtain ⟨z, hz, e⟩ := List.mem_map.mp h
          have e : z = y := congrArg (fun (q : Kn) => q.1) e
          subst e
          rw [List.nodup_append] at nd
          exact nd.2.2 z hz z (by simp) rfl)
        rw [List.map_append]
        exact this
      rw [e, ih (xs ++ [y]) (by rw [List.append_assoc]; exact nd), List.append_assoc]
      rfl
  exact go xs [] nd
theorem addE_in {kn : List Ke} {k : Kn} {v} (h : k ∈ kys kn) : addE kn k v = kn := if_pos h
theorem addE_out {kn : List Ke} {k : Kn} {v} (h : k ∉ kys kn) : addE kn k v = kn ++ [(k, v)] := if_neg h
def rwD : Option (Pr × List Nat) → PyData
  | none => .none
  | some (x, u) => .tuple [prD x, .tuple (natsD u)]
section
variable {P : Program} {w : World} {K : PySem.W.Frag} {mg : Str → Option Value} {base : Heap}
abbrev rwR (K : PySem.W.Frag) (r : RW) : Ty := some_ (fun o => r.Res o) fun o => dat K (rwD o)
abbrev CRound (P : Program) (w : World) (K : PySem.W.Frag) (mg : Str → Option Value) (base : Heap) : Prop := Cal P w K mg base 1 "round_walk" p_round (spOf RW.Ok
  (fun r => [dat K (tbD r.T), dat K (.list (r.starts.map prD)), dat K (.list (r.goals.map prD)), dat K (.int (r.size : Nat)), dat K (.int (r.rest : Nat)), dat K (.int (r.least : Nat))]) (fun r => rwR K r))
theorem isn_oe {K : PySem.W.Frag} {o : Option (Kn × Nat)} : Isn (dat K (oeD o)) o.isNone := by
  cases o with
  | none => exact isn_none
  | some i => exact isn_dat (by intro h; cases h)
theorem kn_at0 (k : Kn) : atI ([prD k.1, .int (k.2 : Nat)] : List PyData) 0 = some (prD k.1) := atI_nat (i := 0) rfl
theorem kn_at1 (k : Kn) : atI ([prD k.1, .int (k.2 : Nat)] : List PyData) 1 = some (.int (k.2 : Nat)) := atI_nat (i := 1) rfl
theorem c_round (D : DefAt K mg "round_walk" sround_walk p_round) (B : Bu mg) : CRound P w K mg base :=
  def_ok (N := n_round) D sc_round (fun _ => rfl) fun f cdv A outer s H E r w0 Q σ hr hp S q => by
    obtain ⟨T, n, starts, goals, size, rest, least⟩ := r
    have hp : RW.Ok ⟨T, n, starts, goals, size, rest, least⟩ := hp
    have hM : MOk T n := hp.m
    have hst : ∀ x ∈ starts, InP n x := hp.st
    have hnd : starts.Nodup := hp.nd
    have hsl : starts.length ≤ 4 := hp.sl
    have hgl : goals.length ≤ 4 := hp.gl
    have s1 : 1 ≤ size := hp.s1
    have s2 : size ≤ 20 := hp.s2
    have hrs : rest < size := hp.rs
    have hls : least ≤ 1 := hp.ls
    have hu : (A.deeper (envOfC "round_walk" (defScope sround_walk) s.heap.objs.size f cdv)).units + 64 < cLine := hr.units
    have hu65 := room65 hr
    show wS _ (_ :: _) _ _ _
    refine w_dcM (xs := starts) (κ := fun x => dat K (prD x)) 6 [("pair", 11)] 11 (fun x => knN (x, 0)) (fun _ => .none) hu rfl sc_round.nd S (eqI_ (by rw [List.map_map]; rfl) (ivL (nm 1 S))) (by omega) (fun z _ => knK_depth (z, 0))
      (fun i y σ2 w4 hy g4 S4 s0 H0 C0 cl fp => eqE (knK_data (y, 0)).symm (tupD (ds := [prD y, .int (0 : Nat)]) (ac (nm 11 S4) (ac ci a0)))) (fun i y σ2 w4 hy g4 S4 s0 H0 C0 cl fp => cn) fun σ1 w1 d g1 hd0 od1 S1 => ?_
    rw [dcs_starts hnd] at od1
    have ekn : (starts.map fun x => (((x, 0), none) : Ke)) = kn0 ⟨T, n, starts, goals, size, rest, least⟩ := rfl
    rw [ekn] at od1
    have lkn : (kn0 ⟨T, n, starts, goals, size, rest, least⟩).length = starts.length := by unfold kn0; rw [List.length_map]
    refine w_listD 7 rfl sc_round.nd S1 B.list_ (nm 6 S1) od1 (by unfold kvR; rw [List.length_map, lkn]; omega) fun σ2 w2 l vs2 g2 hl0 ol2 ht2 S2 => ?_
    have hl00 : w0.H l = none := g1.h.free hl0
    have nld : l ≠ d := fun z => by
      subst z
      obtain ⟨u, hu1, _⟩ := od1.at_
      rw [hl0] at hu1
      cases hu1
    have od2 := od1.grow g2
    have ht2 : Tys ((kys (kn0 ⟨T, n, starts, goals, size, rest, least⟩)).map fun k => dat K (knD k)) vs2 w2.G := by
      have e : ((kvR (kn0 ⟨T, n, starts, goals, size, rest, least⟩)).map fun q => dat K q.1.data) = (kys (kn0 ⟨T, n, starts, goals, size, rest, least⟩)).map fun k => dat K (knD k) := by
        unfold kvR kys
        rw [List.map_map, List.map_map]
        refine List.map_congr_left fun p _ => ?_
        show dat K (NestedKey.data (knK p.1)) = dat K (knD p.1)
        rw [knK_data]
      rw [← e]
      exact ht2
    refine w_set (τ := dat K (.int (0 : Nat))) 8 sc_round.nd S2 ci fun σ3 w3 g3 S3 => ?_
    refine w_set (τ := dat K (oeD none)) 9 sc_round.nd S3 cn fun σ4 w4 g4 S4 => ?_
    have ol4 := (ol2.grow g3).grow g4
    have od4 := (od2.grow g3).grow g4
    have ht4 := (ht2.mono g3.g).mono g4.g
    have G4 := ((g1.trans g2).trans g3).trans g4
    -- the rest, where no start is a goal by itself
    have go : (least = 0 → rest = 0 → ∀ x ∈ starts, x ∉ goals) → ∀ σ5 w5, Grow w0 w5 → Own w5 l (.lst vs2) → OwnD P w K w5 d (kvR (kn0 ⟨T, n, starts, goals, size, rest, least⟩)) → Tys ((kys (kn0 ⟨T, n, starts, goals, size, rest, least⟩)).map fun k => dat K (knD k)) vs2 w5.G →
        Sl w5.G σ5 [some (dat K (tbD T)), some (dat K (.list (starts.map prD))), some (dat K (.list (goals.map prD))), some (dat K (.int (size : Nat))), some (dat K (.int (rest : Nat))), some (dat K (.int (least : Nat))), some (ex (.ref d)), some (ex (.ref l)), some (dat K (.int (0 : Nat))), some (dat K (oeD none)), none, none, none, none, none, none, none] →
        wS (BX P w K mg base n_round "round_walk" sround_walk f cdv A outer s H E) ((defBody sround_walk).drop 5) { nx := fun _ H' => Q .non H', rt := Q } σ5 w5.H := by
      intro hno σ5 w5 g5 ol5 od5 ht5 S5
      show wS _ (_ :: _) _ _ _
      let R : RW := ⟨T, n, starts, goals, size, rest, least⟩
      let J : Nat → L2.St → Wd → Prop := fun m σ w' => ∃ (kn : List Ke) (goal : Option (Kn × Nat)) (a : Nat), m + a = 16 * size ∧ a ≤ kn.length ∧ BI R kn goal a 0 ∧ Grow w0 w' ∧
        Sl w'.G σ [some (dat K (tbD T)), some (dat K (.list (starts.map prD))), some (dat K (.list (goals.map prD))), some (dat K (.int (size : Nat))), some (dat K (.int (rest : Nat))), some (dat K (.int (least : Nat))), some (ex (.ref d)), some (ex (.ref l)), some (dat K (.int (a : Nat))), some (dat K (oeD goal)), none, none, none, none, none, none, none] ∧
        OwnD P w K w' d (kvR kn) ∧ ∃ vs, Own w' l (.lst vs) ∧ Tys ((kys kn).map fun k => dat K (knD k)) vs w'.G
      have J0 : J (16 * size) σ5 w5 := ⟨_, none, 0, rfl, Nat.zero_le _, BI.start hp, g5, S5, od5, vs2, ol5, ht5⟩
      refine w_while (D := { nx := fun _ H' => Q .non H', rt := Q }) PassesOwn.never J _ J0 fun m σ' w' hJ => ?_
      obtain ⟨kn, goal, a, ema, hak, hB, gJ, SJ, odJ, vs, olJ, htJ⟩ := hJ
      have lvs : vs.length = kn.length := by rw [htJ.length, List.length_map, kys_len]
      refine ⟨decide (a < kn.length) && goal.isNone, ww (and' (eqT ?_ (t_lt (nm 8 SJ) (Own.lst_len (K := K) B.len_ (nm 7 SJ) olJ))) fun _ => and1 (t_isN (nm 9 SJ) isn_oe)), fun hb w6 g6 => ?_, fun hb w6 g6 => ?_⟩
      · rw [lvs]
        by_cases h : a < kn.length
        · rw [decide_eq_true h, decide_eq_true (by omega)]
        · rw [decide_eq_false h, decide_eq_false (by omega)]
      · rw [Bool.and_eq_true, decide_eq_true_eq] at hb
        obtain ⟨hlt, hgn⟩ := hb
        have hgn : goal = none := Option.isNone_iff_eq_none.mp hgn
        subst hgn
        have S6 := SJ.mono g6.g
        have od6 := odJ.grow g6
        have ol6 := olJ.grow g6
        have ht6 := htJ.mono g6.g
        have G6 := gJ.trans g6
        obtain ⟨k, hk⟩ : ∃ k, (kys kn)[a]? = some k := ⟨(kys kn)[a]'(by rw [kys_len]; exact hlt), List.getElem?_eq_getElem _⟩
        obtain ⟨hkin, hk2⟩ := hB.rg k (List.mem_of_getElem? hk)
        refine w_unp2 (τ1 := dat K (prD k.1)) (τ2 := dat K (.int (k.2 : Nat))) 11 12 rfl sc_round.nd S6 (asT (xs := [prD k.1, .int (k.2 : Nat)]) (ixO (nm 7 S6) ol6 ht6 (nm 8 S6) (atI_nat (by rw [List.getElem?_map, hk]; rfl)))) fun σ7 w7 g7 S7 => ?_
        refine w_inc (n := (a : Nat)) (m := 1) 8 sc_round.nd S7 rfl ci fun σ8 w8 g8 S8 => ?_
        have od8 := (od6.grow g7).grow g8
        have ol8 := (ol6.grow g7).grow g8
        have ht8 := (ht6.mono g7.g).mono g8.g
        have G8 := (G6.trans g7).trans g8
        refine w_for2 (D := { nx := fun σ3 H3 => ∃ m' w3, m' < m ∧ w3.H = H3 ∧ J m' σ3 w3, rt := Q, ct := fun σ3 H3 => ∃ m' w3, m' < m ∧ w3.H = H3 ∧ J m' σ3 w3, bk := wS _ _ _ }) 13 14 rfl PassesOwn.never sc_round.nd (iv_enumT B.enumerate_ (asT (xs := T.map rowD) (nm 0 S8)))
          (fun j σ w' => ∃ (kn : List Ke) (goal : Option (Kn × Nat)), a < kn.length ∧ (kys kn)[a]? = some k ∧ BI R kn goal a j ∧ Grow w0 w' ∧
            Sl w'.G σ [some (dat K (tbD T)), some (dat K (.list (starts.map prD))), some (dat K (.list (goals.map prD))), some (dat K (.int (size : Nat))), some (dat K (.int (rest : Nat))), some (dat K (.int (least : Nat))), some (ex (.ref d)), some (ex (.ref l)), some (dat K (.int ((a + 1 : Nat) : Nat))), some (dat K (oeD goal)), none, some (dat K (prD k.1)), some (dat K (.int (k.2 : Nat))), none, none, none, none] ∧
            OwnD P w K w' d (kvR kn) ∧ ∃ vs, Own w' l (.lst vs) ∧ Tys ((kys kn).map fun k => dat K (knD k)) vs w'.G)
          (fun w' g => ⟨kn, none, hlt, hk, hB, G8.trans g, S8.mono g.g, od8.grow g, vs, ol8.grow g, ht8.mono g.g⟩) (fun j τ σ' w9 w10 hτ hI g10 => ?_) (fun σ' w' hI => ?_)
        · obtain ⟨kn, goal, hlt, hk, hB, gI, SI, odI, vs, olI, htI⟩ := hI
          rw [List.getElem?_mapIdx, List.getElem?_map, List.getElem?_map] at hτ
          cases q3 : T[j]? with
          | none =>
            rw [q3] at hτ
            cases hτ
          | some t =>
            rw [q3] at hτ
            have e4 : τ = tupT K [dat K (.int (j : Nat)), dat K (rowD t)] := (Option.some.inj hτ).symm
            refine ⟨_, _, e4, fun u1 u2 k1 k2 => ?_⟩
            have S10 := ((SI.mono g10.g).put k1 13).put k2 14
            have od10 := odI.grow g10
            have ol10 := olI.grow g10
            have ht10 := htI.mono g10.g
            have G10 := gI.trans g10
            have htm : t ∈ T := List.mem_of_getElem? q3
            have ltn := hM.len t htm
            have hjT : j < T.length := (List.getElem?_eq_some_iff.mp q3).1
            have egt : T.getD j [] = t := by
              rw [List.getD_eq_getElem?_getD, q3]
              rfl
            have ekst : kst T size k j = ((t.getD k.1.1 0, t.getD k.1.2 0), (k.2 + 1) % size) := by
              unfold kst pstp stp
              rw [egt]
            refine w_set (τ := dat K (knD (kst T size k j))) 15 sc_round.nd S10 (eqE (by rw [ekst]; rfl) (tupD (ds := [prD (t.getD k.1.1 0, t.getD k.1.2 0), .int ((k.2 + 1) % size : Nat)]) (ac (tupD (ds := [.int (t.getD k.1.1 0 : Nat), .int (t.getD k.1.2 0 : Nat)]) (ac (ixTD (nm 14 S10) (ixTD (xs := [.int (k.1.1 : Nat), .int (k.1.2 : Nat)]) (nm 11 S10) ci (pr_at0 k.1)) (row_at (row_get ltn hkin.1))) (ac (ixTD (nm 14 S10) (ixTD (xs := [.int (k.1.1 : Nat), .int (k.1.2 : Nat)]) (nm 11 S10) ci (pr_at1 k.1)) (row_at (row_get ltn hkin.2))) a0)))
              (ac (eqE ?_ (imod (add (nm 12 S10) ci) (nm 3 S10) (by omega))) a0)))) fun σ11 w11 g11 S11 => ?_
            · show PyData.int (((k.2 : Int) + 1) % (size : Int)) = .int (((k.2 + 1) % size : Nat) : Int)
              rw [Int.natCast_emod, Int.natCast_add]
              rfl
            have od11 := od10.grow g11
            have ol11 := ol10.grow g11
            have ht11 := ht10.mono g11.g
            have G11 := G10.trans g11
            have hstep := hB.step hp hk hjT
            refine w_ifset (τ0 := dat K (oeD goal)) (τ1 := dat K (oeD (some (k, j)))) (τ2 := dat K (oeD (if R.hit (kst T size k j) ∧ goal = none then some (k, j) else goal))) (b := decide (R.hit (kst T size k j)) && goal.isNone) 9 sc_round.nd S11 rfl
              (eqT (c := decide ((kst T size k j).2 = rest) && (decide ((kst T size k j).1 ∈ goals) && goal.isNone)) ?_ (ww (and' (eqT (dec_nat _ _) (t_eqI (ixTD (xs := [prD (kst T size k j).1, .int ((kst T size k j).2 : Nat)]) (nm 15 S11) ci (kn_at1 _)) (nm 4 S11))) fun _ => and' (t_inP hu65 (ixTD (xs := [prD (kst T size k j).1, .int ((kst T size k j).2 : Nat)]) (nm 15 S11) ci (kn_at0 _)) (nm 2 S11)) fun _ => and1 (t_isN (nm 9 S11) isn_oe))))
              (fun _ w' g' => ?_) (fun hb => ?_) (fun hb => ?_) fun σ12 w12 g12 S12 => ?_
            · rw [← Bool.and_assoc]
              congr 1
              rw [Bool.eq_iff_iff, Bool.and_eq_true, decide_eq_true_eq, decide_eq_true_eq, decide_eq_true_eq]
            · have S' := S11.mono g'.g
              exact tupD (ds := [knD k, .int (j : Nat)]) (ac (tupD (ds := [prD k.1, .int (k.2 : Nat)]) (ac (nm 11 S') (ac (nm 12 S') a0))) (ac (nm 13 S') a0))
            · rw [Bool.and_eq_true, decide_eq_true_eq] at hb
              rw [if_pos ⟨hb.1, Option.isNone_iff_eq_none.mp hb.2⟩]
            · rw [if_neg]
              rintro ⟨z1, z2⟩
              rw [decide_eq_true z1, z2] at hb
              cases hb
            have od12 := od11.grow g12
            have ol12 := ol11.grow g12
            have ht12 := ht11.mono g12.g
            have G12 := G11.trans g12
            have lvs : vs.length = kn.length := by rw [ht12.length, List.length_map, kys_len]
            have lk := hB.small hp
            have lk : kn.length ≤ 16 * size := lk
            refine w_when (b := !decide (kst T size k j ∈ kys kn)) (eqT (by rw [show NestedKey.tup (knN (kst T size k j)) = knK (kst T size k j) from rfl, kvR_get]) (t_dnotin (ks := knN (kst T size k j)) hu (eqE (knK_data _).symm (nm 15 S12)) (knK_depth _) (nm 6 S12) od12)) (fun hb w13 g13 => ?_) (fun hb w13 g13 => wS_nil ?_)
            · have hb : kst T size k j ∉ kys kn := by
                intro z
                rw [decide_eq_true z] at hb
                cases hb
              have S13 := S12.mono g13.g
              rw [addE_out hb] at hstep
              refine w_dput (ks := knN (kst T size k j)) (dv := oeD (some (k, j))) hu (tupD (ds := [knD k, .int (j : Nat)]) (ac (tupD (ds := [prD k.1, .int (k.2 : Nat)]) (ac (nm 11 S13) (ac (nm 12 S13) a0))) (ac (nm 13 S13) a0))) (nm 6 S13) (eqE (knK_data _).symm (nm 15 S13)) (knK_depth _) (od12.grow g13) (by unfold kvR; rw [List.length_map]; omega) fun w14 g14 o14 n14 od14 => ?_
              rw [show NestedKey.tup (knN (kst T size k j)) = knK (kst T size k j) from rfl, kvR_new hb] at od14
              have G14 : Grow w0 (w14.lay d o14 n14) := ((G12.trans g13).trans g14).change hd0
              have S14 : Sl (w14.lay d o14 n14).G σ12 _ := S13.mono g14.g
              have ol14 : Own (w14.lay d o14 n14) l (.lst vs) := ((ol12.grow g13).grow g14).other nld
              have ht14 : Tys _ vs (w14.lay d o14 n14).G := ht12.mono (g13.g.trans g14.g)
              refine w_app (τ := dat K (knD (kst T size k j))) (nm 7 S14) ol14 (nm 15 S14) (by omega) fun v15 w15 g15 hv15 ol15 => wS_nil (wS_nil ?_)
              refine ⟨w15.lay l (.lst (vs ++ [v15])) ol15.free, rfl, (((g11.g.trans g12.g).trans g13.g).trans g14.g).trans g15.g, _, _, ?_, ?_, hstep, (G14.trans g15).change hl00, (((S14.mono g15.g).forget 13).forget 14).forget 15, (od14.grow g15).other (Ne.symm nld), vs ++ [v15], Own.self, ?_⟩
              · rw [List.length_append]
                omega
              · rw [kys_snoc]
                exact get_keep hk
              · rw [kys_snoc, List.map_append]
                exact (ht14.mono g15.g).append (.cons hv15 .nil)
            · have hb : kst T size k j ∈ kys kn := by
                cases q9 : decide (kst T size k j ∈ kys kn) with
                | true => exact of_decide_eq_true q9
                | false => rw [q9] at hb; cases hb
              rw [addE_in hb] at hstep
              exact ⟨w13, rfl, ((g11.g.trans g12.g).trans g13.g), _, _, hlt, hk, hstep, G12.trans g13, (((S12.mono g13.g).forget 13).forget 14).forget 15, od12.grow g13, vs, ol12.grow g13, ht12.mono g13.g⟩
        · obtain ⟨kn, goal, hlt, hk, hB, gI, SI, odI, vs, olI, htI⟩ := hI
          rw [List.length_mapIdx, List.length_map, List.length_map] at hB
          have lk : kn.length ≤ 16 * size := hB.small hp
          exact wS_nil ⟨16 * size - (a + 1), w', by omega, rfl, kn, goal, a + 1, by omega, hlt, hB.next, gI, (SI.forget 11).forget 12, odI, vs, olI, htI⟩
      · have S6 := SJ.mono g6.g
        have od6 := odJ.grow g6
        have G6 := gJ.trans g6
        cases goal with
        | none =>
          have hak2 : a = kn.length := by
            by_cases h : a < kn.length
            · rw [decide_eq_true h] at hb
              cases hb
            · omega
          refine w_when (b := true) (t_isN (nm 9 S6) isn_oe) (fun _ w7 g7 => w_ret cn fun v w8 g8 hv => q v w8 ((G6.trans g7).trans g8) ⟨none, ?_, hv⟩) (fun h => nomatch h)
          show ∀ x ∈ starts, ∀ u, Log T u → least ≤ u.length → prun T x u ∈ goals → u.length % size ≠ rest
          intro x hx u hlu hle hgo
          by_cases hue : u = []
          · subst hue
            intro e
            rw [List.length_nil, Nat.zero_mod] at e
            have hle : least ≤ 0 := hle
            exact hno (by omega) e.symm x hx hgo
          · exact hB.none_ hp (by omega) hx hlu hue hgo
        | some g =>
          obtain ⟨k, dd_⟩ := g
          refine w_when (b := false) (t_isN (nm 9 S6) isn_oe) (fun h => nomatch h) (fun _ w7 g7 => ?_)
          have S7 := S6.mono g7.g
          refine w_newlist 16 (τs := [dat K (.int (dd_ : Nat))]) sc_round.nd S7 (ac (ixTD (xs := [knD k, .int (dd_ : Nat)]) (nm 9 S7) ci (atI_nat (i := 1) rfl)) a0) (by show 1 ≤ sizeLine; decide) fun σ8 w8 l2 vs8 g8 hl20 ol8 ht8 S8 => ?_
          have G7 := G6.trans g7
          have hl200 : w0.H l2 = none := G7.h.free hl20
          have od8 := (od6.grow g7).grow g8
          have nd2 : l2 ≠ d := fun z => by
            subst z
            obtain ⟨u, hu1, _⟩ := (od6.grow g7).at_
            rw [hl20] at hu1
            cases hu1
          refine w_set (τ := dat K (knD k)) 15 sc_round.nd S8 (ixTD (xs := [knD k, .int (dd_ : Nat)]) (nm 9 S8) ci (atI_nat (i := 0) rfl)) fun σ9 w9 g9 S9 => ?_
          obtain ⟨i0, hb0⟩ := BkI.start hB
          have lk : kn.length ≤ 16 * size := hB.small hp
          refine w_while (D := { nx := fun _ H' => Q .non H', rt := Q }) PassesOwn.never (fun i σ w' => ∃ (k : Kn) (us : List Nat), BkI R kn k us i ∧ Grow w0 w' ∧
            Sl w'.G σ [some (dat K (tbD T)), some (dat K (.list (starts.map prD))), some (dat K (.list (goals.map prD))), some (dat K (.int (size : Nat))), some (dat K (.int (rest : Nat))), some (dat K (.int (least : Nat))), some (ex (.ref d)), some (ex (.ref l)), none, none, none, none, none, none, none, some (dat K (knD k)), some (ex (.ref l2))] ∧
            OwnD P w K w' d (kvR kn) ∧ ∃ vs, Own w' l2 (.lst vs) ∧ Tys (us.map fun (u : Nat) => dat K (.int u)) vs w'.G) i0 ⟨k, [dd_], hb0, (G7.trans g8).trans g9, (((((S9.forget 8).forget 9).forget 11).forget 12).forget 13).forget 14, od8.grow g9, vs8, ol8.grow g9, ht8.mono g9.g⟩ fun i σ' w' ⟨k, us, hb, gK, SK, odK, vs, olK, htK⟩ => ?_
          obtain ⟨v, hv⟩ := kys_at hb.at_
          have hget : gt? (kvR kn) (.tup (knN k)) = some (oeD v) := kvR_at hB.nd (List.mem_of_getElem? hv)
          refine ⟨!v.isNone, t_notN (dget (ks := knN k) hu (nm 6 SK) odK (eqE (knK_data _).symm (nm 15 SK)) (knK_depth _) hget) isn_oe, fun hvs w10 g10 => ?_, fun hvs w10 g10 => ?_⟩
          · cases v with
            | none => cases hvs
            | some e =>
              obtain ⟨k', d'⟩ := e
              obtain ⟨j, hj, hb'⟩ := hb.step hB hv
              have S10 := SK.mono g10.g
              refine w_unp2 (τ1 := dat K (knD k')) (τ2 := dat K (.int (d' : Nat))) 15 13 rfl sc_round.nd S10 (asT (xs := [knD k', .int (d' : Nat)]) (dget (ks := knN k) hu (nm 6 S10) (odK.grow g10) (eqE (knK_data _).symm (nm 15 S10)) (knK_depth _) hget)) fun σ11 w11 g11 S11 => ?_
              have lus := hb.few
              have lv : vs.length = us.length := by rw [htK.length, List.length_map]
              refine w_app (τ := dat K (.int (d' : Nat))) (nm 16 S11) ((olK.grow g10).grow g11) (nm 13 S11) (by omega) fun v12 w12 g12 hv12 ol12 => wS_nil ⟨j, _, hj, rfl, k', us ++ [d'], hb', (((gK.trans g10).trans g11).trans g12).change hl200, (S11.mono g12.g).forget 13, (((odK.grow g10).grow g11).grow g12).other (Ne.symm nd2), vs ++ [v12], Own.self, ?_⟩
              rw [List.map_append]
              exact (htK.mono ((g10.g.trans g11.g).trans g12.g)).append (.cons hv12 .nil)
          · cases v with
            | some e => cases hvs
            | none =>
              have S10 := SK.mono g10.g
              have hres := hb.fin hp hB (List.mem_of_getElem? hv)
              refine w_ret (τ := tupT K [dat K (prD k.1), dat K (.tuple (natsD us.reverse))]) (tup_ (ac (ixTD (xs := [prD k.1, .int (k.2 : Nat)]) (nm 15 S10) ci (kn_at0 k)) (ac (ofT (eqTu ?_ (revO rfl B.tuple_ B.reversed_ (nm 16 S10) (olK.grow g10) (htK.mono g10.g)))) a0))) fun v w2 g2 hv => q v w2 ((gK.trans g10).trans g2) ⟨some (k.1, us.reverse), hres, dat_tuple.mpr hv⟩
              unfold natsD
              rw [← List.map_reverse, List.map_map]
              rfl
    -- the question ahead
    refine w_if (b := decide (least = 0) && decide (rest = 0)) (ww (and' (eqT (dec_nat _ _) (t_eqI (nm 5 S4) ci)) fun _ => and1 (eqT (dec_nat _ _) (t_eqI (nm 4 S4) ci)))) (fun hb w5 g5 => ?_) (fun hb w5 g5 => wS_nil ?_)
    · rw [Bool.and_eq_true, decide_eq_true_eq, decide_eq_true_eq] at hb
      have S5 := S4.mono g5.g
      have od5 := od4.grow g5
      have ol5 := ol4.grow g5
      have ht5 := ht4.mono g5.g
      have G5 := G4.trans g5
      refine w_setLc 10 S5 (lcifGMV (xs := kys (kn0 ⟨T, n, starts, goals, size, rest, least⟩)) (κ := fun k => dat K (knD k)) [("knot", 15)] 15 (fun k => decide (k.1 ∈ goals)) (fun k => dat K (knD k)) rfl sc_round.nd S5 (ivg_own (nm 7 S5) ol5 ht5) (by rw [kys_len, lkn]; omega)
        (fun i y σ2 w4 hy g4 S4 s0 H0 C cl fp => t_inP hu65 (ixTD (xs := [prD y.1, .int (y.2 : Nat)]) (nm 15 S4) ci (kn_at0 _)) (nm 2 S4)) (fun i y σ2 w4 hy hb g4 S4 s0 H0 C cl fp => nm 15 S4)) fun σ6 w6 g6 S6 => ?_
      have hf0 : (kys (kn0 ⟨T, n, starts, goals, size, rest, least⟩)).filter (fun k => decide (k.1 ∈ goals)) = (starts.filter fun x => decide (x ∈ goals)).map fun x => (x, 0) := by
        rw [kys_kn0, List.filter_map]
        rfl
      rw [hf0] at S6
      cases hfs : starts.filter fun x => decide (x ∈ goals) with
      | nil =>
        rw [hfs] at S6
        refine w_set (τ := dat K (oeD none)) 9 sc_round.nd S6 (ifF (eqT (by rfl) (t_gt (lenL (τs := (([] : List Pr).map fun x => ((x, 0) : Kn)).map fun k => dat K (knD k)) B.len_ (nm 10 S6)) ci)) cn) fun σ7 w7 g7 S7 => ?_
        refine w_when (b := false) (eqT (c := !(none : Option (Kn × Nat)).isNone) rfl (t_notN (nm 9 S7) isn_oe)) (fun h => nomatch h) (fun _ w8 g8 => wS_nil ?_)
        refine go (fun _ _ x hx hg => ?_) _ w8 (((G5.trans g6).trans g7).trans g8) (((ol5.grow g6).grow g7).grow g8) (((od5.grow g6).grow g7).grow g8) (((ht5.mono g6.g).mono g7.g).mono g8.g) (((S7.mono g8.g).forget 10))
        have : x ∈ starts.filter fun x => decide (x ∈ goals) := List.mem_filter.mpr ⟨hx, decide_eq_true hg⟩
        rw [hfs] at this
        cases this
      | cons x r =>
        rw [hfs] at S6
        have hx : x ∈ starts.filter fun x => decide (x ∈ goals) := by rw [hfs]; simp
        obtain ⟨hx1, hx2⟩ := List.mem_filter.mp hx
        refine w_set (τ := dat K (knD (x, 0))) 9 sc_round.nd S6 (ifT (eqT (decide_eq_true (by rw [List.length_map, List.length_map, List.length_cons]; omega)) (t_gt (lenL (τs := ((x :: r).map fun x => ((x, 0) : Kn)).map fun k => dat K (knD k)) B.len_ (nm 10 S6)) ci)) (ixL (τs := ((x :: r).map fun x => ((x, 0) : Kn)).map fun k => dat K (knD k)) (nm 10 S6) ci (atI_nat (i := 0) rfl))) fun σ7 w7 g7 S7 => ?_
        refine w_when (b := true) (t_notN (nm 9 S7) (isn_dat (by intro h; cases h))) (fun _ w8 g8 => ?_) (fun h => nomatch h)
        have S8 := S7.mono g8.g
        refine w_ret (τ := dat K (rwD (some (x, [])))) (tupD (ds := [prD x, .tuple []]) (ac (ixTD (xs := [prD x, .int (0 : Nat)]) (nm 9 S8) ci (kn_at0 (x, 0))) (ac (tupD (ds := []) a0) a0))) fun v w9 g9 hv => q v w9 ((((G5.trans g6).trans g7).trans g8).trans g9) ⟨some (x, []), ?_, hv⟩
        show x ∈ starts ∧ Log T [] ∧ least ≤ 0 ∧ prun T x [] ∈ goals ∧ 0 % size = rest ∧ 0 ≤ 16 * size
        exact ⟨hx1, Log.nil T, by omega, of_decide_eq_true hx2, by rw [Nat.zero_mod]; exact hb.2.symm, Nat.zero_le _⟩
    · refine go (fun h1 h2 => ?_) _ w5 (G4.trans g5) (ol4.grow g5) (od4.grow g5) (ht4.mono g5.g) (S4.mono g5.g)
      rw [h1, h2] at hb
      cases hb
end
end K27
/-! ## Defs12 -/
/-! The part of a pair's rounds. -/
namespace K27
open PySem L2 PySem.Spec PyProof.Rows
def kvS (ks : List (Pr × Nat)) : List (NK × PyData) := ks.map fun p => (prK p.1, .int (p.2 : Nat))
theorem kvS_get (ks : List (Pr × Nat)) (x : Pr) : (gt? (kvS ks) (prK x)).isSome = decide (x ∈ kys ks) := by
  rw [gt_isSome]
  congr 1
  unfold kvS kys
  rw [List.map_map]
  apply propext
  constructor
  · intro h
    obtain ⟨y, hy, e⟩ := List.mem_map.mp h
    exact List.mem_map.mpr ⟨y, hy, prK_inj e⟩
  · intro h
    obtain ⟨y, hy, e⟩ := List.mem_map.mp h
    exact List.mem_map.mpr ⟨y, hy, by rw [← e]; rfl⟩
theorem kvS_at : ∀ {ks : List (Pr × Nat)}, (kys ks).Nodup → ∀ {x : Pr} {s : Nat}, (x, s) ∈ ks → gt? (kvS ks) (prK x) = some (.int (s : Nat))
  | [], _, k, v, h => nomatch h
  | p :: ks, nd, k, v, h => by
    have nd : (p.1 :: kys ks).Nodup := nd
    rw [List.nodup_cons] at nd
    show gt? ((prK p.1, .int (p.2 : Nat)) :: kvS ks) (prK k) = _
    rw [gt_cons]
    rcases List.mem_cons.mp h with q | q
    · rw [← q, if_pos rfl]
    · rw [if_neg fun e => nd.1 (by
        have e : p.1 = k := prK_inj e
        rw [e]
        exact List.mem_map.mpr ⟨_, q, rfl⟩)]
      exact kvS_at nd.2 q
theorem kvS_new {ks : List (Pr × Nat)} {x : Pr} {s : Nat} (h : x ∉ kys ks) : ptK (kvS ks) (prK x) (.int (s : Nat)) = kvS (ks ++ [(x, s)]) := by
  have h1 := kvS_get ks x
  rw [decide_eq_false h] at h1
  rw [ptK_new (by cases q : gt? (kvS ks) (prK x) with
    | none => rfl
    | some z => rw [q] at h1; cases h1)]
  unfold kvS
  rw [List.map_append]
  rfl
theorem kvS_st {ks : List (Pr × Nat)} (nd : (kys ks).Nodup) {x : Pr} (h : x ∈ kys ks) : gt? (kvS ks) (prK x) = some (.int (stOf ks x : Nat)) := by
  obtain ⟨i, hi⟩ := List.getElem?_of_mem h
  obtain ⟨s, hs⟩ := kys_at hi
  have hm := List.mem_of_getElem? hs
  rw [kvS_at nd hm, stOf_at nd hm]
section
variable {P : Program} {w : World} {K : PySem.W.Frag} {mg : Str → Option Value} {base : Heap}
abbrev edT (K : PySem.W.Frag) (e : Pr × Pr) : Ty := tupT K [dat K (prD e.1), dat K (prD e.2)]
abbrev paR (K : PySem.W.Frag) (T : Tb) (home : Pr) : Ty := some_ (fun f : Nat => IsPart T home f ∧ f ≤ 16) fun f => dat K (.int (f : Nat))
abbrev CPart (P : Program) (w : World) (K : PySem.W.Frag) (mg : Str → Option Value) (base : Heap) : Prop := Cal P w K mg base 2 "rounds_part" p_part (spOf (fun d : Tb × Nat × Pr => MOk d.1 d.2.1 ∧ InP d.2.1 d.2.2)
  (fun d => [dat K (tbD d.1), dat K (prD d.2.2)]) (fun d => paR K d.1 d.2.2))
theorem c_part (D : DefAt K mg "rounds_part" srounds_part p_part) (B : Bu mg) (CD : CCdiv P w K mg base) : CPart P w K mg base :=
  def_ok (N := n_part) D sc_part (fun _ => rfl) fun f cdv A outer s H E d w0 Q σ hr hp S q => by
    obtain ⟨T, n, home⟩ := d
    obtain ⟨hM, hh⟩ := hp
    have hM : MOk T n := hM
    have hh : InP n home := hh
    have d3 := hM.d3
    have hu : (A.deeper (envOfC "rounds_part" (defScope srounds_part) s.heap.objs.size f cdv)).units + 64 < cLine := hr.units
    show wS _ (_ :: _) _ _ _
    refine w_disp1 (ks := prN home) (dv := .int (0 : Nat)) 2 sc_part.nd S hu (eqE (prK_data home).symm (nm 1 S)) (prK_depth home) ci fun σ1 w1 ds g1 hs0 os1 S1 => ?_
    have os1 : OwnD P w K w1 ds (kvS [(home, 0)]) := os1
    refine w_newlist 3 (τs := [dat K (prD home)]) sc_part.nd S1 (ac (nm 1 S1) a0) (by show 1 ≤ sizeLine; decide) fun σ2 w2 lw vs2 g2 hw0 ow2 tw2 S2 => ?_
    have hw00 : w0.H lw = none := g1.h.free hw0
    have nws : lw ≠ ds := fun z => by
      subst z
      obtain ⟨u, hu1, _⟩ := os1.at_
      rw [hw0] at hu1
      cases hu1
    have os2 := os1.grow g2
    have G2 := g1.trans g2
    refine w_newlist 4 (τs := []) sc_part.nd S2 a0 (by decide) fun σ3 w3 le vs3 g3 he0 oe3 te3 S3 => ?_
    have he00 : w0.H le = none := G2.h.free he0
    have nes : le ≠ ds := fun z => by
      subst z
      obtain ⟨u, hu1, _⟩ := os2.at_
      rw [he0] at hu1
      cases hu1
    have new_ : le ≠ lw := fun z => by
      subst z
      have := ow2.at_
      rw [he0] at this
      cases this
    refine w_set (τ := dat K (.int (0 : Nat))) 5 sc_part.nd S3 ci fun σ4 w4 g4 S4 => ?_
    have G4 := (G2.trans g3).trans g4
    let J : Nat → L2.St → Wd → Prop := fun m σ w' => ∃ (ks : List (Pr × Nat)) (es : List (Pr × Pr)) (a : Nat), m + a = 16 ∧ a ≤ ks.length ∧ SI T n home ks es a 0 ∧ Grow w0 w' ∧
      Sl w'.G σ [some (dat K (tbD T)), some (dat K (prD home)), some (ex (.ref ds)), some (ex (.ref lw)), some (ex (.ref le)), some (dat K (.int (a : Nat))), none, none, none, none, none, none] ∧
      OwnD P w K w' ds (kvS ks) ∧ (∃ vs, Own w' lw (.lst vs) ∧ Tys ((kys ks).map fun x => dat K (prD x)) vs w'.G) ∧ ∃ vs, Own w' le (.lst vs) ∧ Tys (es.map (edT K)) vs w'.G
    have J0 : J 16 σ4 w4 := ⟨[(home, 0)], [], 0, rfl, Nat.zero_le _, SI.start hh, G4, S4, (os2.grow g3).grow g4, ⟨vs2, (ow2.grow g3).grow g4, (tw2.mono g3.g).mono g4.g⟩, vs3, oe3.grow g4, te3.mono g4.g⟩
    refine w_while (D := { nx := fun _ H' => Q .non H', rt := Q }) PassesOwn.never J _ J0 fun m σ' w' hJ => ?_
    obtain ⟨ks, es, a, ema, hak, hI, gJ, SJ, osJ, ⟨vw, owJ, twJ⟩, ve, oeJ, teJ⟩ := hJ
    have lvw : vw.length = ks.length := by rw [twJ.length, List.length_map, kys_len]
    refine ⟨decide (a < ks.length), eqT ?_ (t_lt (nm 5 SJ) (Own.lst_len (K := K) B.len_ (nm 3 SJ) owJ)), fun hb w6 g6 => ?_, fun hb w6 g6 => ?_⟩
    · rw [lvw]
      by_cases h : a < ks.length
      · rw [decide_eq_true h, decide_eq_true (by omega)]
      · rw [decide_eq_false h, decide_eq_false (by omega)]
    · have hlt := of_decide_eq_true hb
      have S6 := SJ.mono g6.g
      have os6 := osJ.grow g6
      have ow6 := owJ.grow g6
      have tw6 := twJ.mono g6.g
      have oe6 := oeJ.grow g6
      have te6 := teJ.mono g6.g
      have G6 := gJ.trans g6
      obtain ⟨x, st, hx⟩ : ∃ x st, ks[a]? = some (x, st) := ⟨_, _, List.getElem?_eq_getElem hlt⟩
      have hkx := kys_get hx
      have hxin := hI.rg x (List.mem_of_getElem? hkx)
      refine w_set (τ := dat K (prD x)) 6 sc_part.nd S6 (ixO (nm 3 S6) ow6 tw6 (nm 5 S6) (atI_nat (by rw [List.getElem?_map, hkx]; rfl))) fun σ7 w7 g7 S7 => ?_
      refine w_inc (n := (a : Nat)) (m := 1) 5 sc_part.nd S7 rfl ci fun σ8 w8 g8 S8 => ?_
      have g68 := g7.trans g8
      refine w_forM (D := { nx := fun σ3 H3 => ∃ m' w3, m' < m ∧ w3.H = H3 ∧ J m' σ3 w3, rt := Q, ct := fun σ3 H3 => ∃ m' w3, m' < m ∧ w3.H = H3 ∧ J m' σ3 w3, bk := wS _ _ _ }) (xs := T) (κ := fun t => dat K (rowD t)) 7 rfl PassesOwn.never sc_part.nd (eqI_ (by rw [List.map_map]; rfl) (ivT (xs := T.map rowD) (nm 0 S8)))
        (fun j σ w' => ∃ (ks : List (Pr × Nat)) (es : List (Pr × Pr)), a < ks.length ∧ ks[a]? = some (x, st) ∧ SI T n home ks es a j ∧ Grow w0 w' ∧
          Sl w'.G σ [some (dat K (tbD T)), some (dat K (prD home)), some (ex (.ref ds)), some (ex (.ref lw)), some (ex (.ref le)), some (dat K (.int ((a + 1 : Nat) : Nat))), some (dat K (prD x)), none, none, none, none, none] ∧
          OwnD P w K w' ds (kvS ks) ∧ (∃ vs, Own w' lw (.lst vs) ∧ Tys ((kys ks).map fun x => dat K (prD x)) vs w'.G) ∧ ∃ vs, Own w' le (.lst vs) ∧ Tys (es.map (edT K)) vs w'.G)
        (fun w' g => ⟨ks, es, hlt, hx, hI, (G6.trans g68).trans g, S8.mono g.g, (os6.grow g68).grow g, ⟨vw, (ow6.grow g68).grow g, (tw6.mono g68.g).mono g.g⟩, ve, (oe6.grow g68).grow g, (te6.mono g68.g).mono g.g⟩) (fun j t σ' w9 w10 v ht hL g10 hv => ?_) (fun σ' w' hL => ?_)
      · obtain ⟨ks, es, hlt, hx, hI, gL, SL, osL, ⟨vw, owL, twL⟩, ve, oeL, teL⟩ := hL
        have S10 := (SL.mono g10.g).put hv 7
        have htm : t ∈ T := List.mem_of_getElem? ht
        have ltn := hM.len t htm
        have hjT : j < T.length := (List.getElem?_eq_some_iff.mp ht).1
        have egt : T.getD j [] = t := by
          rw [List.getD_eq_getElem?_getD, ht]
          rfl
        have epst : pstp T x j = (t.getD x.1 0, t.getD x.2 0) := by
          unfold pstp stp
          rw [egt]
        have hstep := hI.step hM hx hjT
        have lks := hI.small hM
        have les := hI.el
        have lma : a * T.length ≤ 16 * 3 := Nat.mul_le_mul (by omega) d3
        refine w_set (τ := dat K (prD (pstp T x j))) 8 sc_part.nd S10 (eqE (by rw [epst]; rfl) (tupD (ds := [.int (t.getD x.1 0 : Nat), .int (t.getD x.2 0 : Nat)]) (ac (ixTD (nm 7 S10) (ixTD (xs := [.int (x.1 : Nat), .int (x.2 : Nat)]) (nm 6 S10) ci (pr_at0 x)) (row_at (row_get ltn hxin.1))) (ac (ixTD (nm 7 S10) (ixTD (xs := [.int (x.1 : Nat), .int (x.2 : Nat)]) (nm 6 S10) ci (pr_at1 x)) (row_at (row_get ltn hxin.2))) a0)))) fun σ11 w11 g11 S11 => ?_
        have G11 := (gL.trans g10).trans g11
        have g1011 := g10.trans g11
        have lve : ve.length = es.length := by rw [teL.length, List.length_map]
        refine w_app (τ := edT K (x, pstp T x j)) (nm 4 S11) (oeL.grow g1011) (tup_ (ac (nm 6 S11) (ac (nm 8 S11) a0))) (by omega) fun v12 w12 g12 hv12 oe12 => ?_
        have G12 : Grow w0 (w12.lay le (.lst (ve ++ [v12])) oe12.free) := (G11.trans g12).change he00
        have S12 : Sl (w12.lay le (.lst (ve ++ [v12])) oe12.free).G σ11 _ := S11.mono g12.g
        have os12 : OwnD P w K (w12.lay le (.lst (ve ++ [v12])) oe12.free) ds (kvS ks) := ((osL.grow g1011).grow g12).other (Ne.symm nes)
        have ow12 : Own (w12.lay le (.lst (ve ++ [v12])) oe12.free) lw (.lst vw) := ((owL.grow g1011).grow g12).other (Ne.symm new_)
        have tw12 : Tys _ vw (w12.lay le (.lst (ve ++ [v12])) oe12.free).G := twL.mono (g1011.g.trans g12.g)
        have te12 : Tys ((es ++ [(x, pstp T x j)]).map (edT K)) (ve ++ [v12]) (w12.lay le (.lst (ve ++ [v12])) oe12.free).G := by
          rw [List.map_append]
          exact (teL.mono (g1011.g.trans g12.g)).append (.cons hv12 .nil)
        have oe12' : Own (w12.lay le (.lst (ve ++ [v12])) oe12.free) le (.lst (ve ++ [v12])) := Own.self
        have sm12 : Same w10.G w12.G := g11.g.trans g12.g
        refine w_when (b := !decide (pstp T x j ∈ kys ks)) (eqT (by rw [show NestedKey.tup (prN (pstp T x j)) = prK (pstp T x j) from rfl, kvS_get]) (t_dnotin (ks := prN (pstp T x j)) hu (eqE (prK_data _).symm (nm 8 S12)) (prK_depth _) (nm 2 S12) os12)) (fun hb w13 g13 => ?_) (fun hb w13 g13 => wS_nil ?_)
        · have hb : pstp T x j ∉ kys ks := by
            intro z
            rw [decide_eq_true z] at hb
            cases hb
          have S13 := S12.mono g13.g
          rw [show addS ks (pstp T x j) (st + 1) = ks ++ [(pstp T x j, st + 1)] from if_neg hb] at hstep
          refine w_dput (ks := prN (pstp T x j)) (dv := .int ((st + 1 : Nat) : Nat)) hu (add (dget (ks := prN x) hu (nm 2 S13) (os12.grow g13) (eqE (prK_data _).symm (nm 6 S13)) (prK_depth _) (kvS_at hI.nd (List.mem_of_getElem? hx))) ci) (nm 2 S13) (eqE (prK_data _).symm (nm 8 S13)) (prK_depth _) (os12.grow g13) (by unfold kvS; rw [List.length_map]; omega) fun w14 g14 o14 n14 os14 => ?_
          rw [show NestedKey.tup (prN (pstp T x j)) = prK (pstp T x j) from rfl, kvS_new hb] at os14
          have G14 : Grow w0 (w14.lay ds o14 n14) := ((G12.trans g13).trans g14).change hs0
          have S14 : Sl (w14.lay ds o14 n14).G σ11 _ := S13.mono g14.g
          have ow14 : Own (w14.lay ds o14 n14) lw (.lst vw) := ((ow12.grow g13).grow g14).other nws
          have tw14 : Tys _ vw (w14.lay ds o14 n14).G := tw12.mono (g13.g.trans g14.g)
          have oe14 : Own (w14.lay ds o14 n14) le (.lst (ve ++ [v12])) := ((oe12'.grow g13).grow g14).other nes
          have te14 : Tys _ (ve ++ [v12]) (w14.lay ds o14 n14).G := te12.mono (g13.g.trans g14.g)
          have lvw : vw.length = ks.length := by rw [twL.length, List.length_map, kys_len]
          refine w_app (τ := dat K (prD (pstp T x j))) (nm 3 S14) ow14 (nm 8 S14) (by omega) fun v15 w15 g15 hv15 ow15 => wS_nil (wS_nil ?_)
          refine ⟨w15.lay lw (.lst (vw ++ [v15])) ow15.free, rfl, ((sm12.trans g13.g).trans g14.g).trans g15.g, _, _, ?_, ?_, hstep, (G14.trans g15).change hw00, ((S14.mono g15.g).forget 7).forget 8, (os14.grow g15).other (Ne.symm nws), ⟨vw ++ [v15], Own.self, ?_⟩, ve ++ [v12], (oe14.grow g15).other new_, te14.mono g15.g⟩
          · rw [List.length_append]
            omega
          · exact get_keep hx
          · rw [kys_snoc, List.map_append]
            exact (tw14.mono g15.g).append (.cons hv15 .nil)
        · have hb : pstp T x j ∈ kys ks := by
            cases q9 : decide (pstp T x j ∈ kys ks) with
            | true => exact of_decide_eq_true q9
            | false => rw [q9] at hb; cases hb
          rw [show addS ks (pstp T x j) (st + 1) = ks from if_pos hb] at hstep
          exact ⟨w13, rfl, sm12.trans g13.g, _, _, hlt, hx, hstep, G12.trans g13, ((S12.mono g13.g).forget 7).forget 8, os12.grow g13, ⟨vw, ow12.grow g13, tw12.mono g13.g⟩, ve ++ [v12], oe12'.grow g13, te12.mono g13.g⟩
      · obtain ⟨ks, es, hlt, hx, hI, gL, SL, osL, owL, oeL⟩ := hL
        have lks := hI.small hM
        exact wS_nil ⟨16 - (a + 1), w', by omega, rfl, ks, es, a + 1, by omega, hlt, hI.next, gL, (SL.forget 6), osL, owL, oeL⟩
    · have hlt : ¬ a < ks.length := of_decide_eq_false hb
      have eak : a = ks.length := by omega
      have S6 := SJ.mono g6.g
      have os6 := osJ.grow g6
      have oe6 := oeJ.grow g6
      have te6 := teJ.mono g6.g
      have G6 := gJ.trans g6
      have lks := hI.small hM
      have les := hI.el
      have lma : a * T.length ≤ 16 * 3 := Nat.mul_le_mul (by omega) d3
      -- the edges stay from now on
      have tf := te6.mono (Wd.frz_same (h := oe6.at_) oe6.free)
      have S7 : Sl (w6.frz le (.lst ve) oe6.at_).G σ' _ := (S6.mono (Wd.frz_same oe6.free)).retype (τ := ex (.ref le)) (τ' := lstT K (es.map (edT K))) 4 (by
        obtain ⟨v, e1, e2⟩ := S6.get (i := 4) rfl
        exact ⟨v, e1, le, ve, e2, SqL.of Wd.frz_at, tf⟩)
      have os7 : OwnD P w K (w6.frz le (.lst ve) oe6.at_) ds (kvS ks) := os6.frz oe6.free (Ne.symm nes)
      have G7 : Grow w0 (w6.frz le (.lst ve) oe6.at_) := G6.frz he00 oe6.at_
      show wS _ _ _ σ' (w6.frz le (.lst ve) oe6.at_).H
      generalize w6.frz le (.lst ve) oe6.at_ = w7 at S7 os7 G7 ⊢
      have iin : home ∈ kys ks := List.mem_of_getElem? (kys_get hI.hm)
      refine w_disp1 (ks := prN home) (dv := .bool true) 9 sc_part.nd S7 hu (eqE (prK_data home).symm (nm 1 S7)) (prK_depth home) cb fun σ8 w8 db g8 hb0 ob8 S8 => ?_
      have hb00 : w0.H db = none := G7.h.free hb0
      have ob8 : OwnD P w K w8 db (kvT [home]) := ob8
      have nbs : db ≠ ds := fun z => by
        subst z
        obtain ⟨u, hu1, _⟩ := os7.at_
        rw [hb0] at hu1
        cases hu1
      have os8 := os7.grow g8
      have G8 := G7.trans g8
      refine w_set (τ := dat K (.bool true)) 10 sc_part.nd S8 cb fun σ9 w9 g9 S9 => ?_
      let J2 : Nat → L2.St → Wd → Prop := fun m σ w' => ∃ (bk : List Pr) (fl : Bool), m = 2 * (16 - bk.length) + fl.toNat ∧ BkS T home (kys ks) bk ∧ (fl = false → ∀ u v : Pr, (u, v) ∈ es → v ∈ bk → u ∈ bk) ∧ Grow w0 w' ∧
        Sl w'.G σ [some (dat K (tbD T)), some (dat K (prD home)), some (ex (.ref ds)), some (ex (.ref lw)), some (lstT K (es.map (edT K))), none, none, none, none, some (ex (.ref db)), some (dat K (.bool fl)), none] ∧ OwnD P w K w' ds (kvS ks) ∧ OwnD P w K w' db (kvT bk)
      have J20 : J2 31 σ9 w9 := ⟨[home], true, rfl, BkS.start iin, fun z => (nomatch z), G8.trans g9, S9.forget 5, os8.grow g9, ob8.grow g9⟩
      refine w_while (D := { nx := fun _ H' => Q .non H', rt := Q }) PassesOwn.never J2 _ J20 fun m σ' w' hJ => ?_
      obtain ⟨bk, fl, em, hB, hcl, gJ, SJ, osJ, obJ⟩ := hJ
      have lbk : bk.length ≤ 16 := few_prs hM.n4 hB.nd fun x hx => hI.rg x (hB.inn x hx)
      refine ⟨fl, t_val (nm 10 SJ), fun hb w10 g10 => ?_, fun hb w10 g10 => ?_⟩
      · subst hb
        have S10 := SJ.mono g10.g
        refine w_set (τ := dat K (.bool false)) 10 sc_part.nd S10 cb fun σ11 w11 g11 S11 => ?_
        have g1011 := g10.trans g11
        refine w_for2M (D := { nx := fun σ3 H3 => ∃ m' w3, m' < m ∧ w3.H = H3 ∧ J2 m' σ3 w3, rt := Q, ct := fun σ3 H3 => ∃ m' w3, m' < m ∧ w3.H = H3 ∧ J2 m' σ3 w3, bk := wS _ _ _ }) (xs := es) (κ1 := fun e => dat K (prD e.1)) (κ2 := fun e => dat K (prD e.2)) 6 8 rfl PassesOwn.never sc_part.nd (iv_list (nm 4 S11))
          (fun j σ w' => ∃ (bk' : List Pr) (fl : Bool), BkS T home (kys ks) bk' ∧ (fl = false → bk' = bk ∧ ∀ u v : Pr, (u, v) ∈ es.take j → v ∈ bk → u ∈ bk) ∧ (fl = true → bk.length < bk'.length) ∧ Grow w0 w' ∧
            Sl w'.G σ [some (dat K (tbD T)), some (dat K (prD home)), some (ex (.ref ds)), some (ex (.ref lw)), some (lstT K (es.map (edT K))), none, none, none, none, some (ex (.ref db)), some (dat K (.bool fl)), none] ∧ OwnD P w K w' ds (kvS ks) ∧ OwnD P w K w' db (kvT bk'))
          (fun w' g => ⟨bk, false, hB, fun _ => ⟨rfl, fun u v h => (nomatch h)⟩, fun z => (nomatch z), (gJ.trans g1011).trans g, S11.mono g.g, (osJ.grow g1011).grow g, (obJ.grow g1011).grow g⟩) (fun j e σ' w12 w13 v1 v2 he hL g13 h1 h2 => ?_) (fun σ' w' hL => ?_)
        · obtain ⟨u, v⟩ := e
          obtain ⟨bk', fl, hB', hf0, hf1, gL, SL, osL, obL⟩ := hL
          have S13 := ((SL.mono g13.g).put h1 6).put h2 8
          have lbk' : bk'.length ≤ 16 := few_prs hM.n4 hB'.nd fun x hx => hI.rg x (hB'.inn x hx)
          have hes := hI.ed u v (List.mem_of_getElem? he)
          refine w_when (b := decide (v ∈ bk') && !decide (u ∈ bk')) (ww (and' (eqT (by rw [show NestedKey.tup (prN v) = prK v from rfl, kvT_get]) (t_din (ks := prN v) hu (eqE (prK_data _).symm (nm 8 S13)) (prK_depth _) (nm 9 S13) (obL.grow g13))) fun _ => and1 (eqT (by rw [show NestedKey.tup (prN u) = prK u from rfl, kvT_get]) (t_dnotin (ks := prN u) hu (eqE (prK_data _).symm (nm 6 S13)) (prK_depth _) (nm 9 S13) (obL.grow g13))))) (fun hb w14 g14 => ?_) (fun hb w14 g14 => wS_nil ?_)
          · rw [Bool.and_eq_true, decide_eq_true_eq] at hb
            have hv : v ∈ bk' := hb.1
            have hu' : u ∉ bk' := fun z => by
              rw [decide_eq_true z] at hb
              exact nomatch hb.2
            obtain ⟨hks, _, d, hd, ev⟩ := hes
            have S14 := S13.mono g14.g
            refine w_dput (ks := prN u) (dv := .bool true) hu cb (nm 9 S14) (eqE (prK_data _).symm (nm 6 S14)) (prK_depth _) ((obL.grow g13).grow g14) (by unfold kvT; rw [List.length_map]; omega) fun w15 g15 o15 n15 ob15 => ?_
            rw [show NestedKey.tup (prN u) = prK u from rfl, kvT_put, show addN bk' u = bk' ++ [u] from if_neg hu'] at ob15
            have S15 : Sl (w15.lay db o15 n15).G _ _ := S14.mono g15.g
            refine w_set (τ := dat K (.bool true)) 10 sc_part.nd S15 cb fun σ16 w16 g16 S16 => wS_nil (wS_nil ?_)
            have lb : bk.length ≤ bk'.length := by
              cases fl with
              | true => exact Nat.le_of_lt (hf1 rfl)
              | false => rw [(hf0 rfl).1]; exact Nat.le_refl _
            exact ⟨w16, rfl, (g14.g.trans g15.g).trans g16.g, bk' ++ [u], true, hB'.add hks hv hd ev hu', fun z => (nomatch z), fun _ => by rw [List.length_append, List.length_singleton]; omega, ((((gL.trans g13).trans g14).trans g15).change hb00).trans g16, (S16.forget 6).forget 8, ((((osL.grow g13).grow g14).grow g15).other (Ne.symm nbs)).grow g16, ob15.grow g16⟩
          · refine ⟨w14, rfl, g14.g, bk', fl, hB', fun hfl => ?_, hf1, (gL.trans g13).trans g14, ((S13.mono g14.g).forget 6).forget 8, (osL.grow g13).grow g14, (obL.grow g13).grow g14⟩
            obtain ⟨e1, e2⟩ := hf0 hfl
            subst e1
            refine ⟨rfl, fun u' v' hm hv' => ?_⟩
            rw [List.take_succ, he] at hm
            rcases List.mem_append.mp hm with q9 | q9
            · exact e2 u' v' q9 hv'
            · have e3 : (u', v') = (u, v) := by simpa using q9
              injection e3 with e3 e4
              subst e3 e4
              by_cases z : u' ∈ bk'
              · exact z
              · rw [decide_eq_true hv', decide_eq_false z] at hb
                cases hb
        · obtain ⟨bk', fl, hB', hf0, hf1, gL, SL, osL, obL⟩ := hL
          have lbk' : bk'.length ≤ 16 := few_prs hM.n4 hB'.nd fun x hx => hI.rg x (hB'.inn x hx)
          rw [List.take_length] at hf0
          refine wS_nil ⟨2 * (16 - bk'.length) + fl.toNat, w', ?_, rfl, bk', fl, rfl, hB', fun z => ?_, gL, SL, osL, obL⟩
          · rw [em]
            cases fl with
            | true =>
              have := hf1 rfl
              show 2 * (16 - bk'.length) + 1 < 2 * (16 - bk.length) + 1
              omega
            | false =>
              rw [(hf0 rfl).1]
              show 2 * (16 - bk.length) + 0 < 2 * (16 - bk.length) + 1
              omega
          · obtain ⟨e1, e2⟩ := hf0 z
            subst e1
            exact e2
      · have hcl := hcl hb
        have S10 := SJ.mono g10.g
        have os10 := osJ.grow g10
        have ob10 := obJ.grow g10
        have G10 := gJ.trans g10
        refine w_set (τ := dat K (.int (0 : Nat))) 11 sc_part.nd S10 ci fun σ11 w11 g11 S11 => ?_
        refine w_for2M (D := { nx := fun _ H' => Q .non H', rt := Q }) (xs := es) (κ1 := fun e => dat K (prD e.1)) (κ2 := fun e => dat K (prD e.2)) 6 8 rfl PassesOwn.never sc_part.nd (iv_list (nm 4 S11))
          (fun j σ w' => ∃ fo : Nat, fo ≤ 16 ∧ (∀ u v : Pr, (u, v) ∈ es.take j → u ∈ bk → v ∈ bk → fo ∣ edG ks u v) ∧ (∀ g, (∀ u v : Pr, (u, v) ∈ es.take j → u ∈ bk → v ∈ bk → g ∣ edG ks u v) → g ∣ fo) ∧ Grow w0 w' ∧
            Sl w'.G σ [some (dat K (tbD T)), some (dat K (prD home)), some (ex (.ref ds)), some (ex (.ref lw)), some (lstT K (es.map (edT K))), none, none, none, none, some (ex (.ref db)), none, some (dat K (.int (fo : Nat)))] ∧ OwnD P w K w' ds (kvS ks) ∧ OwnD P w K w' db (kvT bk))
          (fun w' g => ⟨0, Nat.zero_le _, fun u v h => (nomatch h), fun g _ => Nat.dvd_zero g, (G10.trans g11).trans g, (S11.mono g.g).forget 10, (os10.grow g11).grow g, (ob10.grow g11).grow g⟩) (fun j e σ' w12 w13 v1 v2 he hL g13 h1 h2 => ?_) (fun σ' w' hL => ?_)
        · obtain ⟨u, v⟩ := e
          obtain ⟨fo, hf16, hf1, hf2, gL, SL, osL, obL⟩ := hL
          have S13 := ((SL.mono g13.g).put h1 6).put h2 8
          obtain ⟨huk, hvk, _⟩ := hI.ed u v (List.mem_of_getElem? he)
          obtain ⟨eg16, su, sv⟩ := edG_small hM hI huk hvk
          have htk : ∀ u' v' : Pr, (u', v') ∈ es.take (j + 1) ↔ (u', v') ∈ es.take j ∨ (u' = u ∧ v' = v) := fun u' v' => by
            rw [List.take_succ, he, List.mem_append]
            simp
          refine w_when (b := decide (u ∈ bk) && decide (v ∈ bk)) (ww (and' (eqT (by rw [show NestedKey.tup (prN u) = prK u from rfl, kvT_get]) (t_din (ks := prN u) hu (eqE (prK_data _).symm (nm 6 S13)) (prK_depth _) (nm 9 S13) (obL.grow g13))) fun _ => and1 (eqT (by rw [show NestedKey.tup (prN v) = prK v from rfl, kvT_get]) (t_din (ks := prN v) hu (eqE (prK_data _).symm (nm 8 S13)) (prK_depth _) (nm 9 S13) (obL.grow g13))))) (fun hb w14 g14 => ?_) (fun hb w14 g14 => wS_nil ?_)
          · rw [Bool.and_eq_true, decide_eq_true_eq, decide_eq_true_eq] at hb
            have S14 := S13.mono g14.g
            have os14 := (osL.grow g13).grow g14
            refine w_set (τ := dat K (.int (Nat.gcd fo (edG ks u v) : Nat))) 11 sc_part.nd S14 (call_c CD (hr.mono (by decide)) (fo, edG ks u v) True.intro (ac (nm 11 S14) (ac (eqE ?_ (abs_ B.abs_ (sub (add (dget (ks := prN u) hu (nm 2 S14) os14 (eqE (prK_data _).symm (nm 6 S14)) (prK_depth _) (kvS_st hI.nd huk)) ci) (dget (ks := prN v) hu (nm 2 S14) os14 (eqE (prK_data _).symm (nm 8 S14)) (prK_depth _) (kvS_st hI.nd hvk))))) a0))) fun σ15 w15 g15 S15 => wS_nil (wS_nil ⟨w15, rfl, g14.g.trans g15.g, Nat.gcd fo (edG ks u v), ?_, ?_, ?_, ((gL.trans g13).trans g14).trans g15, ((S15.forget 6).forget 8), os14.grow g15, ((obL.grow g13).grow g14).grow g15⟩)
            · unfold edG
              congr 1
              split <;> omega
            · rcases Nat.eq_zero_or_pos fo with z | z
              · rw [z, Nat.gcd_zero_left]
                exact eg16
              · exact Nat.le_trans (Nat.gcd_le_left _ z) hf16
            · intro u' v' hm hu' hv'
              rcases (htk u' v').mp hm with q9 | ⟨q9, q10⟩
              · exact Nat.dvd_trans (Nat.gcd_dvd_left _ _) (hf1 u' v' q9 hu' hv')
              · subst q9 q10
                exact Nat.gcd_dvd_right _ _
            · intro g hg
              exact Nat.dvd_gcd (hf2 g fun u' v' hm => hg u' v' ((htk u' v').mpr (.inl hm))) (hg u v ((htk u v).mpr (.inr ⟨rfl, rfl⟩)) hb.1 hb.2)
          · refine ⟨w14, rfl, g14.g, fo, hf16, fun u' v' hm hu' hv' => ?_, fun g hg => hf2 g fun u' v' hm => hg u' v' ((htk u' v').mpr (.inl hm)), (gL.trans g13).trans g14, (((S13.mono g14.g).forget 6).forget 8), (osL.grow g13).grow g14, (obL.grow g13).grow g14⟩
            rcases (htk u' v').mp hm with q9 | ⟨q9, q10⟩
            · exact hf1 u' v' q9 hu' hv'
            · subst q9 q10
              rw [decide_eq_true hu', decide_eq_true hv'] at hb
              cases hb
        · obtain ⟨fo, hf16, hf1, hf2, gL, SL, osL, obL⟩ := hL
          rw [List.take_length] at hf1 hf2
          exact w_ret (nm 11 SL) fun v w2 g2 hv => q v w2 (gL.trans g2) ⟨fo, ⟨is_part hM hI (by omega) hB hcl hf1 hf2, hf16⟩, hv⟩
end
end K27
/-! ## Math6 -/
/-! The mathematics, sixth part: a paper by way of a pair that comes back. -/
namespace K27
def stP (n p : Nat) : List Pr := (List.range n).map fun q => (p, q)
def goP (n p : Nat) : List Pr := ((List.range n).filter fun q => decide (q ≠ p)).map fun q => (q, p)
theorem mem_stP {n p : Nat} {x : Pr} : x ∈ stP n p ↔ ∃ q, q < n ∧ x = (p, q) := by
  unfold stP
  rw [List.mem_map]
  constructor
  · rintro ⟨q, h, e⟩
    exact ⟨q, List.mem_range.mp h, e.symm⟩
  · rintro ⟨q, h, e⟩
    exact ⟨q, List.mem_range.mpr h, e.symm⟩
theorem mem_goP {n p : Nat} {x : Pr} : x ∈ goP n p ↔ x.1 < n ∧ x.1 ≠ p ∧ x.2 = p := by
  unfold goP
  rw [List.mem_map]
  constructor
  · rintro ⟨q, h, e⟩
    obtain ⟨h1, h2⟩ := List.mem_filter.mp h
    subst e
    exact ⟨List.mem_range.mp h1, of_decide_eq_true h2, rfl⟩
  · rintro ⟨h1, h2, h3⟩
    exact ⟨x.1, List.mem_filter.mpr ⟨List.mem_range.mpr h1, decide_eq_true h2⟩, Prod.ext rfl h3.symm⟩
theorem stP_ok {n p : Nat} (hp : p < n) : (∀ x ∈ stP n p, InP n x) ∧ (stP n p).Nodup ∧ (stP n p).length = n := by
  refine ⟨fun x hx => ?_, ?_, by unfold stP; rw [List.length_map, List.length_range]⟩
  · obtain ⟨q, h, e⟩ := mem_stP.mp hx
    subst e
    exact ⟨hp, h⟩
  · unfold stP
    refine List.Pairwise.map _ (fun a b (e : a ≠ b) z => e ?_) List.nodup_range
    exact congrArg (fun (q : Pr) => q.2) z
theorem goP_ok {n p : Nat} (hp : p < n) : (∀ x ∈ goP n p, InP n x) ∧ (goP n p).length ≤ n := by
  refine ⟨fun x hx => ?_, ?_⟩
  · obtain ⟨h1, h2, h3⟩ := mem_goP.mp hx
    refine ⟨h1, ?_⟩
    rw [h3]
    exact hp
  · unfold goP
    rw [List.length_map]
    have := List.length_filter_le (fun q => decide (q ≠ p)) (List.range n)
    rw [List.length_range] at this
    exact this
/-- the walks that are asked for -/
def rwAround (T : Tb) (n : Nat) (h : Pr) : RW := ⟨T, n, [h], [h], 1, 0, 1⟩
def rwAhead (T : Tb) (n p : Nat) (h : Pr) (d j : Nat) : RW := ⟨T, n, stP n p, [h], d, j, 0⟩
def rwBehind (T : Tb) (n p : Nat) (h : Pr) (d j : Nat) : RW := ⟨T, n, [h], goP n p, d, (d - j) % d, 0⟩
def rwMore (T : Tb) (n : Nat) (h : Pr) (size lack : Nat) : RW := ⟨T, n, [h], [h], size, lack, 0⟩
section
variable {T : Tb} {n p : Nat} {h : Pr} {d : Nat}
theorem one_ok (hh : InP n h) : (∀ x ∈ [h], InP n x) ∧ [h].Nodup ∧ [h].length ≤ 4 := ⟨fun x hx => by
  have : x = h := by simpa using hx
  rw [this]
  exact hh, List.nodup_cons.mpr ⟨fun z => (nomatch z), List.nodup_nil⟩, by simp⟩
theorem rwAround_ok (M : MOk T n) (hh : InP n h) : (rwAround T n h).Ok := ⟨M, (one_ok hh).1, (one_ok hh).2.1, (one_ok hh).2.2, (one_ok hh).1, (one_ok hh).2.2, Nat.le_refl 1, (by decide : 1 ≤ 20), Nat.zero_lt_one, Nat.le_refl 1⟩
theorem rwAhead_ok (M : MOk T n) (hp : p < n) (hh : InP n h) (h2 : d ≤ 16) {j : Nat} (hj : j < d) : (rwAhead T n p h d j).Ok :=
  ⟨M, (stP_ok hp).1, (stP_ok hp).2.1, by show (stP n p).length ≤ 4; rw [(stP_ok hp).2.2]; exact M.n4, (one_ok hh).1, (one_ok hh).2.2, by show 1 ≤ d; omega, by show d ≤ 20; omega, hj, Nat.zero_le 1⟩
theorem rwBehind_ok (M : MOk T n) (hp : p < n) (hh : InP n h) (h2 : d ≤ 16) {j : Nat} (hj : j < d) : (rwBehind T n p h d j).Ok :=
  ⟨M, (one_ok hh).1, (one_ok hh).2.1, (one_ok hh).2.2, (goP_ok hp).1, Nat.le_trans (goP_ok hp).2 M.n4, by show 1 ≤ d; omega, by show d ≤ 20; omega, Nat.mod_lt _ (by show 0 < d; omega), Nat.zero_le 1⟩
theorem rwMore_ok (M : MOk T n) (hh : InP n h) {size lack : Nat} (h1 : 1 ≤ size) (h2 : size ≤ 16) (hl : lack < size) : (rwMore T n h size lack).Ok :=
  ⟨M, (one_ok hh).1, (one_ok hh).2.1, (one_ok hh).2.2, (one_ok hh).1, (one_ok hh).2.2, h1, by show size ≤ 20; omega, hl, Nat.zero_le 1⟩
theorem not_good_zero (P : IsPart T h 0) : ¬ GoodHome T n p h := fun g => by
  obtain ⟨c, hc, h1⟩ := g.round
  have := P.zero hc
  rw [this] at h1
  exact absurd h1 (by decide)
theorem around_some (P : IsPart T h d) (hd : d ≠ 0) : ¬ (rwAround T n h).Res none := fun hn => by
  obtain ⟨w, hw, h1⟩ := P.pos hd
  refine hn h (by show h ∈ [h]; simp) w hw.log h1 ?_ (Nat.mod_one _)
  show prun T h w ∈ [h]
  rw [hw.eq]
  simp
theorem more_some (P : IsPart T h d) {size lack : Nat} (h1 : 1 ≤ size) (hl : lack < size) (hdl : d ∣ lack) : ¬ (rwMore T n h size lack).Res none := fun hn => by
  obtain ⟨w, hw, e⟩ := P.walk h1 hl hdl
  refine hn h (by show h ∈ [h]; simp) w hw.log (Nat.zero_le _) ?_ e
  show prun T h w ∈ [h]
  rw [hw.eq]
  simp
theorem mod_sum {a b d : Nat} (hd : d ≠ 0) (h : d ∣ a + b) : b % d = (d - a % d) % d := by
  have hd' : 0 < d := Nat.pos_of_ne_zero hd
  have h1 := Nat.mod_lt a hd'
  have h2 := Nat.mod_lt b hd'
  have h3 : (a % d + b % d) % d = 0 := by rw [← Nat.add_mod]; exact Nat.mod_eq_zero_of_dvd h
  by_cases z : a % d = 0
  · rw [z, Nat.zero_add, Nat.mod_mod] at h3
    rw [z, Nat.sub_zero, Nat.mod_self, h3]
  · rw [Nat.mod_eq_of_lt (show d - a % d < d by omega)]
    have h4 : a % d + b % d = d := by
      rcases Nat.lt_or_ge (a % d + b % d) d with q | q
      · rw [Nat.mod_eq_of_lt q] at h3
        omega
      · have e : a % d + b % d = (a % d + b % d - d) + d := by omega
        rw [e, Nat.add_mod_right, Nat.mod_eq_of_lt (by omega)] at h3
        omega
    omega
theorem not_good (hp : p < n) (P : IsPart T h d) (hd : d ≠ 0) (hn : ∀ j, j < d → (rwAhead T n p h d j).Res none ∨ (rwBehind T n p h d j).Res none) (M : MOk T n) : ¬ GoodHome T n p h := fun g => by
  obtain ⟨q, w1, w2, hq, l1, l2, e1, e2, e3, hg⟩ := g.ways
  have hdv := hg d fun c hc => P.closed hc
  have hd' : 0 < d := Nat.pos_of_ne_zero hd
  rcases hn (w1.length % d) (Nat.mod_lt _ hd') with z | z
  · refine z (p, q) (mem_stP.mpr ⟨q, hq, rfl⟩) w1 l1 (Nat.zero_le _) ?_ rfl
    show prun T (p, q) w1 ∈ [h]
    rw [e1]
    simp
  · refine z h (by show h ∈ [h]; simp) w2 l2 (Nat.zero_le _) ?_ ?_
    · exact mem_goP.mpr ⟨(M.prun_in g.ins l2).1, e3, e2⟩
    · exact mod_sum hd hdv
/-- the paper's parts -/
theorem pap_of (M : MOk T n) (hp : p < n) (P : IsPart T h d) (hd : d ≠ 0) {j : Nat} (hj : j < d) (h16 : d ≤ 16) {c a f m : List Nat} {x x2 x3 x4 : Pr} (hc : (rwAround T n h).Res (some (x3, c))) (ha : (rwAhead T n p h d j).Res (some (x, a))) (hf : (rwBehind T n p h d j).Res (some (x2, f)))
    {lack : Nat} (hlack : lack = (c.length - (a.length + f.length) % c.length) % c.length) (hm : (rwMore T n h c.length lack).Res (some (x4, m))) : x = (p, x.2) ∧ Pap.Ok T n ⟨p, x.2, a ++ m, c, f⟩ := by
  obtain ⟨a1, a2, a3, a4, a5, a6⟩ := ha
  obtain ⟨f1, f2, f3, f4, f5, f6⟩ := hf
  obtain ⟨c1, c2, c3, c4, c5, c6⟩ := hc
  obtain ⟨m1, m2, m3, m4, m5, m6⟩ := hm
  obtain ⟨q, hq, e⟩ := mem_stP.mp a1
  subst e
  have f1 : x2 = h := by simpa [rwBehind] using f1
  have c1 : x3 = h := by simpa [rwAround] using c1
  have m1 : x4 = h := by simpa [rwMore] using m1
  subst f1 c1 m1
  have a4 : prun T (p, q) a = x4 := by simpa [rwAhead] using a4
  have c4 : prun T x4 c = x4 := by simpa [rwAround] using c4
  have m4 : prun T x4 m = x4 := by simpa [rwMore] using m4
  obtain ⟨g1, g2, g3⟩ := mem_goP.mp f4
  have hA : prun T (p, q) (a ++ m) = x4 := by rw [prun_append, a4, m4]
  have c3 : 1 ≤ c.length := c3
  have a6 : a.length ≤ 16 * d := a6
  have f6 : f.length ≤ 16 * d := f6
  have c6 : c.length ≤ 16 * 1 := c6
  have m6 : m.length ≤ 16 * c.length := m6
  have m5 : m.length % c.length = lack := m5
  refine ⟨rfl, ⟨hp, hq, a2.append m2, c2, f2, ?_, ?_, ?_, ?_, ?_, ?_, ?_, ?_⟩⟩
  · show (a ++ m).length ≤ 10000
    rw [List.length_append]
    omega
  · show c.length ≤ 10000
    omega
  · show f.length ≤ 10000
    omega
  · show c ≠ []
    intro z
    rw [z] at c3
    exact absurd c3 (by decide)
  · show ((a ++ m).length + f.length) % c.length = 0
    have hlt := Nat.mod_lt (a.length + f.length) c3
    have e1 : (a ++ m).length + f.length = (a.length + f.length) + m.length := by rw [List.length_append]; omega
    rw [e1, Nat.add_mod, m5, hlack, Nat.add_mod_mod]
    have e2 : (a.length + f.length) % c.length + (c.length - (a.length + f.length) % c.length) = c.length := by omega
    rw [e2, Nat.mod_self]
  · show prun T (prun T (p, q) (a ++ m)) c = prun T (p, q) (a ++ m)
    rw [hA, c4]
  · show (prun T (prun T (p, q) (a ++ m)) f).2 = p
    rw [hA]
    exact g3
  · show (prun T (prun T (p, q) (a ++ m)) f).1 ≠ p
    rw [hA]
    exact g2
theorem lack_dvd (P : IsPart T h d) (hd : d ≠ 0) {j : Nat} (hj : j < d) {c a f : List Nat} (hc : Cl T h c) (ha : a.length % d = j) (hf : f.length % d = (d - j) % d) : d ∣ (c.length - (a.length + f.length) % c.length) % c.length := by
  have h1 : d ∣ c.length := P.closed hc
  have h2 : d ∣ a.length + f.length := by
    refine Nat.dvd_of_mod_eq_zero ?_
    rw [Nat.add_mod, ha, hf, Nat.add_mod_mod]
    have e : j + (d - j) = d := by omega
    rw [e, Nat.mod_self]
  have h3 : d ∣ (a.length + f.length) % c.length := (Nat.dvd_mod_iff h1).mpr h2
  exact (Nat.dvd_mod_iff h1).mpr (Nat.dvd_sub h1 h3)
end
end K27
/-! ## Defs13 -/
/-! A paper by way of a pair that comes back. -/
namespace K27
open PySem L2 PySem.Spec PyProof.Rows
def naD : Option Pap → PyData
  | none => .none
  | some d => .tuple [.int (d.q : Nat), .tuple (natsD d.a), .tuple (natsD d.r), .tuple (natsD d.f)]
theorem isn_na {K : PySem.W.Frag} {o : Option Pap} : Isn (dat K (naD o)) o.isNone := by
  cases o with
  | none => exact isn_none
  | some i => exact isn_dat (by intro h; cases h)
theorem isn_rw {K : PySem.W.Frag} {o : Option (Pr × List Nat)} : Isn (dat K (rwD o)) o.isNone := by
  cases o with
  | none => exact isn_none
  | some i => exact isn_dat (by intro h; cases h)
theorem dec_natN (a b : Nat) : (!decide ((a : Int) = (b : Int))) = decide (a ≠ b) := by
  rw [dec_nat]
  simp
theorem natsD_len (u : List Nat) : (natsD u).length = u.length := by unfold natsD; rw [List.length_map]
theorem natsD_app (u v : List Nat) : natsD (u ++ v) = natsD u ++ natsD v := by unfold natsD; rw [List.map_append]
section
variable {P : Program} {w : World} {K : PySem.W.Frag} {mg : Str → Option Value} {base : Heap}
abbrev naR (K : PySem.W.Frag) (T : Tb) (n p : Nat) (h : Pr) : Ty := some_ (fun o : Option Pap => (o = none → ¬ GoodHome T n p h) ∧ ∀ d, o = some d → d.p = p ∧ d.Ok T n) fun o => dat K (naD o)
abbrev CNat (P : Program) (w : World) (K : PySem.W.Frag) (mg : Str → Option Value) (base : Heap) (M : Addr) : Prop := Cal P w K mg base 3 "never_at" p_nat (spOf (fun d : Tb × Nat × Nat × Pr => MOk d.1 d.2.1 ∧ d.2.2.1 < d.2.1 ∧ InP d.2.1 d.2.2.2)
  (fun d => [mchT K M d.1 d.2.1, dat K (.int (d.2.2.1 : Nat)), dat K (prD d.2.2.2)]) (fun d => naR K d.1 d.2.1 d.2.2.1 d.2.2.2))
theorem c_nat {M : Addr} (D : DefAt K mg "never_at" snever_at p_nat) (B : Bu mg) (KM : Kls K M mFn) (CP : CPart P w K mg base) (CR : CRound P w K mg base) : CNat P w K mg base M :=
  def_ok (N := n_nat) D sc_nat (fun _ => rfl) fun f cdv A outer s H E d w0 Q σ hr hp S q => by
    obtain ⟨T, n, p, h⟩ := d
    obtain ⟨hM, hpn, hh⟩ := hp
    have hM : MOk T n := hM
    have hpn : p < n := hpn
    have hh : InP n h := hh
    have n4 := hM.n4
    show wS _ (_ :: _) _ _ _
    refine w_set (τ := dat K (tbD T)) 3 sc_nat.nd S (fld_c (nm 0 S) KM (by simp) rfl) fun σ1 w1 g1 S1 => ?_
    refine w_setS (Pp := fun f : Nat => IsPart T h f ∧ f ≤ 16) (κ := fun f => dat K (.int (f : Nat))) 4 sc_nat.nd S1 (call_c CP (hr.mono (by decide)) (T, n, h) ⟨hM, hh⟩ (ac (nm 3 S1) (ac (nm 2 S1) a0))) fun part σ2 w2 hpart g2 S2 => ?_
    obtain ⟨hP, h16⟩ := hpart
    have G2 := g1.trans g2
    refine w_when (b := decide (part = 0)) (eqT (dec_nat _ _) (t_eqI (nm 4 S2) ci)) (fun hb w3 g3 => ?_) (fun hb w3 g3 => ?_)
    · have hb := of_decide_eq_true hb
      subst hb
      exact w_ret cn fun v w4 g4 hv => q v w4 ((G2.trans g3).trans g4) ⟨none, ⟨fun _ => not_good_zero hP, fun d e => nomatch e⟩, hv⟩
    have hb : part ≠ 0 := of_decide_eq_false hb
    have S3 := S2.mono g3.g
    have G3 := G2.trans g3
    refine w_setLc 5 S3 (lcMV (xs := List.range n) (κ := fun i => dat K (.int (i : Nat))) [("other", 14)] 14 (fun i => dat K (prD (p, i))) rfl sc_nat.nd S3 (ivR B.range_ (fld_c (nm 0 S3) KM (by simp) rfl) (by omega)) (by rw [List.length_range]; omega)
      (fun i y σ2 w4 hy g4 S4 s0 H0 C0 cl fp => tupD (ds := [.int (p : Nat), .int (y : Nat)]) (ac (nm 1 S4) (ac (nm 14 S4) a0)))) fun σ4 w4 g4 S4 => ?_
    refine w_setLc 6 S4 (lcifMV (xs := List.range n) (κ := fun i => dat K (.int (i : Nat))) [("other", 14)] 14 (fun i => decide (i ≠ p)) (fun i => dat K (prD (i, p))) rfl sc_nat.nd S4 (ivR B.range_ (fld_c (nm 0 S4) KM (by simp) rfl) (by omega)) (by rw [List.length_range]; omega)
      (fun i y σ2 w4 hy g4 S4 s0 H0 C0 cl fp => eqT (dec_natN y p) (t_neI (nm 14 S4) (nm 1 S4))) (fun i y σ2 w4 hy hb g4 S4 s0 H0 C0 cl fp => tupD (ds := [.int (y : Nat), .int (p : Nat)]) (ac (nm 14 S4) (ac (nm 1 S4) a0)))) fun σ5 w5 g5 S5 => ?_
    have e5 : lstT K ((List.range n).map fun i => dat K (prD (p, i))) = lstT K (((stP n p).map prD).map (dat K)) := by
      unfold stP
      rw [List.map_map, List.map_map]
      rfl
    have e6 : lstT K (((List.range n).filter fun i => decide (i ≠ p)).map fun i => dat K (prD (i, p))) = lstT K (((goP n p).map prD).map (dat K)) := by
      unfold goP
      rw [List.map_map, List.map_map]
      rfl
    have S5 : Sl w5.G σ5 [some (mchT K M T n), some (dat K (.int (p : Nat))), some (dat K (prD h)), some (dat K (tbD T)), some (dat K (.int (part : Nat))), some (lstT K (((stP n p).map prD).map (dat K))), some (lstT K (((goP n p).map prD).map (dat K))), none, none, none, none, none, none, none, none] := by
      rw [← e5, ← e6]
      exact S5
    have G5 := (G3.trans g4).trans g5
    refine w_setS (Pp := fun z : Pr × List Nat => (rwAround T n h).Res (some z)) (κ := fun z => dat K (.tuple (natsD z.2))) 7 sc_nat.nd S5 (ixSm (κ := fun z => [dat K (prD z.1), dat K (.tuple (natsD z.2))]) (i := 1) ((call_c CR (hr.mono (by decide)) (rwAround T n h) (rwAround_ok hM hh) (ac (nm 3 S5) (ac (lstD (ds := [prD h]) (ac (nm 2 S5) a0)) (ac (lstD (ds := [prD h]) (ac (nm 2 S5) a0)) (ac ci (ac ci (ac ci a0))))))).imp fun v G ⟨o, ho, hv⟩ => ?_) ci fun z hz => rfl) fun z3 σ6 w6 hc g6 S6 => ?_
    · cases o with
      | none => exact absurd ho (around_some hP hb)
      | some z => exact ⟨z, ho, dat_tuple.mp hv⟩
    obtain ⟨x3, c⟩ := z3
    have G6 := G5.trans g6
    have hcl : Cl T h c := by
      obtain ⟨c1, c2, c3, c4, c5, c6⟩ := hc
      have c1 : x3 = h := by simpa [rwAround] using c1
      subst c1
      exact ⟨c2, by simpa [rwAround] using c4⟩
    have hc1 : 1 ≤ c.length := hc.2.2.1
    have hc16 : c.length ≤ 16 := hc.2.2.2.2.2
    refine w_forM (D := { nx := fun _ H' => Q .non H', rt := Q }) (xs := List.range part) (κ := fun i => dat K (.int (i : Nat))) 8 rfl PassesOwn.never sc_nat.nd (ivR B.range_ (nm 4 S6) (by omega))
      (fun i σ w' => Grow w0 w' ∧ Sl w'.G σ [some (mchT K M T n), some (dat K (.int (p : Nat))), some (dat K (prD h)), some (dat K (tbD T)), some (dat K (.int (part : Nat))), some (lstT K (((stP n p).map prD).map (dat K))), some (lstT K (((goP n p).map prD).map (dat K))), some (dat K (.tuple (natsD c))), none, none, none, none, none, none, none] ∧
        ∀ j, j < i → (rwAhead T n p h part j).Res none ∨ (rwBehind T n p h part j).Res none) (fun w' g => ⟨G6.trans g, S6.mono g.g, fun j hj => absurd hj (Nat.not_lt_zero _)⟩) (fun i y σ' w7 w8 v hy hI g8 hv => ?_) (fun σ' w' hI => ?_)
    · obtain ⟨gI, SI, hfail⟩ := hI
      have eyi : y = i := by
        have h1 := (List.getElem?_eq_some_iff.mp hy)
        obtain ⟨h2, h3⟩ := h1
        rw [List.getElem_range] at h3
        exact h3.symm
      subst eyi
      have hyp : y < part := List.mem_range.mp (List.mem_of_getElem? hy)
      have S8 := (SI.mono g8.g).put hv 8
      have G8 := gI.trans g8
      refine w_setS (Pp := fun o => (rwAhead T n p h part y).Res o) (κ := fun o => dat K (rwD o)) 9 sc_nat.nd S8 (call_c CR (hr.mono (by decide)) (rwAhead T n p h part y) (rwAhead_ok hM hpn hh h16 hyp) (ac (nm 3 S8) (ac (ofL (nm 5 S8)) (ac (lstD (ds := [prD h]) (ac (nm 2 S8) a0)) (ac (nm 4 S8) (ac (nm 8 S8) (ac ci a0))))))) fun oa σ9 w9 hoa g9 S9 => ?_
      have em : (0 - (y : Int)) % (part : Int) = (((part - y) % part : Nat) : Int) := by
        rw [Int.natCast_emod]
        have e1 : ((part - y : Nat) : Int) = (0 - (y : Int)) + (part : Int) * 1 := by omega
        rw [e1, Int.add_mul_emod_self_left]
      refine w_setS (Pp := fun o => (rwBehind T n p h part y).Res o) (κ := fun o => dat K (rwD o)) 10 sc_nat.nd S9 (call_c CR (hr.mono (by decide)) (rwBehind T n p h part y) (rwBehind_ok hM hpn hh h16 hyp) (ac (nm 3 S9) (ac (lstD (ds := [prD h]) (ac (nm 2 S9) a0)) (ac (ofL (nm 6 S9)) (ac (nm 4 S9) (ac (eqE (congrArg _ em) (imod (sub ci (nm 8 S9)) (nm 4 S9) (by omega))) (ac ci a0))))))) fun ob σ10 w10 hob g10 S10 => ?_
      have G10 := (G8.trans g9).trans g10
      refine w_when (b := !oa.isNone && !ob.isNone) (ww (and' (t_notN (nm 9 S10) isn_rw) fun _ => and1 (t_notN (nm 10 S10) isn_rw))) (fun hbb w11 g11 => ?_) (fun hbb w11 g11 => wS_nil ⟨w11, rfl, ((g9.g.trans g10.g).trans g11.g), G10.trans g11, (((S10.mono g11.g).forget 8).forget 9).forget 10, fun j hj => ?_⟩)
      · cases oa with
        | none => cases hbb
        | some xa =>
          cases ob with
          | none => cases hbb
          | some xb =>
            obtain ⟨x, a⟩ := xa
            obtain ⟨x2, ff⟩ := xb
            have S11 := S10.mono g11.g
            have ha6 : a.length ≤ 16 * part := hoa.2.2.2.2.2
            have hf6 : ff.length ≤ 16 * part := hob.2.2.2.2.2
            have ha5 : a.length % part = y := hoa.2.2.2.2.1
            have hf5 : ff.length % part = (part - y) % part := hob.2.2.2.2.1
            refine w_set (τ := dat K (.int (c.length : Nat))) 11 sc_nat.nd S11 (eqE (by rw [natsD_len]) (lenTD B.len_ (nm 7 S11))) fun σ12 w12 g12 S12 => ?_
            have el : (0 - (a.length : Int) - (ff.length : Int)) % (c.length : Int) = (((c.length - (a.length + ff.length) % c.length) % c.length : Nat) : Int) := by
              have hlt := Nat.mod_lt (a.length + ff.length) hc1
              rw [Int.natCast_emod]
              have e0 := Nat.mod_add_div (a.length + ff.length) c.length
              have e1 : ((c.length - (a.length + ff.length) % c.length : Nat) : Int) = (0 - (a.length : Int) - (ff.length : Int)) + (c.length : Int) * (1 + ((a.length + ff.length) / c.length : Nat)) := by
                have e2 : (c.length : Int) * (1 + ((a.length + ff.length) / c.length : Nat)) = (c.length : Int) + ((c.length * ((a.length + ff.length) / c.length) : Nat) : Int) := by
                  rw [Int.mul_add, Int.mul_one, Int.natCast_mul]
                rw [e2]
                omega
              rw [e1, Int.add_mul_emod_self_left]
            refine w_set (τ := dat K (.int ((c.length - (a.length + ff.length) % c.length) % c.length : Nat))) 12 sc_nat.nd S12 (eqE (congrArg _ el) (imod (sub (sub ci (eqE (by rw [natsD_len]) (lenTD B.len_ (ixTD (xs := [prD x, .tuple (natsD a)]) (nm 9 S12) ci (atI_nat (i := 1) rfl))))) (eqE (by rw [natsD_len]) (lenTD B.len_ (ixTD (xs := [prD x2, .tuple (natsD ff)]) (nm 10 S12) ci (atI_nat (i := 1) rfl))))) (nm 11 S12) (by omega))) fun σ13 w13 g13 S13 => ?_
            have hld := lack_dvd hP hb hyp hcl ha5 hf5
            have hll : (c.length - (a.length + ff.length) % c.length) % c.length < c.length := Nat.mod_lt _ hc1
            refine w_setS (Pp := fun z : Pr × List Nat => (rwMore T n h c.length ((c.length - (a.length + ff.length) % c.length) % c.length)).Res (some z)) (κ := fun z => dat K (.tuple (natsD z.2))) 13 sc_nat.nd S13 (ixSm (κ := fun z => [dat K (prD z.1), dat K (.tuple (natsD z.2))]) (i := 1) ((call_c CR (hr.mono (by decide)) (rwMore T n h c.length ((c.length - (a.length + ff.length) % c.length) % c.length)) (rwMore_ok hM hh hc1 hc16 hll) (ac (nm 3 S13) (ac (lstD (ds := [prD h]) (ac (nm 2 S13) a0)) (ac (lstD (ds := [prD h]) (ac (nm 2 S13) a0)) (ac (nm 11 S13) (ac (nm 12 S13) (ac ci a0))))))).imp fun v G ⟨o, ho, hv⟩ => ?_) ci fun z hz => rfl) fun z4 σ14 w14 hm g14 S14 => ?_
            · cases o with
              | none => exact absurd ho (more_some hP hc1 hll hld)
              | some z => exact ⟨z, ho, dat_tuple.mp hv⟩
            obtain ⟨x4, m⟩ := z4
            have hm6 : m.length ≤ 16 * c.length := hm.2.2.2.2.2
            obtain ⟨ex, hpap⟩ := pap_of hM hpn hP hb hyp h16 hc hoa hob rfl hm
            refine w_ret (τ := dat K (naD (some ⟨p, x.2, a ++ m, c, ff⟩))) (tupD (ds := [.int (x.2 : Nat), .tuple (natsD (a ++ m)), .tuple (natsD c), .tuple (natsD ff)]) (ac (ixTD (xs := [.int (x.1 : Nat), .int (x.2 : Nat)]) (ixTD (xs := [prD x, .tuple (natsD a)]) (nm 9 S14) ci (atI_nat (i := 0) rfl)) ci (pr_at1 x))
              (ac (eqE (by rw [natsD_app]) (catD (xs := natsD a) (ys := natsD m) (ixTD (xs := [prD x, .tuple (natsD a)]) (nm 9 S14) ci (atI_nat (i := 1) rfl)) (nm 13 S14) (by rw [natsD_len, natsD_len]; omega))) (ac (nm 7 S14) (ac (ixTD (xs := [prD x2, .tuple (natsD ff)]) (nm 10 S14) ci (atI_nat (i := 1) rfl)) a0))))) fun v w15 g15 hv => q v w15 (((((G10.trans g11).trans g12).trans g13).trans g14).trans g15) ⟨some ⟨p, x.2, a ++ m, c, ff⟩, ⟨fun z => (nomatch z), fun d e => ?_⟩, hv⟩
            cases e
            exact ⟨rfl, hpap⟩
      · rcases Nat.lt_or_ge j y with z | z
        · exact hfail j z
        · have : j = y := by omega
          subst this
          cases oa with
          | none => exact .inl hoa
          | some _ =>
            cases ob with
            | none => exact .inr hob
            | some _ => cases hbb
    · obtain ⟨gI, SI, hfail⟩ := hI
      rw [List.length_range] at hfail
      exact w_ret cn fun v w4 g4 hv => q v w4 (gI.trans g4) ⟨none, ⟨fun _ => not_good hpn hP hb hfail hM, fun d e => nomatch e⟩, hv⟩
end
end K27
/-! ## Defs14 -/
/-! Papers that no number is enough. -/
namespace K27
open PySem L2 PySem.Spec PyProof.Rows
def papD : Option Pap → PyData
  | none => .none
  | some d => .tuple [.str "never", .int (d.p : Nat), .int (d.q : Nat), .tuple (natsD d.a), .tuple (natsD d.r), .tuple (natsD d.f)]
theorem isn_pap {K : PySem.W.Frag} {o : Option Pap} : Isn (dat K (papD o)) o.isNone := by
  cases o with
  | none => exact isn_none
  | some i => exact isn_dat (by intro h; cases h)
theorem home_of {d : WArg} (hd : d.Ok) (h : pB d (nOf d) = true) : ∃ x, GoodHome d.T d.n d.p x := by
  have c1 := hd.k.rnd.c1
  have per : ∀ L, d.e ≤ L → Parts d.T d.n d.p (L + d.c) = Parts d.T d.n d.p L := fun L hL => hd.k.rnd.parts hd.m hd.p L hL
  have hN1 : 1 ≤ nOf d := Nat.mul_pos (Nat.succ_pos _) c1
  have heN : d.e ≤ nOf d := by
    have h0 := Nat.mod_add_div d.e d.c
    have h1 := Nat.mod_lt d.e c1
    unfold nOf
    rw [Nat.succ_mul, Nat.mul_comm]
    omega
  exact good_home hd.m hd.p hN1 fun k hk => parts_all per ⟨_, rfl⟩ heN ((pB_iff hd _).mp h) hk
structure NpOk (i : Tb × Nat × Option (List Nat)) : Prop where
  m : MOk i.1 i.2.1
  l : LotOk i.2.1 i.2.2
section
variable {P : Program} {w : World} {K : PySem.W.Frag} {mg : Str → Option Value} {base : Heap}
abbrev kwS : List (Str × V) := [("states", .non)]
abbrev npR (K : PySem.W.Frag) (T : Tb) (n : Nat) (So : Option (List Nat)) : Ty := some_ (fun o : Option Pap => (o = none ↔ ∀ p ∈ lotOf n So, pB (wkA T n p) (nOf (wkA T n p)) = false) ∧ ∀ d, o = some d → d.p ∈ lotOf n So ∧ d.Ok T n) fun o => dat K (papD o)
abbrev CNpap (P : Program) (w : World) (K : PySem.W.Frag) (mg : Str → Option Value) (base : Heap) (M : Addr) : Prop := KCal P w K mg base 6 "never_paper" snever_paper kwS p_npaper (spOf NpOk (fun i => [mchT K M i.1 i.2.1, dat K (lotD i.2.2)]) (fun i => npR K i.1 i.2.1 i.2.2))
theorem c_npap {M C : Addr} (D : KDefAt K mg "never_paper" snever_paper kwS) (B : Bu mg) (KM : Kls K M mFn) (CS : CStarts P w K mg base M) (CI : CPini P w K mg base M C) (CN : CNone P w K mg base C) (CA : CNat P w K mg base M) : CNpap P w K mg base M :=
  kdef_ok (N := n_npaper) D sc_npaper (fun _ => rfl) fun f cdv A outer s H E i w0 Q σ hr hp S q => by
    obtain ⟨T, n, So⟩ := i
    have hM : MOk T n := hp.m
    have L : LotOk n So := hp.l
    have n4 := hM.n4
    have okd : ∀ p ∈ lotOf n So, (wkA T n p).Ok := fun p hp => wkA_ok hM (L.lot_lt hp)
    have q : ∀ v w', Grow w0 w' → (npR K T n So).p v w'.G → Q v w'.H := q
    show wS _ (_ :: _) _ _ _
    refine w_forM (D := { nx := fun _ H' => Q .non H', rt := Q }) (xs := lotOf n So) (κ := fun p => dat K (.int (p : Nat))) 2 rfl PassesOwn.never sc_npaper.nd (eqI_ (by unfold natsD; rw [List.map_map]; rfl) (ivT (xs := natsD (lotOf n So)) (call_c CS (hr.mono (by decide)) (T, n, So) ⟨hM, L⟩ (ac (nm 0 S) (ac (nm 1 S) a0)))))
      (fun i σ w' => Grow w0 w' ∧ Sl w'.G σ [some (mchT K M T n), some (dat K (lotD So)), none, none, none, none] ∧ ∀ p ∈ (lotOf n So).take i, pB (wkA T n p) (nOf (wkA T n p)) = false) (fun w' g => ⟨g, S.mono g.g, fun p hp => (nomatch hp)⟩) (fun i p σ' w3 w4 v hy hI g4 hv => ?_) (fun σ' w' hI => ?_)
    · obtain ⟨gI, SI, hno⟩ := hI
      have hpl : p ∈ lotOf n So := List.mem_of_getElem? hy
      have hpn : p < n := L.lot_lt hpl
      have S4 := (SI.mono g4.g).put hv 2
      have G4 := gI.trans g4
      refine w_if (b := pB (wkA T n p) (nOf (wkA T n p))) (t_val (call_c CN (hr.mono (by decide)) (wkA T n p) (okd p hpl) (ac (make_c CI (hr.mono (by decide)) (wkA T n p) (okd p hpl) (ac (nm 0 S4) (ac (nm 2 S4) a0))) a0))) (fun hb w5 g5 => ?_) (fun hb w5 g5 => wS_nil (wS_nil ⟨w5, rfl, g5.g, G4.trans g5, (S4.mono g5.g).forget 2, fun p' hp' => ?_⟩))
      · have S5 := S4.mono g5.g
        have G5 := G4.trans g5
        obtain ⟨x, hx⟩ := home_of (okd p hpl) hb
        have hx : GoodHome T n p x := hx
        have hxin := hx.ins
        refine w_forM (xs := List.range n) (κ := fun i => dat K (.int (i : Nat))) 3 rfl PassesOwn.never sc_npaper.nd (ivR B.range_ (fld_c (nm 0 S5) KM (by simp) rfl) (by omega))
          (fun i σ w' => Grow w0 w' ∧ Sl w'.G σ [some (mchT K M T n), some (dat K (lotD So)), some (dat K (.int (p : Nat))), none, none, none] ∧ ∀ a b, a < i → b < n → ¬ GoodHome T n p (a, b)) (fun w' g => ⟨G5.trans g, S5.mono g.g, fun a b h => absurd h (Nat.not_lt_zero _)⟩) (fun a y σ' w6 w7 v hy hI g7 hv => ?_) (fun σ' w' hI => ?_)
        · obtain ⟨gI, SI, hna⟩ := hI
          have eya : y = a := by
            obtain ⟨h2, h3⟩ := List.getElem?_eq_some_iff.mp hy
            rw [List.getElem_range] at h3
            exact h3.symm
          subst eya
          have hyn : y < n := List.mem_range.mp (List.mem_of_getElem? hy)
          have S7 := (SI.mono g7.g).put hv 3
          have G7 := gI.trans g7
          refine w_forM (xs := List.range n) (κ := fun i => dat K (.int (i : Nat))) 4 rfl PassesOwn.never sc_npaper.nd (ivR B.range_ (fld_c (nm 0 S7) KM (by simp) rfl) (by omega))
            (fun i σ w' => Same w7.G w'.G ∧ Grow w0 w' ∧ Sl w'.G σ [some (mchT K M T n), some (dat K (lotD So)), some (dat K (.int (p : Nat))), some (dat K (.int (y : Nat))), none, none] ∧ ∀ b, b < i → ¬ GoodHome T n p (y, b)) (fun w' g => ⟨g.g, G7.trans g, S7.mono g.g, fun b h => absurd h (Nat.not_lt_zero _)⟩) (fun b z σ' w8 w9 v hz hI g9 hv => ?_) (fun σ' w' hI => ?_)
          · obtain ⟨sI, gI, SI, hnb⟩ := hI
            have ezb : z = b := by
              obtain ⟨h2, h3⟩ := List.getElem?_eq_some_iff.mp hz
              rw [List.getElem_range] at h3
              exact h3.symm
            subst ezb
            have hzn : z < n := List.mem_range.mp (List.mem_of_getElem? hz)
            have S9 := (SI.mono g9.g).put hv 4
            have G9 := gI.trans g9
            refine w_setS (Pp := fun o : Option Pap => (o = none → ¬ GoodHome T n p (y, z)) ∧ ∀ d, o = some d → d.p = p ∧ d.Ok T n) (κ := fun o => dat K (naD o)) 5 sc_npaper.nd S9 (call_c CA (hr.mono (by decide)) (T, n, p, (y, z)) ⟨hM, hpn, hyn, hzn⟩ (ac (nm 0 S9) (ac (nm 2 S9) (ac (tupD (ds := [.int (y : Nat), .int (z : Nat)]) (ac (nm 3 S9) (ac (nm 4 S9) a0))) a0)))) fun o σ10 w10 ho g10 S10 => ?_
            obtain ⟨ho1, ho2⟩ := ho
            refine w_when (b := !o.isNone) (t_notN (nm 5 S10) isn_na) (fun hb w11 g11 => ?_) (fun hb w11 g11 => wS_nil ⟨w11, rfl, (g10.g.trans g11.g), (sI.trans g9.g).trans (g10.g.trans g11.g), (G9.trans g10).trans g11, ((S10.mono g11.g).forget 4).forget 5, fun b' hb' => ?_⟩)
            · cases o with
              | none => cases hb
              | some d =>
                have S11 := S10.mono g11.g
                obtain ⟨e1, hd⟩ := ho2 d rfl
                subst e1
                refine w_ret (τ := dat K (papD (some d))) (catD (xs := [.str "never", .int (d.p : Nat)]) (ys := [.int (d.q : Nat), .tuple (natsD d.a), .tuple (natsD d.r), .tuple (natsD d.f)]) (tupD (ds := [.str "never", .int (d.p : Nat)]) (ac cs (ac (nm 2 S11) a0))) (nm 5 S11) (by simp)) fun v w12 g12 hv => q v w12 (((G9.trans g10).trans g11).trans g12) ⟨some d, ⟨⟨fun z => (nomatch z), fun z => ?_⟩, fun d' e => ?_⟩, hv⟩
                · rename_i hb5 _ _ _
                  have := z d.p hpl
                  simp_all
                · cases e
                  exact ⟨hpl, hd⟩
            · rcases Nat.lt_or_ge b' z with h | h
              · exact hnb b' h
              · have : b' = z := by omega
                subst this
                cases o with
                | none => exact ho1 rfl
                | some d => cases hb
          · obtain ⟨sI, gI, SI, hnb⟩ := hI
            rw [List.length_range] at hnb
            refine wS_nil ⟨w', rfl, sI, gI, SI.forget 3, fun a' b' ha hb => ?_⟩
            rcases Nat.lt_or_ge a' y with h | h
            · exact hna a' b' h hb
            · have : a' = y := by omega
              subst this
              exact hnb b' hb
        · obtain ⟨gI, SI, hna⟩ := hI
          rw [List.length_range] at hna
          exact absurd hx (hna x.1 x.2 hxin.1 hxin.2)
      · rw [List.take_succ, hy] at hp'
        rcases List.mem_append.mp hp' with h | h
        · exact hno p' h
        · have : p' = p := by simpa using h
          subst this
          exact hb
    · obtain ⟨gI, SI, hno⟩ := hI
      rw [List.take_length] at hno
      exact w_ret cn fun v w4 g4 hv => q v w4 (gI.trans g4) ⟨none, ⟨⟨fun _ => hno, fun _ => rfl⟩, fun d e => nomatch e⟩, hv⟩
end
end K27
/-! ## Defs15 -/
/-! A paper looked through. -/
namespace K27
open PySem L2 PySem.Spec PyProof.Rows
section
variable {X : Cx} {e a b : Expr} {es : List Expr} {σ : L2.St} {w w' : Wd} {τ τ' : Ty} {pos : Pos} {ds : List (Option Ty)} {rest body : List Stmt} {D : Ends}
theorem g5 {K : PySem.W.Frag} {τ1 τ2 τ3 τ4 τ5 : Ty} {i1 i2 i3 i4 i5 : Nat} {x : V} {Q : L2.St → Hp → Prop} (h : (tupT K [τ1, τ2, τ3, τ4, τ5]).p x w.G) (k : ∀ v1 v2 v3 v4 v5, τ1.p v1 w.G → τ2.p v2 w.G → τ3.p v3 w.G → τ4.p v4 w.G → τ5.p v5 w.G → Q (((((σ.set i1 (some v1)).set i2 (some v2)).set i3 (some v3)).set i4 (some v4)).set i5 (some v5)) w.H) :
    gTup K 5 (gCons (gName i1) (gCons (gName i2) (gCons (gName i3) (gCons (gName i4) (gCons (gName i5) gNil))))) x σ w.H Q := by
  obtain ⟨a, vs, ev, hs, ht⟩ := h
  cases ht with
  | cons h1 t =>
    cases t with
    | cons h2 t =>
      cases t with
      | cons h3 t =>
        cases t with
        | cons h4 t =>
          cases t with
          | cons h5 t =>
            cases t
            exact ⟨a, _, ev, sm_seqT w.sub hs, rfl, _, _, rfl, _, _, rfl, _, _, rfl, _, _, rfl, _, _, rfl, rfl, k _ _ _ _ _ h1 h2 h3 h4 h5⟩
/-- a, b, c, d, e = t -/
theorem w_unp5 {τ1 τ2 τ3 τ4 τ5 : Ty} {x1 x2 x3 x4 x5 : Str} {p1 p2 p3 p4 p5 pt : Pos} {kt} (i1 i2 i3 i4 i5 : Nat) (hc : X.calm = true) (hN : X.N.Nodup) (S : Sl w.G σ ds) (he : Ev X σ w e (tupT X.K [τ1, τ2, τ3, τ4, τ5])) (k : ∀ σ' w', Grow w w' → Sl w'.G σ' (((((ds.set i1 (some τ1)).set i2 (some τ2)).set i3 (some τ3)).set i4 (some τ4)).set i5 (some τ5)) → wS X rest D σ' w'.H)
    (h1 : PN X i1 x1 := by exact ⟨rfl, by first | exact Or.inl rfl | exact Or.inr rfl, by first | exact .inl rfl | exact .inr rfl⟩) (h2 : PN X i2 x2 := by exact ⟨rfl, by first | exact Or.inl rfl | exact Or.inr rfl, by first | exact .inl rfl | exact .inr rfl⟩)
    (h3 : PN X i3 x3 := by exact ⟨rfl, by first | exact Or.inl rfl | exact Or.inr rfl, by first | exact .inl rfl | exact .inr rfl⟩) (h4 : PN X i4 x4 := by exact ⟨rfl, by first | exact Or.inl rfl | exact Or.inr rfl, by first | exact .inl rfl | exact .inr rfl⟩)
    (h5 : PN X i5 x5 := by exact ⟨rfl, by first | exact Or.inl rfl | exact Or.inr rfl, by first | exact .inl rfl | exact .inr rfl⟩)
    (hs : swapsWithSole [.Tuple [.Name x1 p1, .Name x2 p2, .Name x3 p3, .Name x4 p4, .Name x5 p5] kt pt] e pos.line X.env = pure false := by rfl) (hw : swappedStores [.Tuple [.Name x1 p1, .Name x2 p2, .Name x3 p3, .Name x4 p4, .Name x5 p5] kt pt] e X.env = pure none := by rfl) :
    wS X (.Assign [.Tuple [.Name x1 p1, .Name x2 p2, .Name x3 p3, .Name x4 p4, .Name x5 p5] kt pt] e pos :: rest) D σ w.H :=
  wS_cons (toS1 (ps_asg uE (pg_tup hc (pgs_cons (pn_pg hN h1) (pgs_cons (pn_pg hN h2) (pgs_cons (pn_pg hN h3) (pgs_cons (pn_pg hN h4) (pgs_cons (pn_pg hN h5) pgs_nil)))))) hs hw) (he w (Grow.refl _) _ fun v w2 g2 hv => g5 hv fun v1 v2 v3 v4 v5 k1 k2 k3 k4 k5 => k _ w2 g2 ((((((S.mono g2.g).put k1 i1).put k2 i2).put k3 i3).put k4 i4).put k5 i5)))
end
section
variable {P : Program} {w : World} {K : PySem.W.Frag} {mg : Str → Option Value} {base : Heap}
abbrev CIslog (P : Program) (w : World) (K : PySem.W.Frag) (mg : Str → Option Value) (base : Heap) (M : Addr) : Prop := Cal P w K mg base 4 "is_log" p_islog (spOf (fun d : Tb × Nat × List Nat => Log d.1 d.2.2 ∧ d.2.2.length ≤ 10000)
  (fun d => [mchT K M d.1 d.2.1, dat K (.tuple (natsD d.2.2))]) (fun _ => dat K (.bool true)))
theorem c_islog {M : Addr} (D : DefAt K mg "is_log" sis_log p_islog) (B : Bu mg) (KM : Kls K M mFn) (CB : CBel P w K mg base) (CS : CSeq P w K mg base) : CIslog P w K mg base M :=
  def_ok (N := n_islog) D sc_islog (fun _ => rfl) fun f cdv A outer s H E d w0 Q σ hr hp S q => by
    obtain ⟨T, n, u⟩ := d
    obtain ⟨hu, hl⟩ := hp
    have hu : Log T u := hu
    have hl : u.length ≤ 10000 := hl
    show wS _ (_ :: _) _ _ _
    refine w_ret (τ := dat K (.bool true)) ?_ q
    refine vandT (call_c CS (hr.mono (by decide)) (.tuple (natsD u)) True.intro (ac (nm 1 S) a0)) (vandT (eqE ?_ (le (lenTD B.len_ (nm 1 S)) ci)) (v1 (eqE ?_ (all_ (bs := u.map fun _ => true) rfl B.all_
      (eqL ?_ (lcM (xs := u) (κ := fun i => dat K (.int (i : Nat))) [("deed", 2)] 2 (fun _ => dat K (.bool true)) rfl sc_islog.nd S (eqI_ ?_ (ivT (xs := natsD u) (nm 1 S))) (by omega) (fun i y σ2 w4 hy g4 S4 s0 H0 C cl fp => eqE ?_ (call_c CB (hr.mono (by decide)) (.int (y : Nat), (T.length : Nat)) True.intro (ac (nm 2 S4) (ac (fld_c (nm 0 S4) KM (by simp) rfl) a0))))))))))
    · rw [natsD_len]
      exact congrArg _ (decide_eq_true (by omega))
    · rw [List.all_map]
      exact congrArg _ (List.all_eq_true.mpr fun _ _ => rfl)
    · rw [List.map_map]
      rfl
    · unfold natsD
      rw [List.map_map]
      rfl
    · exact congrArg _ (bel_nat (hu y (List.mem_of_getElem? hy)))
structure NhArg where
  T : Tb
  n : Nat
  So : Option (List Nat)
  d : Pap
structure NhArg.Ok (i : NhArg) : Prop where
  m : MOk i.T i.n
  l : LotOk i.n i.So
  d : i.d.Ok i.T i.n
  p : i.d.p ∈ lotOf i.n i.So
abbrev CNhold (P : Program) (w : World) (K : PySem.W.Frag) (mg : Str → Option Value) (base : Heap) (M : Addr) : Prop := KCal P w K mg base 6 "never_holds" snever_holds kwS p_nholds (spOf NhArg.Ok (fun i => [mchT K M i.T i.n, dat K (papD (some i.d)), dat K (lotD i.So)]) (fun _ => dat K (.bool true)))
theorem c_nhold {M : Addr} (D : KDefAt K mg "never_holds" snever_holds kwS) (B : Bu mg) (KM : Kls K M mFn) (CS : CStarts P w K mg base M) (CQ : CSeq P w K mg base) (CT : CTxt P w K mg base) (CN : CNum P w K mg base) (CB : CBel P w K mg base) (CL : CIslog P w K mg base M) (CE : CBeh P w K mg base) : CNhold P w K mg base M :=
  kdef_ok (N := n_nholds) D sc_nholds (fun _ => rfl) fun f cdv A outer s H E i w0 Q σ hr hp S q => by
    obtain ⟨T, n, So, ⟨p, qq, a, r, ff⟩⟩ := i
    have hM : MOk T n := hp.m
    have L : LotOk n So := hp.l
    have hd : Pap.Ok T n ⟨p, qq, a, r, ff⟩ := hp.d
    have hpl : p ∈ lotOf n So := hp.p
    have hpn : p < n := hd.pn
    have hqn : qq < n := hd.qn
    have la : Log T a := hd.la
    have lr : Log T r := hd.lr
    have lf : Log T ff := hd.lf
    have za : a.length ≤ 10000 := hd.za
    have zr : r.length ≤ 10000 := hd.zr
    have zf : ff.length ≤ 10000 := hd.zf
    have hne : r ≠ [] := hd.ne
    have hsz : (a.length + ff.length) % r.length = 0 := hd.sz
    have hr1 : 1 ≤ r.length := List.length_pos_iff.mpr hne
    have hrd : prun T (prun T (p, qq) a) r = prun T (p, qq) a := hd.rd
    have he2 : (prun T (prun T (p, qq) a) ff).2 = p := hd.e2
    have he1 : (prun T (prun T (p, qq) a) ff).1 ≠ p := hd.e1
    have hu : (A.deeper (envOfC "never_holds" (defScope snever_holds) s.heap.objs.size f cdv)).units + 64 < cLine := hr.units
    have hx := hM.prun_in (x := (p, qq)) ⟨hpn, hqn⟩ la
    generalize hxe : prun T (p, qq) a = x at hrd he2 he1 hx
    have hx1 : run T p a = x.1 := congrArg Prod.fst hxe
    have hx2 : run T qq a = x.2 := congrArg Prod.snd hxe
    show wS _ (_ :: _) _ _ _
    refine w_set (τ := dat K (.tuple (natsD (lotOf n So)))) 3 sc_nholds.nd S (call_c CS (hr.mono (by decide)) (T, n, So) ⟨hM, L⟩ (ac (nm 0 S) (ac (nm 2 S) a0))) fun σ1 w1 g1 S1 => ?_
    refine w_when (b := false) (ww (orF (tnF (tvB rfl (call_c CQ (hr.mono (by decide)) (papD (some ⟨p, qq, a, r, ff⟩)) True.intro (ac (nm 1 S1) a0)))) (orF (eqT (by rfl) (t_neI (lenTD (xs := [.str "never", .int (p : Nat), .int (qq : Nat), .tuple (natsD a), .tuple (natsD r), .tuple (natsD ff)]) B.len_ (nm 1 S1)) ci))
      (orF (tnF (tvB rfl (call_c CT (hr.mono (by decide)) (.str "never") True.intro (ac (ixTD (xs := [.str "never", .int (p : Nat), .int (qq : Nat), .tuple (natsD a), .tuple (natsD r), .tuple (natsD ff)]) (nm 1 S1) ci (atI_nat (i := 0) rfl)) a0)))) (or1 (eqT (by decide) (t_neF (ixTD (xs := [.str "never", .int (p : Nat), .int (qq : Nat), .tuple (natsD a), .tuple (natsD r), .tuple (natsD ff)]) (nm 1 S1) ci (atI_nat (i := 0) rfl)) cs (.str "never") (.str "never") rfl))))))) (fun h => nomatch h) (fun _ w2 g2 => ?_)
    have S2 := S1.mono g2.g
    refine w_unp5 (τ1 := dat K (.int (p : Nat))) (τ2 := dat K (.int (qq : Nat))) (τ3 := dat K (.tuple (natsD a))) (τ4 := dat K (.tuple (natsD r))) (τ5 := dat K (.tuple (natsD ff))) 4 5 6 7 8 rfl sc_nholds.nd S2 (slT (asT (xs := [.str "never", .int (p : Nat), .int (qq : Nat), .tuple (natsD a), .tuple (natsD r), .tuple (natsD ff)]) (nm 1 S2)) (by simp)) fun σ3 w3 g3 S3 => ?_
    refine w_when (b := false) (ww (orF (tnF (tvB (by show decide ((0 : Int) ≤ (p : Nat)) = true; exact decide_eq_true (by omega)) (call_c CN (hr.mono (by decide)) (.int (p : Nat)) True.intro (ac (nm 4 S3) a0)))) (orF (eqT ?_ (t_notInT (ns := (lotOf n So).map fun (i : Nat) => (i : Int)) (nm 4 S3) (eqTu ?_ (asT (nm 3 S3))))) (or1 (tnF (tvB (bel_nat hqn) (call_c CB (hr.mono (by decide)) (.int (qq : Nat), (n : Nat)) True.intro (ac (nm 5 S3) (ac (fld_c (nm 0 S3) KM (by simp) rfl) a0))))))))) (fun h => nomatch h) (fun _ w4 g4 => ?_)
    · rw [decide_eq_true (List.mem_map.mpr ⟨p, hpl, rfl⟩)]
      rfl
    · unfold natsD
      rw [List.map_map, List.map_map]
      rfl
    have S4 := S3.mono g4.g
    refine w_when (b := false) (ww (orF (tnF (tvB ?_ (all_ (bs := [a, r, ff].map fun _ => true) rfl B.all_ (eqL (by rw [List.map_map]; rfl) (lcM (xs := [a, r, ff]) (κ := fun u => dat K (.tuple (natsD u))) [("log", 11)] 11 (fun _ => dat K (.bool true)) rfl sc_nholds.nd S4 (iv_tup (tup_ (ac (nm 6 S4) (ac (nm 7 S4) (ac (nm 8 S4) a0))) (by show 3 ≤ sizeLine; decide))) (by simp)
      (fun i u σ2 w4 hy g4 S4 s0 H0 C cl fp => call_c CL (hr.mono (by decide)) (T, n, u) ?_ (ac (nm 0 S4) (ac (nm 11 S4) a0)))))))) (or1 (eqT ?_ (t_eqI (lenTD B.len_ (nm 7 S4)) ci))))) (fun h => nomatch h) (fun _ w5 g5 => ?_)
    · rfl
    · have hm : u ∈ [a, r, ff] := List.mem_of_getElem? hy
      rcases (by simpa using hm : u = a ∨ u = r ∨ u = ff) with z | z | z
      · rw [z]; exact ⟨la, za⟩
      · rw [z]; exact ⟨lr, zr⟩
      · rw [z]; exact ⟨lf, zf⟩
    · rw [natsD_len]
      exact decide_eq_false (by omega)
    have S5 := S4.mono g5.g
    refine w_when (b := false) (eqT ?_ (t_neI (imod (i := (a.length : Int) + (ff.length : Int)) (j := (r.length : Nat)) (add (eqE (by rw [natsD_len]) (lenTD B.len_ (nm 6 S5))) (eqE (by rw [natsD_len]) (lenTD B.len_ (nm 8 S5)))) (eqE (by rw [natsD_len]) (lenTD B.len_ (nm 7 S5))) (by omega)) ci)) (fun h => nomatch h) (fun _ w6 g6 => ?_)
    · have e : ((a.length : Int) + (ff.length : Int)) % (r.length : Int) = 0 := by
        rw [← Int.natCast_add, ← Int.natCast_emod, hsz]
        rfl
      rw [e]
      rfl
    have S6 := S5.mono g6.g
    refine w_set (τ := dat K (tbD T)) 9 sc_nholds.nd S6 (fld_c (nm 0 S6) KM (by simp) rfl) fun σ7 w7 g7 S7 => ?_
    refine w_set (τ := dat K (prD x)) 10 sc_nholds.nd S7 (tupD (ds := [.int (x.1 : Nat), .int (x.2 : Nat)]) (ac (eqE (by rw [← hx1]) (call_c CE (hr.mono (by decide)) (T, n, p, a) ⟨hM, hpn, la, za⟩ (ac (nm 9 S7) (ac (nm 4 S7) (ac (nm 6 S7) a0))))) (ac (eqE (by rw [← hx2]) (call_c CE (hr.mono (by decide)) (T, n, qq, a) ⟨hM, hqn, la, za⟩ (ac (nm 9 S7) (ac (nm 5 S7) (ac (nm 6 S7) a0))))) a0))) fun σ8 w8 g8 S8 => ?_
    refine w_when (b := false) (eqT ?_ (t_neD (d := prD (prun T x r)) (d' := prD x) hu (tupD (ds := [.int (run T x.1 r : Nat), .int (run T x.2 r : Nat)]) (ac (call_c CE (hr.mono (by decide)) (T, n, x.1, r) ⟨hM, hx.1, lr, zr⟩ (ac (nm 9 S8) (ac (ixTD (xs := [.int (x.1 : Nat), .int (x.2 : Nat)]) (nm 10 S8) ci (pr_at0 x)) (ac (nm 7 S8) a0)))) (ac (call_c CE (hr.mono (by decide)) (T, n, x.2, r) ⟨hM, hx.2, lr, zr⟩ (ac (nm 9 S8) (ac (ixTD (xs := [.int (x.1 : Nat), .int (x.2 : Nat)]) (nm 10 S8) ci (pr_at1 x)) (ac (nm 7 S8) a0)))) a0))) (nm 10 S8) (prD_shaped _) (prD_shaped _))) (fun h => nomatch h) (fun _ w9 g9 => ?_)
    · rw [prD_eqv, decide_eq_true hrd]
      rfl
    have S9 := S8.mono g9.g
    have he2 : run T x.2 ff = p := he2
    have he1 : run T x.1 ff ≠ p := he1
    refine w_ret (τ := dat K (.bool true)) (vandT (eqE ?_ (eqI (call_c CE (hr.mono (by decide)) (T, n, x.2, ff) ⟨hM, hx.2, lf, zf⟩ (ac (nm 9 S9) (ac (ixTD (xs := [.int (x.1 : Nat), .int (x.2 : Nat)]) (nm 10 S9) ci (pr_at1 x)) (ac (nm 8 S9) a0)))) (nm 4 S9))) (v1 (eqE ?_ (neI (call_c CE (hr.mono (by decide)) (T, n, x.1, ff) ⟨hM, hx.1, lf, zf⟩ (ac (nm 9 S9) (ac (ixTD (xs := [.int (x.1 : Nat), .int (x.2 : Nat)]) (nm 10 S9) ci (pr_at0 x)) (ac (nm 8 S9) a0)))) (nm 4 S9))))) fun v w10 g10 hv => q v w10 (((((((((g1.trans g2).trans g3).trans g4).trans g5).trans g6).trans g7).trans g8).trans g9).trans g10) hv
    · show PyData.bool (decide ((run T x.2 ff : Int) = (p : Int))) = _
      rw [he2, decide_eq_true rfl]
    · show PyData.bool (!decide ((run T x.1 ff : Int) = (p : Int))) = _
      rw [dec_nat, decide_eq_false he1]
      rfl
end
end K27
/-! ## Exc3 -/
/-! What is refused: by check_starts, by check_bound, and by those that ask them. -/
namespace K27
open PySem L2 PySem.Spec PyProof.Rows
section
variable {P : Program} {W0 : World} {K : PySem.W.Frag} {mg : Str → Option Value} {base : Heap} {X : Cx} {σ : L2.St} {w : Wd} {e a : Expr} {es : List Expr} {pos p kp : Pos} {τs us : List Ty} {kws : List Keyword} {W : WX} {ι : Type} {pre : ι → Prop} {as : ι → List Ty} {bad : ι → Ty} {C : Addr} {k : Nat} {x : Str} {ps ks : List Str}
  {st : Stmt} {kd : List (Str × V)} {rest body : List Stmt} {D : Ends}
/-- f(e, .., k = v, ..), which raises -/
theorem ev_kcallX (n : Nat) (ms : List (Str × V)) (g : {α : Type} → List α → List α → List α → List α) (c : XKCal P W0 K mg base k x st kd ps (spX C pre as bad)) (tk : Takes X W) (hr : Room k X.A) (i : ι) (hp : pre i)
    (ha : Av X σ w (e :: es) τs) (hkw : Kv X σ w kws us) (hn : τs.length = n) (hms : ∀ q ∈ ms, q ∈ kd) (hne : kd ≠ [])
    (hty : ∀ (vs zs : List V) (G : Hp), Tys τs vs G → Tys us zs G → Tys (as i) (g vs (ms.map (·.2)) zs) G)
    (hrel : ∀ {vs mz zs : List V} {us mv ws : List Value}, Vals vs us → Vals mz mv → Vals zs ws → Vals (g vs mz zs) (g us mv ws))
    (h : ∀ (D : Addr) (doc pm : Value) (an : Option Addr) (cdv ct : Value) (us mv ws : List Value), us.length = n → mv.length = ms.length → ws.length = ks.length →
      KwChain D ((ms.map (·.1)).zip mv) (bindArgs (PySem.W.fnOf x x (defArgs st) (defBody st) (defScope st) .none (.ref D) doc pm an cdv ct) ⟨us, ks.zip ws⟩) (ps.zip (g us mv ws)))
    (hul : us.length = ks.length) (wish : ∀ σ cls d H', Ref C (bad i) w cls d H' → W cls d σ H') (h1 : X.prog = P := by rfl) (h2 : X.w = W0 := by rfl) (h3 : X.K = K := by rfl) (h4 : X.mg = mg := by rfl) (h5 : X.base = base := by rfl)
    (hg : Gl X x := by rfl) (hall : (backToKw pos (keywordEach kws X.env)).all (·.1.isSome) = true := by rfl) (hks : (backToKw pos (keywordEach kws X.env)).filterMap (·.1) = ks := by rfl)
    (hdb : (x == ("__debug__" : Str)) = false := by decide) (he : starEach (e :: es) X.env = (false, eval e X.env) :: starEach es X.env := by rfl)
    (hpl : ((backTo pos (starEach (e :: es) X.env)).any (·.1) || (backToKw pos (keywordEach kws X.env)).any (·.1.isNone)) = false := by rfl) :
    Ev X σ w (.Call (.Name x p) (e :: es) kws pos) botT := by
  subst h1 h2 h3 h4 h5
  obtain ⟨f, fd, F, FD, hm⟩ := c.ex
  obtain ⟨mv, hb⟩ := kbinds0 FD n ks ms g hne hms hrel h
  exact fun w1 g1 Q _ => toE (pe_callN (E := Ref C (bad i) w) F hr hg hm FD.kp hb (passes_call tk fun cls d σ H h => wish σ cls d H h) uA uK hall hks hdb he hpl) (ha w1 g1 _ fun vs w2 g2 hvs => hkw w2 (g1.trans g2) _ fun zs w3 g3 hzs =>
    ⟨by rw [hvs.length]; exact hn, by rw [hzs.length]; exact hul, i, w3, rfl, hp, hty vs zs _ (hvs.mono g3.g) hzs, fun cls d H' h => h.grow ((g1.trans g2).trans g3)⟩)
/-- what is walked raises -/
def IvB (X : Cx) (σ : L2.St) (w : Wd) (tg iter : Expr) : Prop := ∀ R : It → Hp → Prop, wI X tg iter σ w.H R
theorem iv_bot {tg : Expr} (h : Ev X σ w e botT) : IvB X σ w tg e := fun R => toI (pi_tup uE) (h w (Grow.refl _) _ fun _ _ _ z => z.elim)
theorem w_forB {tg iter : Expr} {g : TG} (hc : X.calm = true) (hp : PassesOwn (model X.prog X.w) X.A X.env X.xe) (hi : IvB X σ w tg iter) (hg : PG X tg g) (hf : ∀ x, foldedSetIterable iter X.env x = pure x := by intro _; rfl) : wS X (.For tg iter body [] pos :: rest) D σ w.H :=
  wS_cons (toS1 (ps_for hp hc uI hg uS hf) (hi _))
theorem w_dropB (he : Ev X σ w e botT) (hs : swapsWith e none pos.line X.env = pure false := by rfl) : wS X (.Expr e pos :: rest) D σ w.H :=
  wS_cons (toS1 (ps_expr uE hs) (he w (Grow.refl _) _ fun v w2 g2 z => z.elim))
/-- return [elt for x in iter], where iter raises -/
theorem w_retLB {elt iter : Expr} {y : Str} {tp rp : Pos} {scope : Scope} (own : List (Str × Nat)) (j : Nat) (hc : X.calm = true) (hN : X.N.Nodup) (hi : Ev X σ w iter botT)
    (ok : BlkOk X.N X.env.scope scope own := by first | exact blkOk_by (by decide +kernel) | exact blkOk_by (by dsimp only [cxOf, Cx.nox, Cx.wish, envOfC, Cx.blk, compEnvC]; decide +kernel)) (hb : BN X scope j y := by first | exact ⟨rfl, .inl rfl⟩ | exact ⟨rfl, .inr ⟨rfl, rfl⟩⟩) (hf : ∀ x, foldedSetIterable iter X.env x = pure x := by intro _; rfl) :
    wS X (.Return (some (.ListComp elt [⟨.Name y tp, iter, [], 0⟩] scope pos)) rp :: rest) D σ w.H :=
  wS_cons (toS1 (ps_ret (pe_lc hc hN uI ok (bn_pg hN hb) (fun _ _ _ _ _ => pts_nil) (fun s H C cl fp => upe) hf)) (iv_bot hi _))
end
section
variable {P : Program} {w : World} {K : PySem.W.Frag} {mg : Str → Option Value} {base : Heap}
structure BadS (n : Nat) (d : PyData) : Prop where
  ne : d ≠ .none
  asc : isAsc d (n : Nat) = false
  len : ∀ xs, (d = .list xs ∨ d = .tuple xs) → xs.length ≤ 1000
structure BadB (d : PyData) : Prop where
  ne : d ≠ .none
  num : isNum d = false ∨ d = .int 0
abbrev XStarts (P : Program) (w : World) (K : PySem.W.Frag) (mg : Str → Option Value) (base : Heap) (M CR : Addr) : Prop := XCal P w K mg base 5 "check_starts" p_starts (spX CR (fun d : Tb × Nat × PyData => BadS d.2.1 d.2.2) (fun d => [mchT K M d.1 d.2.1, dat K d.2.2]) (fun d => dat K d.2.2))
theorem x_starts {M CR fI : Addr} (D : DefAt K mg "check_starts" scheck_starts p_starts) (KM : Kls K M mFn) (CA : CAsc P w K mg base) (TR : RefTxt P K mg CR fI) : XStarts P w K mg base M CR :=
  xdef_ok (N := n_starts) D sc_starts (fun _ => rfl) fun f cdv A outer s H E i w0 Dn σ hr hp S tk q => by
    obtain ⟨T, n, d⟩ := i
    have hp : BadS n d := hp
    show wS _ (_ :: _) _ _ _
    refine w_if (b := false) (t_isN (nm 1 S) (isn_dat hp.ne)) (fun h => nomatch h) (fun _ w1 g1 => wS_nil ?_)
    have S1 := S.mono g1.g
    refine w_if (b := true) (tnT (tvB hp.asc (call_c CA (hr.mono (by decide)) (d, (n : Nat)) hp.len (ac (nm 1 S1) (ac (fld_c (nm 0 S1) KM (by simp) rfl) a0))))) (fun _ w2 g2 => ?_) (fun h => nomatch h)
    exact w_raise TR rfl tk hr (nm 1 (S1.mono g2.g)) fun v w3 dd g3 hv hd => q _ _ _ ⟨v, w3, dd, rfl, rfl, (g1.trans g2).trans g3, hv, hd, rfl⟩
abbrev XBound (P : Program) (w : World) (K : PySem.W.Frag) (mg : Str → Option Value) (base : Heap) (CR : Addr) : Prop := XCal P w K mg base 3 "check_bound" p_bound (spX CR BadB (fun d => [dat K d]) (fun d => dat K d))
theorem x_bound {CR fI : Addr} (D : DefAt K mg "check_bound" scheck_bound p_bound) (CN : CNum P w K mg base) (TR : RefTxt P K mg CR fI) : XBound P w K mg base CR :=
  xdef_ok (N := n_bound) D sc_bound (fun _ => rfl) fun f cdv A outer s H E d w0 Dn σ hr hp S tk q => by
    show wS _ (_ :: _) _ _ _
    refine w_if (b := true) (ww (andT (t_notN (nm 0 S) (isn_dat hp.ne)) (and1 (ww ?_)))) (fun _ w1 g1 => ?_) (fun h => nomatch h)
    · rcases hp.num with h | h
      · exact orT (tnT (tvB h (call_c CN (hr.mono (by decide)) d True.intro (ac (nm 0 S) a0))))
      · subst h
        exact orF (tnF (tvB rfl (call_c CN (hr.mono (by decide)) (.int 0) True.intro (ac (nm 0 S) a0)))) (or1 (eqT rfl (t_eqI (i := 0) (j := 0) (nm 0 S) ci)))
    · exact w_raise TR rfl tk hr (nm 0 (S.mono g1.g)) fun v w3 dd g3 hv hd => q _ _ _ ⟨v, w3, dd, rfl, rfl, g1.trans g3, hv, hd, rfl⟩
abbrev XWalks (P : Program) (w : World) (K : PySem.W.Frag) (mg : Str → Option Value) (base : Heap) (M CR : Addr) : Prop := XCal P w K mg base 6 "pair_walks" p_pwalks (spX CR (fun d : Tb × Nat × PyData => BadS d.2.1 d.2.2) (fun d => [mchT K M d.1 d.2.1, dat K d.2.2]) (fun d => dat K d.2.2))
theorem x_walks {M CR : Addr} (D : DefAt K mg "pair_walks" spair_walks p_pwalks) (XS : XStarts P w K mg base M CR) : XWalks P w K mg base M CR :=
  xdef_ok (N := n_pwalks) D sc_pwalks (fun _ => rfl) fun f cdv A outer s H E i w0 Dn σ hr hp S tk q => by
    show wS _ (_ :: _) _ _ _
    exact w_retLB [("state", 2)] 2 rfl sc_pwalks.nd (ev_callX XS tk (hr.mono (by decide)) i hp (ac (nm 0 S) (ac (nm 1 S) a0)) fun _ cls d H' h => q cls d H' h) (ok := by exact blkOk_by (by show blkC n_pwalks (defScope spair_walks) _ _ = true; decide +kernel))
/-- least_wrap, wrap_holds: no lot of states -/
structure LsArg where
  T : Tb
  n : Nat
  d : PyData
  b : PyData
abbrev XLeastS (P : Program) (w : World) (K : PySem.W.Frag) (mg : Str → Option Value) (base : Heap) (M CR : Addr) : Prop := XKCal P w K mg base 7 "least_wrap" sleast_wrap kwSB p_least (spX CR (fun i : LsArg => BadS i.n i.d) (fun i => [mchT K M i.T i.n, dat K i.d, dat K i.b]) (fun i => dat K i.d))
theorem x_leastS {M CR : Addr} (D : KDefAt K mg "least_wrap" sleast_wrap kwSB) (XW : XWalks P w K mg base M CR) : XLeastS P w K mg base M CR :=
  xkdef_ok (N := n_least) D sc_least (fun _ => rfl) fun f cdv A outer s H E i w0 Dn σ hr hp S tk q => by
    obtain ⟨T, n, d, b⟩ := i
    show wS _ (_ :: _) _ _ _
    exact w_bot 3 sc_least.nd (ev_callX XW tk (hr.mono (by decide)) (T, n, d) hp (ac (nm 0 S) (ac (nm 1 S) a0)) fun _ cls d H' h => q cls d H' h)
/-- no bound, all states -/
structure LbOk (i : Tb × Nat × PyData) : Prop where
  m : MOk i.1 i.2.1
  b : BadB i.2.2
theorem lot_none (n : Nat) : LotOk n none := ⟨fun S e => (nomatch e), fun S e => (nomatch e), fun S e => (nomatch e), fun S e => (nomatch e)⟩
abbrev XLeastB (P : Program) (w : World) (K : PySem.W.Frag) (mg : Str → Option Value) (base : Heap) (M CR : Addr) : Prop := XKCal P w K mg base 7 "least_wrap" sleast_wrap kwSB p_least (spX CR LbOk (fun i => [mchT K M i.1 i.2.1, dat K .none, dat K i.2.2]) (fun i => dat K i.2.2))
theorem x_leastB {M C CR : Addr} (D : KDefAt K mg "least_wrap" sleast_wrap kwSB) (CW : CWalks P w K mg base M C) (XB : XBound P w K mg base CR) : XLeastB P w K mg base M CR :=
  xkdef_ok (N := n_least) D sc_least (fun _ => rfl) fun f cdv A outer s H E i w0 Dn σ hr hp S tk q => by
    obtain ⟨T, n, d⟩ := i
    show wS _ (_ :: _) _ _ _
    refine w_set (τ := lstT K ((lotOf n none).map fun p => walkT K C (wkA T n p))) 3 sc_least.nd S (call_c CW (hr.mono (by decide)) (T, n, none) ⟨hp.m, lot_none n⟩ (ac (nm 0 S) (ac (nm 1 S) a0))) fun σ1 w1 g1 S1 => ?_
    exact w_dropB (ev_callX XB tk (hr.mono (by decide)) d hp.b (ac (nm 2 S1) a0) fun _ cls d H' h => q cls d H' (h.grow g1))
abbrev XWpapB (P : Program) (w : World) (K : PySem.W.Frag) (mg : Str → Option Value) (base : Heap) (M CR : Addr) : Prop := XKCal P w K mg base 7 "wrap_paper" swrap_paper kwSB p_wpaper (spX CR LbOk (fun i => [mchT K M i.1 i.2.1, dat K (.int (2 : Nat)), dat K .none, dat K i.2.2]) (fun i => dat K i.2.2))
theorem x_wpapB {M C CR : Addr} (D : KDefAt K mg "wrap_paper" swrap_paper kwSB) (CN : CNmod P w K mg base) (CW : CWalks P w K mg base M C) (XB : XBound P w K mg base CR) : XWpapB P w K mg base M CR :=
  xkdef_ok (N := n_wpaper) D sc_wpaper (fun _ => rfl) fun f cdv A outer s H E i w0 Dn σ hr hp S tk q => by
    obtain ⟨T, n, d⟩ := i
    show wS _ (_ :: _) _ _ _
    refine w_drop (call_c CN (hr.mono (by decide)) 2 ⟨by decide, by decide⟩ (ac (nm 1 S) a0)) fun w1 g1 => ?_
    have S1 := S.mono g1.g
    refine w_set (τ := lstT K ((lotOf n none).map fun p => walkT K C (wkA T n p))) 4 sc_wpaper.nd S1 (call_c CW (hr.mono (by decide)) (T, n, none) ⟨hp.m, lot_none n⟩ (ac (nm 0 S1) (ac (nm 2 S1) a0))) fun σ2 w2 g2 S2 => ?_
    exact w_dropB (ev_callX XB tk (hr.mono (by decide)) d hp.b (ac (nm 3 S2) a0) fun _ cls d H' h => q cls d H' (h.grow (g1.trans g2)))
abbrev XNpap (P : Program) (w : World) (K : PySem.W.Frag) (mg : Str → Option Value) (base : Heap) (M CR : Addr) : Prop := XKCal P w K mg base 6 "never_paper" snever_paper kwS p_npaper (spX CR (fun d : Tb × Nat × PyData => BadS d.2.1 d.2.2) (fun d => [mchT K M d.1 d.2.1, dat K d.2.2]) (fun d => dat K d.2.2))
theorem x_npap {M CR : Addr} (D : KDefAt K mg "never_paper" snever_paper kwS) (XS : XStarts P w K mg base M CR) : XNpap P w K mg base M CR :=
  xkdef_ok (N := n_npaper) D sc_npaper (fun _ => rfl) fun f cdv A outer s H E i w0 Dn σ hr hp S tk q => by
    show wS _ (_ :: _) _ _ _
    exact w_forB rfl (passes_of rfl) (iv_bot (ev_callX XS tk (hr.mono (by decide)) i hp (ac (nm 0 S) (ac (nm 1 S) a0)) fun _ cls d H' h => q cls d H' h)) (pg_name (i := 2) sc_npaper.nd rfl (by first | exact Or.inl rfl | exact Or.inr rfl) (by first | exact .inl rfl | exact .inr rfl))
abbrev XNhold (P : Program) (w : World) (K : PySem.W.Frag) (mg : Str → Option Value) (base : Heap) (M CR : Addr) : Prop := XKCal P w K mg base 6 "never_holds" snever_holds kwS p_nholds (spX CR (fun d : Tb × Nat × PyData => BadS d.2.1 d.2.2) (fun d => [mchT K M d.1 d.2.1, dat K .none, dat K d.2.2]) (fun d => dat K d.2.2))
theorem x_nhold {M CR : Addr} (D : KDefAt K mg "never_holds" snever_holds kwS) (XS : XStarts P w K mg base M CR) : XNhold P w K mg base M CR :=
  xkdef_ok (N := n_nholds) D sc_nholds (fun _ => rfl) fun f cdv A outer s H E i w0 Dn σ hr hp S tk q => by
    show wS _ (_ :: _) _ _ _
    exact w_bot 3 sc_nholds.nd (ev_callX XS tk (hr.mono (by decide)) i hp (ac (nm 0 S) (ac (nm 2 S) a0)) fun _ cls d H' h => q cls d H' h)
abbrev XWholdS (P : Program) (w : World) (K : PySem.W.Frag) (mg : Str → Option Value) (base : Heap) (M CR : Addr) : Prop := XKCal P w K mg base 6 "wrap_holds" swrap_holds kwSB p_wholds (spX CR (fun i : LsArg => BadS i.n i.d) (fun i => [mchT K M i.T i.n, dat K (.int (2 : Nat)), dat K .none, dat K i.d, dat K i.b]) (fun i => dat K i.d))
theorem x_wholdS {M CR : Addr} (D : KDefAt K mg "wrap_holds" swrap_holds kwSB) (CN : CNmod P w K mg base) (XS : XStarts P w K mg base M CR) : XWholdS P w K mg base M CR :=
  xkdef_ok (N := n_wholds) D sc_wholds (fun _ => rfl) fun f cdv A outer s H E i w0 Dn σ hr hp S tk q => by
    obtain ⟨T, n, d, b⟩ := i
    show wS _ (_ :: _) _ _ _
    refine w_drop (call_c CN (hr.mono (by decide)) 2 ⟨by decide, by decide⟩ (ac (nm 1 S) a0)) fun w1 g1 => ?_
    have S1 := S.mono g1.g
    exact w_bot 5 sc_wholds.nd (ev_callX XS tk (hr.mono (by decide)) (T, n, d) hp (ac (nm 0 S1) (ac (nm 3 S1) a0)) fun _ cls d H' h => q cls d H' (h.grow g1))
abbrev XWholdB (P : Program) (w : World) (K : PySem.W.Frag) (mg : Str → Option Value) (base : Heap) (M CR : Addr) : Prop := XKCal P w K mg base 6 "wrap_holds" swrap_holds kwSB p_wholds (spX CR LbOk (fun i => [mchT K M i.1 i.2.1, dat K (.int (2 : Nat)), dat K .none, dat K .none, dat K i.2.2]) (fun i => dat K i.2.2))
theorem x_wholdB {M CR : Addr} (D : KDefAt K mg "wrap_holds" swrap_holds kwSB) (CN : CNmod P w K mg base) (CS : CStarts P w K mg base M) (XB : XBound P w K mg base CR) : XWholdB P w K mg base M CR :=
  xkdef_ok (N := n_wholds) D sc_wholds (fun _ => rfl) fun f cdv A outer s H E i w0 Dn σ hr hp S tk q => by
    obtain ⟨T, n, d⟩ := i
    show wS _ (_ :: _) _ _ _
    refine w_drop (call_c CN (hr.mono (by decide)) 2 ⟨by decide, by decide⟩ (ac (nm 1 S) a0)) fun w1 g1 => ?_
    have S1 := S.mono g1.g
    refine w_set (τ := dat K (.tuple (natsD (lotOf n none)))) 5 sc_wholds.nd S1 (call_c CS (hr.mono (by decide)) (T, n, none) ⟨hp.m, lot_none n⟩ (ac (nm 0 S1) (ac (nm 3 S1) a0))) fun σ2 w2 g2 S2 => ?_
    exact w_dropB (ev_callX XB tk (hr.mono (by decide)) d hp.b (ac (nm 4 S2) a0) fun _ cls d H' h => q cls d H' (h.grow (g1.trans g2)))
end
end K27
/-! ## Exc4 -/
/-! Lambdas as values: made, kept in lists, called by the def that hears what is refused. -/
namespace K27
open PySem L2 PySem.Spec PyProof.Rows
open LamX (CodeO TabB LamS lamEnv lamCx)
/-! ### growth, but for one thing -/
structure GrowB (p : Addr) (a b : Wd) : Prop where
  g : Same a.G b.G
  h : ∀ x o, a.H x = some o → x ≠ p → b.H x = some o
  ap : ∀ x o, a.H x = some o → a.G x = none → x ≠ p → b.G x = none
theorem Grow.b {p : Addr} {a b : Wd} (g : Grow a b) : GrowB p a b := ⟨g.g, fun x o h _ => g.h x o h, fun x o h n _ => g.ap x o h n⟩
theorem GrowB.trans {p : Addr} {a b c : Wd} (x : GrowB p a b) (y : GrowB p b c) : GrowB p a c := ⟨x.g.trans y.g, fun z o h n => y.h z o (x.h z o h n) n, fun z o h m n => y.ap z o (x.h z o h n) (x.ap z o h m n) n⟩
theorem GrowB.lay {p : Addr} {w : Wd} {o : HO} {n : w.G p = none} : GrowB p w (w.lay p o n) := ⟨Same.refl _, fun x u h ne => (upd_ne ne).trans h, fun x u h m _ => m⟩
theorem Own.growB {p a : Addr} {w w' : Wd} {o : HO} (x : Own w a o) (g : GrowB p w w') (ne : a ≠ p) : Own w' a o := ⟨g.h _ _ x.at_ ne, g.ap _ _ x.at_ x.free ne⟩
/-! ### function objects -/
def LamO (f : Addr) (o : Obj) : HO := .ext fun h => h.get? f = some o
theorem lamO_ok {P : Program} {w : World} {H : Hp} {h : Heap} {f : Addr} {o : Obj} (e : h.get? f = some o) : ObjOk P w H h f (LamO f o) := ⟨e, ⟨o, e⟩, fun _ _ z k => k _ z⟩
theorem lamO_at {P : Program} {w : World} {H : Hp} {h : Heap} {f : Addr} {o : Obj} (hok : HOk P w H h) (e : H f = some (LamO f o)) : h.get? f = some o := by
  have x : ObjOk P w H h f (.ext fun h => h.get? f = some o) := hok f _ e
  exact x.1
abbrev lamObj (X : Cx) (params : Arguments) (body : Expr) (scope : Scope) (pm : Value) (c' : Addr) (ctv : Value) : Obj := PySem.W.kla_obj "<lambda>" (X.env.qual ++ "<lambda>") params body scope (cloFrom X.env.cells scope.names []) pm c' ctv
/-- what a def's table of code objects holds -/
structure TblOk (q : Str) (G : Hp) (ps : Array Value) : Prop where
  tri : TriplesOk ps.toList
  at_ : ∀ (pos : Pos) (cv : Value), codeAmong pos ps.toList = some cv → ∃ c, cv = .ref c ∧ G c = some (CodeO c q)
theorem TblOk.mono {q : Str} {G G' : Hp} {ps : Array Value} (t : TblOk q G ps) (e : Same G G') : TblOk q G' ps := ⟨t.tri, fun pos cv h => by
  obtain ⟨c, e1, e2⟩ := t.at_ pos cv h
  exact ⟨c, e1, e _ _ e2⟩⟩
theorem TblOk.nil (q : Str) (G : Hp) : TblOk q G #[] := ⟨True.intro, fun pos cv h => by
  have z : codeAmong pos [] = some cv := h
  simp [codeAmong] at z⟩
section
variable {X : Cx} {σ : L2.St} {w : Wd} {c P : Addr} {ps : Array Value} {params : Arguments} {body : Expr} {scope : Scope} {pos : Pos} {Q : VK}
theorem lam_ev (TB : TabB X.base X.mg c P) (hcode : X.env.code = .ref c) (L : LamS X.env.scope scope) (hdef : defaultsOf params X.env = ([], [])) (ow : Own w P (.tbl ps)) (ht : TblOk (X.env.qual ++ "<lambda>") w.G ps)
    (k : ∀ f c' pm ctv w' ps', GrowB P w w' → w.H f = none → w'.G f = some (LamO f (lamObj X params body scope pm c' ctv)) → w'.G c' = some (CodeO c' (X.env.qual ++ "<lambda>")) → Own w' P (.tbl ps') → TblOk (X.env.qual ++ "<lambda>") w'.G ps' → Q (.ref f) w'.H) :
    wE X (.Lambda params body scope pos) σ w.H Q := by
  intro pins s I
  refine PySem.W.kla_eval hdef ?_
  have bP : s.heap.BuiltinsAt X.mg P := TB.bm.keeps I.bk
  have hP : s.heap.get? P = some { cls := .none, data := .fields ps } := I.hok P _ ow.at_
  cases hc : codeAmong pos ps.toList with
  | some cv =>
    obtain ⟨c', e, hco⟩ := ht.at_ pos cv hc
    subst e
    refine PySem.W.kla_makeFunctionHit (mg := X.mg) (c := c) (P := P) (ps := ps) (closure_ok (L.has I.ok)) I.ok.glob (I.mod.glob.keeps I.bk) hcode (TB.code.keeps I.bk) hP ht.tri hc bP fun ctv h' tk hx hsz => ?_
    have nf : w.H h'.objs.size = none := I.hok.fresh hsz
    have gn := Grow.new (w := w) (o := LamO h'.objs.size (lamObj X params body scope ((X.mg "__name__").getD .none) c' ctv)) nf
    have J : Inv X pins σ (w.new h'.objs.size (LamO h'.objs.size (lamObj X params body scope ((X.mg "__name__").getD .none) c' ctv))).H { s with heap := h'.push (lamObj X params body scope ((X.mg "__name__").getD .none) c' ctv), toks := tk } :=
      I.laid (t' := tk) (fun b o e => Heap.get?_push_of_some _ (hx b o e)) hsz (lamO_ok (Heap.get?_push_size _ rfl))
    exact ⟨.ref h'.objs.size, _, J, rfl, k h'.objs.size c' ((X.mg "__name__").getD .none) ctv _ ps gn.b nf Wd.new_at (gn.g _ _ hco) (ow.grow gn) (ht.mono gn.g)⟩
  | none =>
    refine PySem.W.kla_makeFunction (mg := X.mg) (c := c) (P := P) (ps := ps) (closure_ok (L.has I.ok)) I.ok.glob (I.mod.glob.keeps I.bk) hcode (TB.code.keeps I.bk) hP ht.tri hc TB.gP bP fun c' ctv h' tk hx hge hlt hrec htb => ?_
    obtain ⟨c2, oc, vs, t, e2, hoc, hd, hv⟩ := hrec
    cases e2
    have nc : w.H c' = none := I.hok.fresh hge
    have I1 := LamX.inv_table (t' := tk) (more := #[rawInt pos.line, rawInt pos.col, .ref c']) (q := X.env.qual ++ "<lambda>") (h' := h') I ow.at_ hx htb hge ⟨oc, vs, t, hoc, hd, hv⟩
    have ne : c' ≠ P := fun z => by
      rw [z, ow.at_] at nc
      cases nc
    have nc1 : (w.lay P (.tbl (ps ++ #[rawInt pos.line, rawInt pos.col, .ref c'])) ow.free).H c' = none := (upd_ne ne).trans nc
    have g1 := Grow.new (w := w.lay P (.tbl (ps ++ #[rawInt pos.line, rawInt pos.col, .ref c'])) ow.free) (o := CodeO c' (X.env.qual ++ "<lambda>")) nc1
    have nf : ((w.lay P (.tbl (ps ++ #[rawInt pos.line, rawInt pos.col, .ref c'])) ow.free).new c' (CodeO c' (X.env.qual ++ "<lambda>"))).H h'.objs.size = none := I1.hok.fresh (Nat.le_refl _)
    have nf0 : w.H h'.objs.size = none := I.hok.fresh (Nat.le_trans hge (Nat.le_of_lt hlt))
    have g2 := Grow.new (w := (w.lay P (.tbl (ps ++ #[rawInt pos.line, rawInt pos.col, .ref c'])) ow.free).new c' (CodeO c' (X.env.qual ++ "<lambda>"))) (o := LamO h'.objs.size (lamObj X params body scope ((X.mg "__name__").getD .none) c' ctv)) nf
    have J := I1.laid (t' := tk) (o := LamO h'.objs.size (lamObj X params body scope ((X.mg "__name__").getD .none) c' ctv)) (h' := h'.push (lamObj X params body scope ((X.mg "__name__").getD .none) c' ctv)) (fun b o e => Heap.get?_push_of_some _ e) (Nat.le_refl _) (lamO_ok (Heap.get?_push_size _ rfl))
    refine ⟨.ref h'.objs.size, _, J, rfl, k h'.objs.size c' ((X.mg "__name__").getD .none) ctv _ (ps ++ #[rawInt pos.line, rawInt pos.col, .ref c']) (GrowB.lay.trans (g1.trans g2).b) nf0 Wd.new_at (g2.g _ _ Wd.new_at) (Own.self.grow (g1.trans g2)) ⟨?_, fun p' cv hcv => ?_⟩⟩
    · rw [show (ps ++ #[rawInt pos.line, rawInt pos.col, .ref c']).toList = ps.toList ++ [rawInt pos.line, rawInt pos.col, .ref c'] by simp]
      exact PySem.TriplesOk_snoc _ _ _ _ ht.tri
    · rw [show (ps ++ #[rawInt pos.line, rawInt pos.col, .ref c']).toList = ps.toList ++ [rawInt pos.line, rawInt pos.col, .ref c'] by simp] at hcv
      rcases LamX.among_app _ ht.tri hcv with z | z
      · obtain ⟨c0, e1, e2⟩ := ht.at_ p' cv z
        exact ⟨c0, e1, (g1.g.trans g2.g) _ _ e2⟩
      · exact ⟨c', z, g2.g _ _ Wd.new_at⟩
end
/-! ### what a lambda in a list is worth: called, it refuses -/
structure AskOk (X : Cx) (k : Nat) (ds : List (Option Ty)) (C : Addr) (bad : Ty) (params : Arguments) (body : Expr) (scope : Scope) : Prop where
  L : LamS X.env.scope scope
  bind : ∀ (q : Str) (cl : List (Str × Addr)) (pm cv ctv : Value), bindArgs (PySem.W.kla_fn "<lambda>" q params body scope cl pm cv ctv) ⟨[], []⟩ = pure []
  ev : ∀ (A : Around) (outer : List Env) (s : Shared) (H : Hp) (E : XK) (f c' : Addr), Room k (A.deeper (lamEnv X scope s.heap.objs.size f c')) → ∀ (σ : L2.St) (w : Wd), Sl w.G σ ds → (∀ cls d H', Ref C bad w cls d H' → E cls d H') → Ev (lamCx X A outer s H E scope f c') σ w body botT
def askT (X : Cx) (k : Nat) (ds : List (Option Ty)) (C : Addr) (bad : Ty) : Ty := ⟨fun v G => ∃ (f c' : Addr) (pm ctv : Value) (params : Arguments) (body : Expr) (scope : Scope), v = .ref f ∧ G f = some (LamO f (lamObj X params body scope pm c' ctv)) ∧ G c' = some (CodeO c' (X.env.qual ++ "<lambda>")) ∧ AskOk X k ds C bad params body scope,
  fun e ⟨f, c', pm, ctv, params, body, scope, h1, h2, h3, h4⟩ => ⟨f, c', pm, ctv, params, body, scope, h1, e _ _ h2, e _ _ h3, h4⟩⟩
section
variable {P : Program} {W0 : World} {K : PySem.W.Frag} {mg : Str → Option Value} {base : Heap}
/-- Y: the context of _law_heard, entered at s1 by a block of X, in the world w3 -/
theorem heard_body {X : Cx} {k : Nat} {ds : List (Option Ty)} {CR fI : Addr} {bad : PyData} (B : Bu X.mg) (TR : RefTxt X.prog X.K X.mg CR fI) (XF : XfC X.K CR) (sh : Shw bad) {pins : List (Addr × Obj)} {σX : L2.St} {s1 : Shared} {w3 : Wd} (J : Inv X pins σX w3.H s1) (SX : Sl w3.G σX ds) {v : V} (hv : (askT X k ds CR (dat X.K bad)).p v w3.G)
    {g : Addr} {cdv : Value} {Q : VK} (hr : Room (k + 1) (X.A.deeper (envOfC "_law_heard" (defScope s_law_heard) s1.heap.objs.size g cdv))) (hgd : X.A.guards = some []) (q : ∀ w4, Grow w3 w4 → Q (.str bad.shown) w4.H) :
    wS (BX X.prog X.w X.K X.mg X.base n_lheard "_law_heard" s_law_heard g cdv X.A X.stack s1 w3.H E0) (defBody s_law_heard) { nx := fun _ H' => Q .non H', rt := Q } (L2.start n_lheard [v]) w3.H := by
  obtain ⟨f, c', pm, ctv, params, body, scope, ev, hf, hc, AK⟩ := hv
  subst ev
  have hu : (X.A.deeper (envOfC "_law_heard" (defScope s_law_heard) s1.heap.objs.size g cdv)).units + 64 < cLine := hr.units
  generalize hY : BX X.prog X.w X.K X.mg X.base n_lheard "_law_heard" s_law_heard g cdv X.A X.stack s1 w3.H E0 = Y
  have hYe : Y = BX X.prog X.w X.K X.mg X.base n_lheard "_law_heard" s_law_heard g cdv X.A X.stack s1 w3.H E0 := hY.symm
  subst hYe
  show wS _ (_ :: _) _ _ _
  refine wS_cons (toS1 (ps_try_as (i := 1) (n := "fault") (x := "Refused") (c := .ref CR)
    (tb := fun W _ σZ HZ => ∃ wZ : Wd, wZ.H = HZ ∧ Grow w3 wZ ∧ σZ[0]? = some (some (.ref f)) ∧ ∀ cls d H', Ref CR (dat X.K bad) wZ cls d H' → W cls d σZ H')
    (ts := fun a cls d D σ H => ∃ (wZ : Wd) (v : V) (dd : Addr), wZ.H = H ∧ Grow w3 wZ ∧ σ[1]? = some (some (.ref a)) ∧ cls = .ref CR ∧ d = some dd ∧ wZ.H dd = some (.xd [(("at" : Str), v)]) ∧ (dat X.K bad).p v wZ.G ∧ ∀ w4, Grow wZ w4 → D.rt (.str bad.shown) w4.H)
    (Wout := fun _ _ _ _ => False) rfl rfl sc_lheard.nd rfl rfl ⟨rfl, by decide, .inl TR.gC⟩ L2.takes0 (fun W pn xe tk _ => ?_) (fun a oe cls d pn hz hfl => ?_)) ?_)
  · -- the lambda called
    refine pss_one (ps_expr (te := fun σZ HZ _ => ∃ wZ : Wd, wZ.H = HZ ∧ Grow w3 wZ ∧ σZ[0]? = some (some (.ref f)) ∧ ∀ cls d H', Ref CR (dat X.K bad) wZ cls d H' → W cls d σZ H') ⟨fun pinsZ sZ σZ HZ QZ IZ ⟨wZ, eH, gZ, hs, wish⟩ => ?_⟩ rfl)
    subst eH
    refine wpAny_Call_Name_kw (thn ((pe_var (i := 0) rfl (.inl rfl)).run pinsZ sZ σZ wZ.H (fun v H1 => v = .ref f ∧ H1 = wZ.H) IZ ⟨.ref f, hs, rfl, rfl⟩) fun u s2 ⟨v, H1, I2, r2, ev, eH⟩ => ?_)
    subst ev eH
    obtain rfl : u = Value.ref f := r2
    have of2 : s2.heap.get? f = some (lamObj X params body scope pm c' ctv) := lamO_at I2.hok (gZ.h _ _ (w3.sub _ _ hf))
    refine PySem.W.callWith_F0 ⟨_, _, _, _, of2⟩ ?_
    have un : Un (frs X.stack) [] w3.H wZ.H s1.heap s2.heap := I2.base
    obtain ⟨⟨oc, vs, t, hoc, hdc, hvc⟩, _, _⟩ := I2.hok c' _ (gZ.h _ _ (w3.sub _ _ hc))
    have rc : codeAny (model X.prog X.w) (X.A.deeper (envOfC "_law_heard" (defScope s_law_heard) s1.heap.objs.size g cdv)) (.call (.ref f) ⟨[], []⟩) (L2.CR (L2.CX X.prog X.w) (envOfC "_law_heard" (defScope s_law_heard) s1.heap.objs.size g cdv :: X.stack) X.prog X.w wZ.H s2 QZ (fun cls d H' => W cls d σZ H')) s2 := by
      refine PySem.W.kla_callFunE hr.depth of2 rfl AK.L.co AK.L.gen rfl ⟨c', oc, vs, t, rfl, hoc, hdc, hvc⟩ ?_
      rw [AK.bind]
      refine wpAny_pure (wpAny_newFunctionEnv (fun y hy => (AK.L.own y hy).2) (fun y hy => absurd hy (by simp)) (fun h₁ hns hsb => ⟨I2.nolimit.fresh _ hsb, ?_⟩) AK.L.kind)
      have kp : ∀ b o, s2.heap.get? b = some o → h₁.get? b = some o := fun b o e => hsb.extBut b o (Nat.ne_of_lt (Heap.lt_size e)) (Heap.get?_push_of_some _ e)
      have JJ := LamX.lam_start2 (tk := s2.toks + ([] : List (Str × Value)).length) (E := fun cls d H' => W cls d σZ H') (f := f) (c' := c') J AK.L I2.env0 hr.hd un hns kp
      refine PySem.W.kla_codeExpr (wpAny_mono ((AK.ev _ _ s2 wZ.H (fun cls d H' => W cls d σZ H') f c' (hr.deeper _) σX wZ (SX.mono gZ.g) wish) wZ (Grow.refl _) (fun _ _ => False) (fun _ _ _ z => z.elim) [] _ JJ) (fun v s' hq => ?_) fun e s' hq => hq)
      obtain ⟨_, _, _, _, z⟩ := hq
      exact z.elim
    refine wpAny_call (codeAny_mono rc fun r s' hq => ?_)
    cases r with
    | error e => exact tk _ _ (XE.of_call I2 (fun cls d H' h => h) hq)
    | ok fl =>
      cases fl with
      | ret u => exact I2.after hq
      | next => exact False.elim hq
      | brk => exact False.elim hq
      | cont => exact False.elim hq
  · -- what it heard
    refine ⟨fun pinsS sS σS HS DS IS ⟨wZ, v, dd, eH, gZ, hs, ec, ed, hdd, hvb, hrt⟩ => ?_⟩
    subst eH ec ed
    have hrun : wS (Cx.suite (BX X.prog X.w X.K X.mg X.base n_lheard "_law_heard" s_law_heard g cdv X.A X.stack s1 w3.H E0) a ((a, oe) :: pn)) [.Return (some (.Call (.Name "repr" ⟨347, 15, 347, 19⟩) [.Attribute (.Name "fault" ⟨347, 20, 347, 25⟩) "at" ⟨347, 20, 347, 28⟩] [] ⟨347, 15, 347, 29⟩)) ⟨347, 8, 347, 29⟩] DS σS wZ.H := by
      refine w_ret (repr_ hgd hu B.repr_ (d := bad) ?_ sh) fun v w4 g4 hv4 => by
        rw [Dp.str_iff hv4]
        exact hrt w4 g4
      exact fun w4 g4 Q4 k4 => toE (pe_xf XF TR.noN hz hfl (pe_var (i := 1) rfl (.inl rfl))) ⟨.ref a, hs, rfl, rfl, dd, _, v, rfl, g4.h _ _ hdd, rfl, k4 v w4 (Grow.refl _) ((dat X.K bad).m g4.g hvb)⟩
    exact hrun pinsS sS IS
  · refine ⟨w3, rfl, Grow.refl _, rfl, fun cls d H' ⟨v, w4, dd, e1, e2, g4, hv, hd, eH⟩ => ?_⟩
    subst e1 e2 eH
    have gn := Grow.new (w := w4) (o := .xd [(("at" : Str), v)]) hd
    exact ⟨true, TR.te, fun _ a ha => ⟨w4.new dd _, v, dd, rfl, g4.trans gn, rfl, rfl, rfl, upd_same, (dat X.K bad).m gn.g hv, fun w5 g5 => q w5 ((g4.trans gn).trans g5)⟩, fun z => nomatch z⟩
end
end K27
/-! ## Exc5 -/
/-! A comprehension whose test is never true, and may know the state of the def around it; lists of lambdas. -/
namespace K27
open PySem L2 PySem.Spec PyProof.Rows
open LamX (CodeO TabB LamS lamEnv lamCx)
section
variable {X : Cx}
/-- no item is kept: Nx is what a turn is to reach -/
def tLcF (wi : TI) (g : TG) (tt : TT) (vs : List Nat) : TE := fun σ H Q => wi σ H fun J H1 => ∀ d, H1 d = none → ∃ W : Nat → Nat → Hp → Prop, (∃ m, W 0 m (upd H1 d (.lst []))) ∧ ∀ i m H, W i m H →
  (J.stop i H ∧ Q (.ref d) H) ∨ (J.go i H ∧ ∃ Nx : Hp → Prop, (∀ H', Nx H' → ∃ m', m' < m ∧ W (i + 1) m' H') ∧ ∀ x H', J.yld i H x H' → g x (L2.wipe σ vs) H' fun σ2 H2 => L2.wipe σ2 vs = L2.wipe σ vs ∧ tt σ2 H2 fun b H3 => b = false ∧ Nx H3)
/-- Z: a block of X; at any of its states X's own word holds -/
def BackTo (X Z : Cx) (σ : L2.St) : Prop := ∀ {pins' : List (Addr × Obj)} {σ' : L2.St} {H' : Hp} {s' : Shared}, Inv Z pins' σ' H' s' → ∃ pins, Inv X pins σ H' s'
theorem lcF_core {pins : List (Addr × Obj)} {s : Shared} {σ : L2.St} {H : Hp} {Q : VK} {elt tg iter test : Expr} {scope : Scope} {own : List (Str × Nat)} {pos pos' : Pos} {wi : TI} {g : TG} {tt : TT} {use : Option (Value → Sem Unit)} {Qf : Value → Shared → Prop}
    (calm : X.calm = true) (hN : X.N.Nodup) (I : Inv X pins σ H s) (hi : PI X tg iter wi) (okB : BlkOk X.N X.env.scope scope own)
    (hg : ∀ (s : Shared) (H : Hp) (C : Addr) (cl : List (Str × Addr)) (fp : List Addr), PG (X.blk s H scope (compEnvC scope cl C X.env) fp) tg g)
    (ht : ∀ (s : Shared) (H : Hp) (C : Addr) (cl : List (Str × Addr)) (fp : List Addr), BackTo X (X.blk s H scope (compEnvC scope cl C X.env) fp) σ → PT (X.blk s H scope (compEnvC scope cl C X.env) fp) test tt) (fold : ∀ x, foldedSetIterable iter X.env x = pure x)
    (h : tLcF wi g tt (own.map (·.2)) σ H Q)
    (back : ∀ D C s' m H', Inv X pins σ H' s' → Q (.ref D) H' → s'.heap.Ns C m → L2.FpOk X pins H' C → compPost (model X.prog X.w) X.A X.xe use Qf (.ref D) C (.ok .next) s') :
    wpAny (model X.prog X.w) X.A (comprehension (.ListComp elt [⟨tg, iter, [test], 0⟩] scope pos) scope X.env pos' (newList []) false (eval iter X.env) use) Qf X.xe s := by
  have frees : ∀ y ∈ scope.names, y.2 = .free → ∃ c, X.env.cells.lookup y.1 = some c := fun y hy e =>
    (okB.free y hy e).elim (fun k => I.ok.has _ (.inl k)) fun k => I.ok.has _ (.inr k)
  refine wpAny_comprehension_free (use := use) rfl fold (closure_ok frees) okB.kind (fun y hy e => by rw [okB.uniq y hy, e]) (thn (hi.run pins s σ H _ I h) fun xv z1 hx => thn hx fun itv z2 hz2 => ?_)
  obtain ⟨it, fp, tn, J, K2, e, J2, T, tn2, fp2, q⟩ := hz2
  subst e
  refine wpAny_newObj_type (newEnv_comp ?_) (show 0 ≤ sizeLine by decide)
  generalize eD : z2.heap.objs.size = D
  obtain ⟨W, ⟨m0, w0⟩, turn⟩ := q D (J2.hok.fresh (Nat.le_of_eq eD))
  generalize ez3 : ({ z2 with heap := z2.heap.push { cls := .type "list", data := .seq ([] : List Value).toArray } } : Shared) = z3
  have J3 : Inv X pins σ (upd K2 D (.lst [])) z3 := by
    rw [← ez3, ← eD]
    exact J2.laid (t' := z2.toks) (fun b o e => Heap.get?_push_of_some _ e) (Nat.le_refl _) ⟨Nat.zero_le _, [], 0, .nil, Heap.get?_push_size _ rfl⟩
  have hp3 : z3.heap = z2.heap.push { cls := .type "list", data := .seq ([] : List Value).toArray } := by rw [← ez3]
  have small : ∀ b ∈ fp, b < z2.heap.objs.size := fun b hb => by
    obtain ⟨o, e, _⟩ := T.obj _ _ tn2 b hb
    exact Heap.lt_size e
  have fp3 : ∀ b ∈ fp, L2.FpOk X pins (upd K2 D (.lst [])) b ∧ b < z3.heap.objs.size := fun b hb => by
    have lt := small b hb
    refine ⟨⟨?_, (fp2 b hb).2⟩, by rw [hp3, Heap.size_push]; exact Nat.lt_succ_of_lt lt⟩
    rw [upd_ne (by rw [← eD]; exact Nat.ne_of_lt lt)]
    exact (fp2 b hb).1
  have tn3 : tn 0 z3.heap := T.keep _ _ _ tn2 fun b _ o e => by rw [hp3]; exact Heap.get?_push_of_some _ e
  have J4 := block_start J3 okB hN fp3
  have pg := hg z3 (upd K2 D (.lst [])) z3.heap.objs.size (cellsFrom (z3.heap.objs.size + 1) scope.names (cloFrom X.env.cells scope.names [])) fp
  have pt := ht z3 (upd K2 D (.lst [])) z3.heap.objs.size (cellsFrom (z3.heap.objs.size + 1) scope.names (cloFrom X.env.cells scope.names [])) fp
  show codeAny _ _ (.compStart (.ListComp elt [⟨tg, iter, [test], 0⟩] scope pos) 0 (.ref it) (.ref D) (compEnvC scope (cellsFrom (z3.heap.objs.size + 1) scope.names (cloFrom X.env.cells scope.names [])) z3.heap.objs.size X.env)) (compPost (model X.prog X.w) X.A X.xe use Qf (.ref D) z3.heap.objs.size) { z3 with heap := pushCells (z3.heap.push { cls := .type "dict", data := .dict #[] }) scope.names }
  have nofp : ∀ b ∈ fp, (upd K2 D (.lst [])) b = none := fun b hb => (fp3 b hb).1.1
  generalize ece : compEnvC scope (cellsFrom (z3.heap.objs.size + 1) scope.names (cloFrom X.env.cells scope.names [])) z3.heap.objs.size X.env = ce at J4 pg pt ⊢
  have cL : ce.locals = z3.heap.objs.size := by subst ece; rfl
  generalize eK3 : upd K2 D (.lst []) = K3 at J3 J4 pg pt w0 nofp fp3
  have home : ∀ {pins' : List (Addr × Obj)} {σ' : L2.St} {H' : Hp} {s' : Shared}, Inv (X.blk z3 K3 scope ce fp) pins' σ' H' s' → Inv X pins σ H' s' := fun I' =>
    J3.call' (ch := fp) I'.os I'.base I'.hok I'.bare fun b hb => ⟨(fp3 b hb).1.2.2.2.1, (fp3 b hb).1.2.1, (fp3 b hb).1.2.2.2.2.1, (fp3 b hb).1.2.2.2.2.2⟩
  have pt := pt fun I' => ⟨pins, home I'⟩
  generalize ez4 : ({ z3 with heap := pushCells (z3.heap.push { cls := .type "dict", data := .dict #[] }) scope.names } : Shared) = z4 at J4 ⊢
  have tn4 : tn 0 z4.heap := T.keep _ _ _ tn3 fun b _ o e => by rw [← ez4]; exact pushCells_keeps _ _ _ _ (Heap.get?_push_of_some _ e)
  have stat : ∀ {σ' : L2.St} {H' : Hp} {s' : Shared}, Inv (X.blk z3 K3 scope ce fp) [] σ' H' s' → (∀ b ∈ fp, H' b = none) → ∀ b ∈ fp, L2.FpOk (X.blk z3 K3 scope ce fp) [] H' b := fun {σ' H' s'} I' hn b hb =>
    ⟨hn b hb, (I'.ok.exf b hb).1, I'.ok.exfs b hb, .inl hb, fun x c e => (I'.ok.exf b hb).2 x c e, fun p hp => absurd (show p ∈ ([] : List (Addr × Obj)) ++ [] from hp) (by simp)⟩
  have loop : codeAny (model X.prog X.w) X.A (.compLoop (.ListComp elt [⟨tg, iter, [test], 0⟩] scope pos) 0 (.ref it) (.ref D) ce) (compPost (model X.prog X.w) X.A X.xe use Qf (.ref D) z3.heap.objs.size) z4 := by
    refine compLoop_any (fun n s' => ∃ i H', Inv (X.blk z3 K3 scope ce fp) [] (L2.wipe σ (own.map (·.2))) H' s' ∧ tn i s'.heap ∧ (∀ b ∈ fp, H' b = none) ∧ W i n H') ?_ m0 ⟨0, K3, J4, tn4, nofp, w0⟩
    rintro n z5 ⟨i, K5, J5, tn5, no5, w5⟩
    rcases turn i n K5 w5 with ⟨stop, qq⟩ | ⟨go, Nx, hNx, step⟩
    · refine thnF (T.done (X.blk z3 K3 scope ce fp) rfl rfl rfl calm i [] z5 _ K5 (fun _ _ => False) J5 (stat J5 no5) tn5 stop) fun r z6 ⟨hr, J6⟩ => ?_
      subst hr
      have nC : K5 z3.heap.objs.size = none := by
        rw [← cL]
        exact J6.free
      obtain ⟨m, hn, _⟩ := J6.loc
      have hn : z6.heap.Ns ce.locals m := hn
      rw [cL] at hn
      exact back D z3.heap.objs.size z6 m K5 (home J6) qq hn (J3.fpOk (Nat.le_refl _) nC)
    · refine thnF (T.item (X.blk z3 K3 scope ce fp) rfl rfl rfl calm i [] z5 _ K5 (fun _ _ => False) J5 (stat J5 no5) tn5 go) fun r z6 ⟨u, hr, hz6⟩ => ?_
      subst hr
      refine thnF hz6 fun _ z7 ⟨x, K7, J7, r7, y7, tn7, no7⟩ => ?_
      have J7' := J7.pinned (stat J7 no7) (T.obj _ _ tn7)
      refine thnF (pg.run _ z7 _ K7 x u _ J7' r7 (step x K7 y7)) fun _ z8 ⟨σ8, K8, J8, hw8, q8⟩ => ?_
      refine thnF ((pts_one pt).run _ z8 σ8 K8 _ J8 q8) fun b z9 ⟨K9, J9, eb, nx⟩ => ?_
      subst eb
      obtain ⟨m', hm, w'⟩ := hNx K9 nx
      have pin' : ∀ b ∈ fp, ∀ o, z7.heap.get? b = some o → z9.heap.get? b = some o ∧ K9 b = none := fun b hb o e =>
        have z := J9.pin (b, o) (List.mem_append_right _ (List.mem_append_right _ (mem_pinsAt hb e)))
        ⟨z.1, z.2.1⟩
      have hl : (L2.wipe σ (own.map (·.2))).length = σ8.length := by rw [← hw8, L2.wipe_length]
      simp only [Bool.false_eq_true, if_false]
      refine ⟨m', hm, i + 1, K9, (J9.unpinned (pins := [])).weak hl (fun j v e => ?_), T.keep _ _ _ tn7 fun b hb o e => (pin' b hb o e).1, fun b hb => ?_, w'⟩
      · rw [← hw8] at e
        exact (wipe_some e).1
      · obtain ⟨o, e, _⟩ := T.obj _ _ tn7 b hb
        exact (pin' b hb o e).2
  exact codeAny_compStart_list loop (T.self X.A 0 _ _ _ tn4 loop)
theorem pe_lcF {σ0 : L2.St} {elt tg iter test : Expr} {scope : Scope} {own : List (Str × Nat)} {pos : Pos} {wi : TI} {g : TG} {tt : TT} (calm : X.calm = true) (hN : X.N.Nodup) (hi : PI X tg iter wi) (okB : BlkOk X.N X.env.scope scope own)
    (hg : ∀ (s : Shared) (H : Hp) (C : Addr) (cl : List (Str × Addr)) (fp : List Addr), PG (X.blk s H scope (compEnvC scope cl C X.env) fp) tg g)
    (ht : ∀ (s : Shared) (H : Hp) (C : Addr) (cl : List (Str × Addr)) (fp : List Addr), BackTo X (X.blk s H scope (compEnvC scope cl C X.env) fp) σ0 → PT (X.blk s H scope (compEnvC scope cl C X.env) fp) test tt) (fold : ∀ x, foldedSetIterable iter X.env x = pure x := by intro _; rfl) :
    PE X (.ListComp elt [⟨tg, iter, [test], 0⟩] scope pos) (fun σ H Q => σ = σ0 ∧ tLcF wi g tt (own.map (·.2)) σ H Q) := by
  refine ⟨fun pins s σ H Q I ⟨eσ, h⟩ => ?_⟩
  subst eσ
  rw [eval_ListComp]
  refine lcF_core calm hN I hi okB hg ht fold h fun D C s' m H' I' q hn f => ⟨m, hn, fun h'' sb => ?_⟩
  obtain ⟨f0, f1, f2, f3, f4, f5⟩ := f
  exact ⟨.ref D, H', I'.turned (t' := s'.toks) (fun b o hb e => (sb.2 b hb).trans e) f0 f1 f3 f4 f5, rfl, q⟩
variable {e a : Expr} {σ : L2.St} {w w' : Wd} {pos p : Pos} {ds : List (Option Ty)} {rest : List Stmt} {D : Ends}
/-- [x for x in iter if test], where the test is false for all -/
theorem lcF {elt iter test : Expr} {x : Str} {tp : Pos} {scope : Scope} {τs : List Ty} (own : List (Str × Nat)) (j : Nat) (calm : X.calm = true) (hN : X.N.Nodup) (S : Sl w.G σ ds) (hi : IvG X σ w (.Name x tp) iter τs)
    (ht : ∀ (s : Shared) (H : Hp) (C : Addr) (cl : List (Str × Addr)) (fp : List Addr), BackTo X (Bk X scope s H C cl fp) σ → ∀ (i : Nat) τ σ2 w4, τs[i]? = some τ → Grow w w4 → Sl w4.G σ2 ((wipeD ds (own.map (·.2))).set j (some τ)) → Tv (Bk X scope s H C cl fp) σ2 w4 test false)
    (ok : BlkOk X.N X.env.scope scope own := by first | exact blkOk_by (by decide +kernel) | exact blkOk_by (by dsimp only [cxOf, Cx.nox, Cx.wish, envOfC, Cx.blk, compEnvC]; decide +kernel)) (hb : BN X scope j x := by first | exact ⟨rfl, .inl rfl⟩ | exact ⟨rfl, .inr ⟨rfl, rfl⟩⟩) (hj : j ∈ own.map (·.2) := by decide) (hf : ∀ x, foldedSetIterable iter X.env x = pure x := by intro _; rfl) :
    Ev X σ w (.ListComp elt [⟨.Name x tp, iter, [test], 0⟩] scope pos) (lstT X.K []) := fun w1 g1 Q k =>
  toE (pe_lcF (σ0 := σ) (tt := fun σ2 H2 Qt => ∃ (i : Nat) (τ : Ty) (w4 : Wd), w4.H = H2 ∧ τs[i]? = some τ ∧ Grow w w4 ∧ Sl w4.G σ2 ((wipeD ds (own.map (·.2))).set j (some τ)) ∧ ∀ w5, Grow w4 w5 → Qt false w5.H) calm hN uI ok (bn_pg hN hb) (fun s H C cl fp bk => ⟨fun pins s σ2 H2 Qt I ⟨i, τ, w4, eH, h1, g4, S4, q⟩ => by
    subst eH
    exact ht _ _ _ _ _ bk i τ σ2 w4 h1 g4 S4 w4 (Grow.refl _) Qt (fun w5 g5 => q w5 g5) pins s I⟩) hf) ⟨rfl, hi w1 g1 _ fun J w2 g2 hy d hd => by
    refine ⟨fun i m H' => m = τs.length - i ∧ i ≤ τs.length ∧ ∃ w', w'.H = H' ∧ Grow w2 w' ∧ Own w' d (.lst []), ⟨τs.length, rfl, Nat.zero_le _, w2.lay d (.lst []) (w2.gnone hd), rfl, Grow.lay hd, Own.lay hd⟩, ?_⟩
    rintro i m H' ⟨em, hle, w3, eH, g3, ow⟩
    subst eH
    obtain ⟨y1, y2⟩ := hy w3 g3
    by_cases hlt : i < τs.length
    · obtain ⟨go, yl⟩ := y1 i _ (List.getElem?_eq_getElem hlt)
      refine .inr ⟨go, fun H' => ∃ w', w'.H = H' ∧ Grow w2 w' ∧ Own w' d (.lst []), fun H' p => ⟨τs.length - (i + 1), by omega, rfl, by omega, p⟩, fun v H4 hyl => ?_⟩
      obtain ⟨w4, e4, g4, h4⟩ := yl v H4 hyl
      subst e4
      have gw : Grow w w4 := ((g1.trans g2).trans g3).trans g4
      exact ⟨by rw [wipe_set hj, wipe_wipe], i, _, w4, rfl, List.getElem?_eq_getElem hlt, gw, ((S.mono gw.g).wipe _).put h4 j, fun w5 g5 => ⟨rfl, w5, rfl, (g3.trans g4).trans g5, (ow.grow g4).grow g5⟩⟩
    · have e : i = τs.length := by omega
      subst e
      have fin := k (.ref d) (w3.frz d (.lst []) ow.at_) (g2.trans (g3.frz hd ow.at_)) ⟨d, [], rfl, SqL.of Wd.frz_at, .nil⟩
      exact .inl ⟨y2, fin⟩⟩
/-- _law_heard(x) in a block of X -/
theorem heard_ev {k : Nat} {da : List (Option Ty)} {CR fI : Addr} {bad : PyData} {scope : Scope} {s0 : Shared} {H0 : Hp} {C : Addr} {cl : List (Str × Addr)} {fp : List Addr} {σX : L2.St} {wX : Wd}
    (D : DefAt X.K X.mg "_law_heard" s_law_heard p_lheard) (B : Bu X.mg) (TR : RefTxt X.prog X.K X.mg CR fI) (XF : XfC X.K CR) (sh : Shw bad) (bk : BackTo X (Bk X scope s0 H0 C cl fp) σX) (SX : Sl wX.G σX da) (g0 : Grow wX w)
    (hr : Room (k + 2) X.A) (hgd : X.A.guards = some []) (ha : Ev (Bk X scope s0 H0 C cl fp) σ w a (askT X k da CR (dat X.K bad)))
    (hg : Gl (Bk X scope s0 H0 C cl fp) "_law_heard" := by rfl) (he : starEach [a] (Bk X scope s0 H0 C cl fp).env = (false, eval a (Bk X scope s0 H0 C cl fp).env) :: starEach [] (Bk X scope s0 H0 C cl fp).env := by rfl) (hpl : (backTo pos (starEach [] (Bk X scope s0 H0 C cl fp).env)).any (·.1) = false := by rfl) :
    Dv (Bk X scope s0 H0 C cl fp) σ w (.Call (.Name "_law_heard" p) [a] [] pos) (.str bad.shown) := fun w1 g1 Q q pins s I => by
  obtain ⟨g, fd, F, hm, hb⟩ := D.ex
  obtain ⟨oc, od, kV, doc, pm, an, cdv, ct, osl, rfl, lk, hcd⟩ := F.ex
  refine wpAny_Call_Name_kw (ld_glob I hg hm ?_)
  refine PySem.W.callWith_K (h₀ := X.base) I.ok.mod.kin F.kp (thn ((pa_cons (uE (e := a)) pa_nil he).run pos pins s σ w1.H (fun vs H' => ∃ v w3, vs = [v] ∧ w3.H = H' ∧ Grow w1 w3 ∧ (askT X k da CR (dat X.K bad)).p v w3.G) I (ha w1 g1 _ fun v w3 g3 hv => ⟨v, w3, rfl, rfl, g3, hv⟩)) fun us s1 ⟨vs, H1, I1, r1, v, w3, ev, eH, g3, hv⟩ => ⟨I1.kIn, ?_⟩) he hpl
  subst ev eH
  obtain ⟨u, rfl, ru⟩ := r1.one
  obtain ⟨pinsX, J⟩ := bk I1
  refine wpAny_call (codeAny_mono (LamX.run_ofS (k := k + 1) (CX := CX0) (E := E0) (Q := Q) lk hcd sc_lheard hr I1.env0 (hb s1 [u] I1.kIn rfl) r1 rfl fun hr' => ⟨_, (uS (st := defBody s_law_heard)).nox, heard_body (Q := Q) B TR XF sh J (SX.mono ((g0.trans g1).trans g3).g) hv hr' hgd fun w4 g4 => q _ w4 (g3.trans g4) (.str _)⟩) fun o s' hq => ?_)
  match o, hq with
  | .error _, hq => exact (show False from hq).elim
  | .ok .next, hq => exact (show False from hq).elim
  | .ok .brk, hq => exact (show False from hq).elim
  | .ok .cont, hq => exact (show False from hq).elim
  | .ok (.ret u), hq => exact I1.after hq
end
end K27
/-! ## Law1 -/
/-! The law's defs: draws. -/
namespace K27
open PySem L2 PySem.Spec PyProof.Rows
section
variable {P : Program} {w : World} {K : PySem.W.Frag} {mg : Str → Option Value} {base : Heap}
abbrev CTake (P : Program) (w : World) (K : PySem.W.Frag) (mg : Str → Option Value) (base : Heap) : Prop := Cal P w K mg base 1 "_law_take" p_ltake (spOf (fun n : Nat => 0 < n ∧ n < 1073741824) (fun n => [boxT, dat K (.int (n : Nat))]) (fun n => intT K fun i => 0 ≤ i ∧ i < (n : Int)))
theorem c_take (B : Bu mg) (D : DefAt K mg "_law_take" s_law_take p_ltake) : CTake P w K mg base :=
  def_ok (N := n_ltake) D sc_ltake (fun _ => rfl) fun f cdv A outer s H E n w0 Q σ hr hn S q => by
    have pn : (0 : Int) < (n : Nat) := by omega
    show wS _ (_ :: _) _ _ _
    refine w_ifU (gtU (box0 (nm 0 S) ci) (iS (R := fun _ => True) ci True.intro)) (fun w1 g1 => ?_) fun w1 g1 => wS_nil ?_
    · have S1 := S.mono g1.g
      refine w_setS 2 sc_ltake.nd S1 (modS1 (intS B.int_ (box0 (nm 0 S1) ci)) (nm 1 S1) pn) fun z σ2 w2 hz g2 S2 => ?_
      refine w_box0 (fdivS (Pb := fun j => j = (n : Int)) (box0 (nm 0 S2) ci) (iS (nm 1 S2) rfl) (fun j e => by subst e; omega) fun _ _ _ _ => True.intro) (nm 0 S2) ci fun w3 g3 => ?_
      have S3 := S2.mono g3.g
      exact w_ret (iS (nm 2 S3) hz) fun v w' g h => q v w' (((g1.trans g2).trans g3).trans g) h
    · have S1 := S.mono g1.g
      refine w_setS 3 sc_ltake.nd S1 (modS1 (intS B.int_ (addZ (R := fun _ => True) (mulS (Pb := fun j => j = 40692) (R := fun _ => True) (box1 (nm 0 S1) ci) (iS ci rfl) (fun i j hi hj => .inr (by subst hj; decide)) fun _ _ _ _ => True.intro) (iS (R := fun _ => True) ci True.intro) fun _ _ _ _ => True.intro)) ci (by decide)) fun z σ2 w2 hz g2 S2 => ?_
      refine w_box1 (addZ (Pb := fun j => j = 1) (modS1 (intS B.int_ (addZ (R := fun _ => True) (mulS (Pb := fun j => j = 40014) (R := fun _ => True) (iS (R := fun _ => True) (nm 3 S2) True.intro) (iS ci rfl) (fun i j hi hj => .inr (by subst hj; decide)) fun _ _ _ _ => True.intro) (iS (R := fun _ => True) ci True.intro) fun _ _ _ _ => True.intro)) ci (by decide)) (iS ci rfl) fun i j hi hj => by subst hj; omega) (nm 0 S2) ci fun w3 g3 => ?_
      have S3 := S2.mono g3.g
      refine w_ret (modS1 (intS B.int_ (fdivS (R := fun _ => True) (Pb := fun j => j = 8209) (addZ (R := fun _ => True) (mulS (Pb := fun j => j = 2147483629) (R := fun _ => True) (iS (R := fun _ => True) (nm 3 S3) True.intro) (iS ci rfl) (fun i j hi hj => .inr (by subst hj; decide)) fun _ _ _ _ => True.intro) (box1 (nm 0 S3) ci) fun _ _ _ _ => True.intro) (iS ci rfl) (fun j e => by subst e; decide) fun _ _ _ _ => True.intro)) (nm 1 S3) pn) fun v w' g h => q v w' (((g1.trans g2).trans g3).trans g) h
/-- an item of a list is drawn -/
abbrev CPick (P : Program) (w : World) (K : PySem.W.Frag) (mg : Str → Option Value) (base : Heap) : Prop := Cal P w K mg base 2 "_law_pick" p_lpick (spOf (fun τs : List Ty => 0 < τs.length ∧ τs.length < 1000) (fun τs => [boxT, lstT K τs]) (fun τs => some_ (fun τ => τ ∈ τs) id))
theorem c_pick (B : Bu mg) (D : DefAt K mg "_law_pick" s_law_pick p_lpick) (T : CTake P w K mg base) : CPick P w K mg base :=
  def_ok (N := n_lpick) D sc_lpick (fun _ => rfl) fun f cdv A outer s H E τs w0 Q σ hr hn S q => by
    show wS _ (_ :: _) _ _ _
    exact w_ret (ixAny (nm 1 S) (call_c T (hr.mono (by decide)) τs.length ⟨hn.1, Nat.lt_trans hn.2 (by decide)⟩ (ac (nm 0 S) (ac (lenL (τs := τs) B.len_ (nm 1 S)) a0)))) q
/-- where draws come from -/
abbrev CBox (P : Program) (w : World) (K : PySem.W.Frag) (mg : Str → Option Value) (base : Heap) : Prop := Cal P w K mg base 1 "_law_box" p_lbox (spOf (fun i : List Int × Nat => i.1.length ≤ 1000 ∧ i.2 < 1000) (fun i => [dat K (.list (i.1.map .int)), dat K (.int (i.2 : Nat))]) (fun _ => boxT))
theorem c_box (B : Bu mg) (D : DefAt K mg "_law_box" s_law_box p_lbox) : CBox P w K mg base :=
  def_ok (N := n_lbox) D sc_lbox (fun _ => rfl) fun f cdv A outer s H E i w0 Q σ hr hp S q => by
    obtain ⟨ns, k⟩ := i
    have hk : k < 1000 := hp.2
    have hl : ns.length ≤ 1000 := hp.1
    show wS _ (_ :: _) _ _ _
    refine w_set (τ := intT K fun _ => True) 2 sc_lbox.nd S (addZ (R := fun _ => True) (mulS (Pa := fun j => j = 6469) (Pb := fun _ => True) (R := fun _ => True) (iS ci rfl) (iS (nm 1 S) True.intro) (fun i j hi hj => .inl (by subst hi; decide)) fun _ _ _ _ => True.intro) (iS (R := fun _ => True) ci True.intro) fun _ _ _ _ => True.intro) fun σ1 w1 g1 S1 => ?_
    have fin : ∀ (σ2 : L2.St) (w2 : Wd), Grow w0 w2 → Sl w2.G σ2 [some (dat K (.list (ns.map .int))), some (dat K (.int (k : Nat))), some (intT K fun _ => True), none] → wS (BX P w K mg base n_lbox "_law_box" s_law_box f cdv A outer s H E) ((defBody s_law_box).drop 2) { nx := fun _ H' => Q .non H', rt := Q } σ2 w2.H := fun σ2 w2 g2 S2 => by
      show wS _ (_ :: _) _ _ _
      refine w_set (τ := intT K fun _ => True) 3 sc_lbox.nd S2 (ifU (geU (nm 2 S2) (iS (R := fun _ => True) (ipow ci ci ⟨by decide, by decide, by decide⟩) True.intro)) (nm 2 S2) (iS ci True.intro)) fun σ3 w3 g3 S3 => ?_
      refine w_ret (mkbox (nm 3 S3) (addZ (Pb := fun j => j = 1) (modS1 (intS (Pa := fun _ => True) B.int_ (addZ (Pa := fun _ => True) (Pb := fun _ => True) (R := fun _ => True) (mulS (Pa := fun i => 0 ≤ i ∧ i < 2147483587) (Pb := fun j => j = 69473) (R := fun _ => True) (modS1 (intS B.int_ (nm 2 S3)) ci (by decide)) (iS ci rfl) (fun i j hi hj => .inr (by subst hj; decide)) fun _ _ _ _ => True.intro) (mulS (Pa := fun j => j = 997) (Pb := fun _ => True) (R := fun _ => True) (iS ci rfl) (iS (nm 1 S3) True.intro) (fun i j hi hj => .inl (by subst hi; decide)) fun _ _ _ _ => True.intro) fun _ _ _ _ => True.intro)) ci (by decide)) (iS ci rfl) fun i j hi hj => by subst hj; omega)) fun v w' g h => q v w' ((g2.trans g3).trans g) h
    refine w_if (b := decide (k < ns.length)) (eqT (by simp) (t_lt (i := (k : Int)) (j := (((ns.map PyData.int).length : Nat) : Int)) (nm 1 S1) (lenLD (xs := ns.map .int) B.len_ (nm 0 S1)))) (fun hb w2 g2 => ?_) fun hb w2 g2 => ?_
    · have S2 := S1.mono g2.g
      have hb' : k < ns.length := by simpa using hb
      refine w_set (τ := intT K fun _ => True) 2 sc_lbox.nd S2 (absS (Pa := fun _ => True) B.abs_ (intS B.int_ (iS (ixLD (xs := ns.map .int) (d := .int ns[k]) (nm 0 S2) (nm 1 S2) (atI_nat (by simp [hb']))) True.intro)) fun _ _ => True.intro) fun σ3 w3 g3 S3 => wS_nil ?_
      exact fin σ3 w3 ((g1.trans g2).trans g3) S3
    · have S2 := S1.mono g2.g
      have hb' : ¬ k < ns.length := by simpa using hb
      show wS _ (_ :: _) _ _ _
      refine w_when (b := decide (0 < ns.length)) (eqT (by simp) (t_gt (i := (((ns.map PyData.int).length : Nat) : Int)) (j := 0) (lenLD (xs := ns.map .int) B.len_ (nm 0 S2)) ci)) (fun hc w3 g3 => ?_) fun hc w3 g3 => ?_
      · have S3 := S2.mono g3.g
        have hc' : 0 < ns.length := by simpa using hc
        have hm : k % ns.length < ns.length := Nat.mod_lt _ hc'
        refine w_set (τ := intT K fun _ => True) 2 sc_lbox.nd S3 (addZ (R := fun _ => True) (nm 2 S3) (mulS (Pb := fun j => j = 60521) (R := fun _ => True) (modS1 (intS B.int_ (absS (Pa := fun _ => True) (R := fun _ => True) B.abs_ (intS B.int_ (iS (ixLD (xs := ns.map .int) (i := ((k % ns.length : Nat) : Int)) (d := .int ns[k % ns.length]) (nm 0 S3) (eqE (d := .int ((k : Int) % (((ns.map PyData.int).length : Nat) : Int))) (by rw [List.length_map]; rfl) (imod (int_ B.int_ (nm 1 S3)) (lenLD (xs := ns.map .int) B.len_ (nm 0 S3)) (by simp; omega))) (atI_nat (by simp [hm]))) True.intro)) fun _ _ => True.intro)) ci (by decide)) (iS ci rfl) (fun i j hi hj => .inr (by subst hj; decide)) fun _ _ _ _ => True.intro) fun _ _ _ _ => True.intro) fun σ4 w4 g4 S4 => wS_nil (wS_nil ?_)
        exact fin σ4 w4 (((g1.trans g2).trans g3).trans g4) S4
      · have S3 := S2.mono g3.g
        exact wS_nil (fin _ w3 ((g1.trans g2).trans g3) S3)
end
end K27
/-! ## Core20 -/
/-! The calculus, twentieth part: a table that is written to, of which it is known what it is like. -/
namespace K27
open PySem L2 PySem.Spec PyProof.Rows
abbrev ltP (n : Nat) : Int → Prop := fun i => 0 ≤ i ∧ i < (n : Int)
def IntLt (n : Nat) (u : Value) : Prop := ∃ j t, u = .int j t ∧ ltP n j
def tabO (n : Nat) (b : Addr) : HO := .ext fun h => ∃ (its : List Value) (m : Nat), its.length = n ∧ (∀ u ∈ its, IntLt n u) ∧ h.get? b = some { cls := .type "list", data := .seq its.toArray m }
theorem tabO_ok {P : Program} {w : World} {H : Hp} {h : Heap} {b : Addr} {its : List Value} {n m : Nat} (h1 : its.length = n) (h2 : ∀ u ∈ its, IntLt n u) (e : h.get? b = some { cls := .type "list", data := .seq its.toArray m }) : ObjOk P w H h b (tabO n b) :=
  ⟨⟨its, m, h1, h2, e⟩, ⟨_, e⟩, fun _ _ ⟨its, m, h1, h2, e⟩ k => ⟨its, m, h1, h2, k _ e⟩⟩
def tabT (n : Nat) : Ty := ⟨fun v G => ∃ b, v = .ref b ∧ G b = some (tabO n b), fun e ⟨b, h1, h2⟩ => ⟨b, h1, e _ _ h2⟩⟩
/-- ints below n, n of them -/
abbrev TabV (n : Nat) (vs : List V) : Prop := vs.length = n ∧ ∀ v ∈ vs, ∃ j, v = V.int j ∧ ltP n j
theorem vals_mem : ∀ {vs : List V} {us : List Value} {n : Nat}, Vals vs us → (∀ v ∈ vs, ∃ j, v = V.int j ∧ ltP n j) → ∀ u ∈ us, IntLt n u
  | _, _, _, .nil, _, _, h => nomatch h
  | _, _, _, .cons r t, k, u, h => by
    rcases List.mem_cons.mp h with e | h
    · subst e
      obtain ⟨j, ev, hj⟩ := k _ List.mem_cons_self
      subst ev
      obtain ⟨t, rfl⟩ := r
      exact ⟨j, t, rfl, hj⟩
    · exact vals_mem t (fun v hv => k v (List.mem_cons_of_mem _ hv)) u h
theorem ints_back {n : Nat} : ∀ {us : List Value}, (∀ u ∈ us, IntLt n u) → ∃ vs : List V, Vals vs us ∧ ∀ v ∈ vs, ∃ j, v = V.int j ∧ ltP n j
  | [], _ => ⟨[], .nil, fun v h => nomatch h⟩
  | u :: us, h => by
    obtain ⟨j, t, rfl, hj⟩ := h u List.mem_cons_self
    obtain ⟨vs, h1, h2⟩ := ints_back (us := us) fun z hz => h z (List.mem_cons_of_mem _ hz)
    exact ⟨.int j :: vs, .cons ⟨t, rfl⟩ h1, fun v hv => by
      rcases List.mem_cons.mp hv with e | hv
      · exact ⟨j, e, hj⟩
      · exact h2 v hv⟩
section
variable {X : Cx} {e a b : Expr} {es : List Expr} {σ : L2.St} {w w' : Wd} {τ τ' : Ty} {pos p : Pos} {ds : List (Option Ty)} {rest body : List Stmt} {D : Ends} {n : Nat}
theorem tabbed {pins : List (Addr × Obj)} {H : Hp} {s : Shared} {q : Addr} {vs : List V} (I : Inv X pins σ H s) (h : H q = some (.lst vs)) (hv : TabV n vs) : Inv X pins σ (upd H q (tabO n q)) s := by
  obtain ⟨its, m, r, ho, hz⟩ := I.lst h
  exact I.write (x := q) (e := q) (t' := s.toks) (by rw [h]; trivial) (.inl rfl) (fun b u _ hb => hb) ⟨_, ho⟩ (tabO_ok (by rw [← r.length]; exact hv.1) (vals_mem r hv.2) ho)
theorem untab {pins : List (Addr × Obj)} {H : Hp} {s : Shared} {q : Addr} (hn : n ≤ 1000) (I : Inv X pins σ H s) (h : H q = some (tabO n q)) : ∃ vs, TabV n vs ∧ Inv X pins σ (upd H q (.lst vs)) s := by
  have ok : ObjOk X.prog X.w H s.heap q (tabO n q) := I.hok q _ h
  obtain ⟨⟨its, m, h1, h2, ho⟩, _, _⟩ := ok
  obtain ⟨vs, r, hv⟩ := ints_back h2
  have hl : vs.length = n := r.length.trans h1
  exact ⟨vs, ⟨hl, hv⟩, I.write (x := q) (e := q) (t' := s.toks) (by rw [h]; trivial) (.inl rfl) (fun b u _ hb => hb) ⟨_, ho⟩ ⟨Nat.le_trans (Nat.le_of_eq hl) (Nat.le_trans hn (by decide)), its, m, r, ho⟩⟩
/-- an item of the table -/
def rIxTab (n : Nat) : R2 := fun x y H Q => ∃ q i, x = .ref q ∧ y = .int i ∧ H q = some (tabO n q) ∧ ltP n i ∧ ∀ j, ltP n j → Q (.int j) H
theorem ix_tab (hn : n ≤ 1000) : IxR X (rIxTab n) := by
  intro value slice pins s σ H x y v u Q I rx ry ⟨q, i, ex, ey, hq, hi, k⟩ hs
  subst ex ey
  obtain ⟨vs, hv, J⟩ := untab hn I hq
  obtain ⟨d, hd⟩ : ∃ d, vs[i.toNat]? = some d := ⟨_, List.getElem?_eq_getElem (show i.toNat < vs.length by rw [hv.1]; have := hi.1; have := hi.2; omega)⟩
  have ha : atI vs i = some d := by
    rw [show i = ((i.toNat : Nat) : Int) by have := hi.1; omega]
    exact atI_nat hd
  refine wpAny_mono (ix_list value slice pins s σ _ (.ref q) (.int i) v u (fun v H' => v = d ∧ H' = upd H q (.lst vs)) J rx ry ⟨q, _, i, d, rfl, rfl, SqL.of upd_same, ha, rfl, rfl⟩ hs) (fun u s' ⟨v, H', I', r, e1, e2⟩ => ?_) fun _ _ hq => hq
  subst e1 e2
  have J' := tabbed I' upd_same hv
  rw [upd_back hq] at J'
  obtain ⟨j, ej, hj⟩ := hv.2 _ (List.mem_of_getElem? hd)
  subst ej
  exact ⟨_, H, J', r, k j hj⟩
/-- an item of the table, stored -/
def rSetTab (n : Nat) : TSet := fun o i v H Q => ∃ q k j, o = .ref q ∧ i = .int k ∧ v = .int j ∧ H q = some (tabO n q) ∧ ltP n k ∧ ltP n j ∧ Q H
theorem set_tab (hn : n ≤ 1000) : PSet X (rSetTab n) := by
  intro pins s σ H o i v ov iv u Q I ro ri rv ⟨q, k, j, eo, ei, ev, hq, hk, hj, hQ⟩
  subst eo ei ev
  obtain ⟨vs, hv, J⟩ := untab hn I hq
  have hx : ixN vs.length k = some k.toNat := by
    rw [hv.1]
    unfold ixN
    have h1 := hk.1
    have h2 := hk.2
    simp only [show 0 ≤ k from h1, if_true]
    rw [if_pos h2]
  refine wpAny_mono (set_list pins s σ _ (.ref q) (.int k) (.int j) ov iv u (fun H' => H' = upd (upd H q (.lst vs)) q (.lst (vs.set k.toNat (.int j)))) J ro ri rv ⟨q, _, k, k.toNat, rfl, rfl, upd_same, hx, rfl⟩) (fun _ s' ⟨H', I', e⟩ => ?_) fun _ _ hq => hq
  subst e
  have J' := tabbed (n := n) I' upd_same ⟨by rw [List.length_set]; exact hv.1, fun z hz => by
    rcases List.mem_or_eq_of_mem_set hz with h | h
    · exact hv.2 z h
    · exact ⟨j, h, hj⟩⟩
  rw [upd_upd, upd_back hq] at J'
  exact ⟨H, J', hQ⟩
theorem upd_comm {H : Hp} {q l : Addr} {o u : HO} (h : q ≠ l) : upd (upd H q o) l u = upd (upd H l u) q o := by
  funext b
  unfold upd
  by_cases h1 : b = l
  · by_cases h2 : b = q
    · exact absurd (h2.symm.trans h1) h
    · simp [h1, h2, show ¬ l = q from fun z => h z.symm]
  · by_cases h2 : b = q
    · simp [h1, h2, h]
    · simp [h1, h2]
/-- tuple(table) -/
theorem cr_tupTab (hn : n ≤ 1000) : CallR X (.type "tuple") (fun xs H Q => ∃ q, xs = [.ref q] ∧ H q = some (tabO n q) ∧ ∀ l vs, H l = none → TabV n vs → Q (.ref l) (upd H l (.tup vs))) := by
  intro pins s σ H xs us Q I r ⟨q, ex, hq, k⟩
  subst ex
  obtain ⟨vs, hv, J⟩ := untab hn I hq
  refine wpAny_mono (call_tuple_of pins s σ _ [.ref q] us (fun v H' => ∃ l, v = .ref l ∧ H l = none ∧ l ≠ q ∧ H' = upd (upd H q (.lst vs)) l (.tup vs)) J r ⟨q, vs, rfl, .inl ⟨SqL.of upd_same, fun l hl => ?_⟩⟩) (fun u s' ⟨v, H', I', r', l, e1, hl, ne, e2⟩ => ?_) fun _ _ hq => hq
  · have ne : l ≠ q := fun z => by
      subst z
      rw [upd_same] at hl
      cases hl
    rw [upd_ne ne] at hl
    exact ⟨l, rfl, hl, ne, rfl⟩
  · subst e1 e2
    rw [upd_comm (Ne.symm ne)] at I'
    have J' := tabbed (n := n) I' upd_same hv
    have hq' : upd H l (.tup vs) q = some (tabO n q) := (upd_ne (Ne.symm ne)).trans hq
    rw [upd_upd] at J'
    have e : upd (upd H l (.tup vs)) q (tabO n q) = upd H l (.tup vs) := by
      funext b
      by_cases hb : b = q
      · rw [hb, upd_same, hq']
      · rw [upd_ne hb]
    rw [e] at J'
    exact ⟨_, _, J', r', k l vs hl hv⟩
theorem tabV_tys {K : PySem.W.Frag} {G : Hp} : ∀ {vs : List V}, (∀ v ∈ vs, ∃ j, v = V.int j ∧ ltP n j) → Tys (List.replicate vs.length (intT K (ltP n))) vs G
  | [], _ => .nil
  | v :: vs, h => by
    obtain ⟨j, ev, hj⟩ := h v List.mem_cons_self
    subst ev
    exact .cons ⟨j, hj, .int j⟩ (tabV_tys fun z hz => h z (List.mem_cons_of_mem _ hz))
abbrev rowN (K : PySem.W.Frag) (n : Nat) : Ty := tupT K (List.replicate n (intT K (ltP n)))
theorem tup_tab (hn : n ≤ 1000) (hm : X.mg "tuple" = none) (ha : Ev X σ w e (tabT n)) (hg : Gl X "tuple" := by rfl) (he : starEach [e] X.env = (false, eval e X.env) :: starEach [] X.env := by rfl) : Ev X σ w (.Call (.Name "tuple" p) [e] [] pos) (rowN X.K n) :=
  bt1 (cr_tupTab hn) hm (by decide +kernel) ha (fun v w2 Q g ⟨q, ev, hq⟩ k => ⟨q, by rw [ev], w2.sub _ _ hq, fun l vs hl hv => k _ (w2.new l (.tup vs)) (Grow.new hl) ⟨l, vs, rfl, SqT.of Wd.new_at, by
    have h := tabV_tys (K := X.K) (G := (w2.new l (.tup vs)).G) hv.2
    rw [hv.1] at h
    exact h⟩⟩) hg (by decide) (by decide) he
theorem ixTab (hn : n ≤ 1000) (ha : Ev X σ w a (tabT n)) (hb : Ev X σ w b (intT X.K (ltP n))) (hs : PlainIx b := by intro _ _; rfl) : Ev X σ w (.Subscript a b pos) (intT X.K (ltP n)) := fun w1 g Q k =>
  toE (pe_ix (ix_tab hn) uE uE hs) (ha w1 g _ fun x w2 g2 ⟨q, e, hq⟩ => hb w2 (g.trans g2) _ fun y w3 g3 ⟨i, hi, hy⟩ => ⟨q, i, e, Dp.int_iff hy, w3.sub _ _ (g3.g _ _ hq), hi, fun j hj => k _ w3 (g2.trans g3) ⟨j, hj, .int j⟩⟩)
theorem rgV_tab (n : Nat) : TabV n (rgV 0 n) := by
  unfold rgV
  refine ⟨by simp, fun v hv => ?_⟩
  obtain ⟨i, hi, e⟩ := List.mem_map.mp hv
  have := List.mem_range.mp hi
  exact ⟨_, e.symm, by constructor <;> omega⟩
/-- list(range(n)): a table -/
theorem mktab {q q2 : Pos} (hn : n ≤ 1000) (hc : X.calm = true) (hm : X.mg "list" = none) (hm2 : X.mg "range" = none) (ha : Dv X σ w e (.int n)) (hg : Gl X "list" := by rfl) (hg2 : Gl X "range" := by rfl)
    (he : starEach [e] X.env = (false, eval e X.env) :: starEach [] X.env := by rfl) (he2 : starEach [Expr.Call (.Name "range" q) [e] [] q2] X.env = (false, eval (Expr.Call (.Name "range" q) [e] [] q2) X.env) :: starEach [] X.env := by rfl) :
    Ev X σ w (.Call (.Name "list" p) [.Call (.Name "range" q) [e] [] q2] [] pos) (tabT n) := fun w1 g Q k pins s I => by
  refine wpAny_mono ((pe_listRg hc hg hm (prg_1 hg2 hm2 uE he) he2).run pins s σ w1.H (fun v H => ∃ (w3 : Wd) (l : Addr), Grow w1 w3 ∧ v = .ref l ∧ w3.H l = none ∧ H = upd w3.H l (.lst (rgV 0 n))) I ?_) (fun u s' ⟨v, H', I', r, w3, l, g3, ev, hl, eH⟩ => ?_) fun _ _ hq => hq
  · exact ha w1 g _ fun v w2 g2 hv => ⟨(n : Int), Dp.int_iff hv, RgOk.of_le (by omega) (by omega) (by omega) (by omega), fun l hl => ⟨w2, l, g2, rfl, hl, rfl⟩⟩
  · subst ev eH
    have J := tabbed I' upd_same (rgV_tab n)
    rw [upd_upd] at J
    exact ⟨.ref l, _, J, r, k _ (w3.new l (tabO n l)) (g3.trans (Grow.new hl)) ⟨l, rfl, Wd.new_at⟩⟩
/-- o[i] = v, o a table -/
theorem pgTab {Q : L2.St → Hp → Prop} {v : V} {w1 : Wd} (hn : n ≤ 1000) (g : Grow w w1) (hv : (intT X.K (ltP n)).p v w1.G) (ha : Ev X σ w a (tabT n)) (hb : Ev X σ w b (intT X.K (ltP n))) (k : ∀ w', Grow w1 w' → Q σ w'.H) : gSub (wE X a) (wE X b) (rSetTab n) v σ w1.H Q :=
  ha w1 g _ fun o w3 g3 ⟨q, eo, hq⟩ => hb w3 (g.trans g3) _ fun i w4 g4 ⟨z, hz, hi⟩ => by
    obtain ⟨j, hj, hv⟩ := hv
    exact ⟨q, z, j, eo, Dp.int_iff hi, Dp.int_iff hv, w4.sub _ _ (g4.g _ _ hq), hz, hj, k w4 (g3.trans g4)⟩
theorem w_tab {apos : Pos} (hn : n ≤ 1000) (he : Ev X σ w e (intT X.K (ltP n))) (ha : Ev X σ w a (tabT n)) (hb : Ev X σ w b (intT X.K (ltP n))) (k : ∀ w', Grow w w' → wS X rest D σ w'.H)
    (hh : ∀ v, assign (.Subscript a b apos) X.env v = (do
      let ov ← holding [v] (eval a X.env)
      let iv ← holding [v, ov] (eval b X.env)
      standAt apos
      holding [v, ov, iv] (setItem ov iv v)
      release [v, ov, iv] []) := by intro _; rfl)
    (hs : swapsWithSole [.Subscript a b apos] e pos.line X.env = pure false := by rfl) (hw : swappedStores [.Subscript a b apos] e X.env = pure none := by rfl)
    (h1 : (assignEach [.Subscript a b apos] X.env).map (·.2) = [assign (.Subscript a b apos) X.env] := by rfl) : wS X (.Assign [.Subscript a b apos] e pos :: rest) D σ w.H :=
  wS_cons (toS1 (ps_asg uE (pg_sub uE uE (set_tab hn) hh) hs hw h1) (he w (Grow.refl _) _ fun v w2 g2 hv => pgTab hn g2 hv ha hb fun w3 g3 => k w3 (g2.trans g3)))
/-- t[i], t[j] = a tuple of two -/
theorem w_tab2 {a2 b2 : Expr} {apos apos2 tpos : Pos} {kt : Nat} (hc : X.calm = true) (hn : n ≤ 1000) (he : Ev X σ w e (tupT X.K [intT X.K (ltP n), intT X.K (ltP n)])) (ha : Ev X σ w a (tabT n)) (hb : Ev X σ w b (intT X.K (ltP n))) (ha2 : Ev X σ w a2 (tabT n)) (hb2 : Ev X σ w b2 (intT X.K (ltP n))) (k : ∀ w', Grow w w' → wS X rest D σ w'.H)
    (hh : ∀ v, assign (.Subscript a b apos) X.env v = (do
      let ov ← holding [v] (eval a X.env)
      let iv ← holding [v, ov] (eval b X.env)
      standAt apos
      holding [v, ov, iv] (setItem ov iv v)
      release [v, ov, iv] []) := by intro _; rfl)
    (hh2 : ∀ v, assign (.Subscript a2 b2 apos2) X.env v = (do
      let ov ← holding [v] (eval a2 X.env)
      let iv ← holding [v, ov] (eval b2 X.env)
      standAt apos2
      holding [v, ov, iv] (setItem ov iv v)
      release [v, ov, iv] []) := by intro _; rfl)
    (hp1 : (assignEach (.Subscript a b apos :: [.Subscript a2 b2 apos2]) X.env).map (·.2) = assign (.Subscript a b apos) X.env :: (assignEach [.Subscript a2 b2 apos2] X.env).map (·.2) := by rfl)
    (hp2 : (assignEach [.Subscript a2 b2 apos2] X.env).map (·.2) = assign (.Subscript a2 b2 apos2) X.env :: (assignEach [] X.env).map (·.2) := by rfl)
    (hl : (assignEach [.Subscript a b apos, .Subscript a2 b2 apos2] X.env).length = 2 := by rfl) (hst : (assignEach [.Subscript a b apos, .Subscript a2 b2 apos2] X.env).findIdx? (·.1) = none := by rfl)
    (hs : swapsWithSole [.Tuple [.Subscript a b apos, .Subscript a2 b2 apos2] kt tpos] e pos.line X.env = pure false := by rfl) (hw : swappedStores [.Tuple [.Subscript a b apos, .Subscript a2 b2 apos2] kt tpos] e X.env = pure none := by rfl)
    (h1 : (assignEach [.Tuple [.Subscript a b apos, .Subscript a2 b2 apos2] kt tpos] X.env).map (·.2) = [assign (.Tuple [.Subscript a b apos, .Subscript a2 b2 apos2] kt tpos) X.env] := by rfl) : wS X (.Assign [.Tuple [.Subscript a b apos, .Subscript a2 b2 apos2] kt tpos] e pos :: rest) D σ w.H :=
  wS_cons (toS1 (ps_asg uE (pg_tup hc (pgs_cons (pg_sub uE uE (set_tab hn) hh) (pgs_cons (pg_sub uE uE (set_tab hn) hh2) pgs_nil hp2) hp1) hl hst) hs hw h1) (he w (Grow.refl _) _ fun v w2 g2 hv => by
    obtain ⟨q, vs, ev, hq, ht⟩ := hv
    cases ht with
    | cons k1 t =>
      cases t with
      | cons k2 t =>
        cases t
        exact ⟨q, _, ev, sm_seqT w2.sub hq, rfl, _, _, rfl, pgTab hn g2 k1 ha hb fun w3 g3 => ⟨_, _, rfl, pgTab hn (g2.trans g3) ((intT X.K (ltP n)).m g3.g k2) ha2 hb2 fun w4 g4 => ⟨rfl, k w4 ((g2.trans g3).trans g4)⟩⟩⟩))
/-! ### rows whose items are not known: some rows -/
theorem some_row {K : PySem.W.Frag} {G : Hp} {m : Nat} : ∀ {k : Nat} {vs : List V}, Tys (List.replicate k (intT K (ltP m))) vs G → ∃ t : List Nat, t.length = k ∧ (∀ x ∈ t, x < m) ∧ Tys (t.map fun (x : Nat) => dat K (.int x)) vs G
  | 0, _, h => by
    cases h
    exact ⟨[], rfl, (fun x hx => nomatch hx), .nil⟩
  | k + 1, _, h => by
    cases h with
    | cons a t =>
      obtain ⟨i, hi, ha⟩ := a
      obtain ⟨l, h1, h2, h3⟩ := some_row t
      have ei : i = ((i.toNat : Nat) : Int) := by have := hi.1; omega
      refine ⟨i.toNat :: l, by rw [List.length_cons, h1], fun x hx => ?_, .cons (ei ▸ ha) h3⟩
      rcases List.mem_cons.mp hx with e | hx
      · subst e
        have := hi.2
        omega
      · exact h2 x hx
variable {Pa Pb : Int → Prop}
theorem ltU (ha : Ev X σ w a (intT X.K Pa)) (hb : Ev X σ w b (intT X.K Pb)) : TvU X σ w (.Compare a [.Lt] [b] pos) := fun w1 g Q q =>
  toT (pt_cmpR op_lt uE uE (nomark _)) (ha w1 g _ fun x w2 g2 ⟨i, _, hx⟩ => hb w2 (g.trans g2) _ fun y w3 g3 ⟨j, _, hy⟩ => ⟨i, j, Dp.int_iff hx, Dp.int_iff hy, ⟨_, rfl, q _ w3 (g2.trans g3)⟩⟩)
theorem eqU (ha : Ev X σ w a (intT X.K Pa)) (hb : Ev X σ w b (intT X.K Pb)) : TvU X σ w (.Compare a [.Eq] [b] pos) := fun w1 g Q q =>
  toT (pt_cmpR op_eq uE uE (nomark _)) (ha w1 g _ fun x w2 g2 ⟨i, _, hx⟩ => hb w2 (g.trans g2) _ fun y w3 g3 ⟨j, _, hy⟩ => ⟨by rw [Dp.int_iff hx, Dp.int_iff hy]; rfl, ⟨_, rfl, q _ w3 (g2.trans g3)⟩⟩)
theorem some_rows {K : PySem.W.Frag} {G : Hp} : ∀ {k : Nat} {vs : List V}, Tys (List.replicate k (rowN K n)) vs G → ∃ T : List (List Nat), T.length = k ∧ (∀ t ∈ T, t.length = n ∧ ∀ x ∈ t, x < n) ∧ Tys (T.map fun t => dat K (rowD t)) vs G
  | 0, _, h => by
    cases h
    exact ⟨[], rfl, (fun x hx => nomatch hx), .nil⟩
  | k + 1, _, h => by
    cases h with
    | cons a r =>
      obtain ⟨q, us, ev, hq, ht⟩ := a
      obtain ⟨t, h1, h2, h3⟩ := some_row ht
      obtain ⟨T, e1, e2, e3⟩ := some_rows r
      refine ⟨t :: T, by rw [List.length_cons, e1], fun z hz => ?_, .cons ?_ e3⟩
      · rcases List.mem_cons.mp hz with e | hz
        · subst e
          exact ⟨h1, h2⟩
        · exact e2 z hz
      · refine dat_tuple.mpr ⟨q, us, ev, hq, ?_⟩
        rw [List.map_map]
        exact h3
end
end K27
/-! ## Law2 -/
/-! The law's defs: drawn machines. -/
namespace K27
open PySem L2 PySem.Spec PyProof.Rows
section
variable {P : Program} {w : World} {K : PySem.W.Frag} {mg : Str → Option Value} {base : Heap}
/-- drawn tables: so many rows of so many numbers -/
def TabsOk (n d : Nat) (T : Tb) : Prop := T.length = d ∧ ∀ t ∈ T, t.length = n ∧ ∀ x ∈ t, x < n
theorem range_rep {τ : Ty} (n : Nat) : (List.range n).map (fun _ => τ) = List.replicate n τ := by
  induction n with
  | zero => rfl
  | succ n ih => rw [List.range_succ, List.map_append, ih, List.map_singleton, List.replicate_succ']
def forBody : Stmt → List Stmt
  | .For _ _ b _ _ => b
  | _ => []
abbrev CMach (P : Program) (w : World) (K : PySem.W.Frag) (mg : Str → Option Value) (base : Heap) : Prop := Cal P w K mg base 2 "_law_machine" p_lmach (spOf (fun i : Nat × Nat => (1 ≤ i.1 ∧ i.1 ≤ 4) ∧ i.2 ≤ 100) (fun i => [boxT, dat K (.int (i.1 : Nat)), dat K (.int (i.2 : Nat))]) (fun i => some_ (TabsOk i.1 i.2) fun T => dat K (tbL T)))
theorem c_machine (B : Bu mg) (D : DefAt K mg "_law_machine" s_law_machine p_lmach) (T : CTake P w K mg base) : CMach P w K mg base :=
  def_ok (N := n_lmach) D sc_lmach (fun _ => rfl) fun f cdv A outer s H E i w0 Q σ hr hp S q => by
    obtain ⟨n, d⟩ := i
    have hn : 1 ≤ n := hp.1.1
    have hn4 : n ≤ 4 := hp.1.2
    have hd : d ≤ 100 := hp.2
    have tk : 0 < n ∧ n < 1073741824 := ⟨hn, Nat.lt_of_le_of_lt hn4 (by decide)⟩
    have n10 : n ≤ 1000 := by omega
    show wS _ (_ :: _) _ _ _
    refine w_newlist 3 (τs := []) sc_lmach.nd S a0 (by decide) fun σ1 w1 l vs1 g1 hl0 ol1 tl1 S1 => ?_
    have hv1 : vs1 = [] := by cases tl1; rfl
    subst hv1
    refine w_forM (xs := List.range d) (κ := fun (x : Nat) => dat K (.int (x : Nat))) 4 rfl PassesOwn.never sc_lmach.nd (ivR B.range_ (nm 2 S1) (by omega))
      (fun m σ w' => Grow w0 w' ∧ Sl w'.G σ [some boxT, some (dat K (.int (n : Nat))), some (dat K (.int (d : Nat))), some (ex (.ref l)), none, none, none, none, none, none] ∧ ∃ vs, Own w' l (.lst vs) ∧ Tys (List.replicate m (rowN K n)) vs w'.G)
      (fun w' g => ⟨g1.trans g, S1.mono g.g, [], ol1.grow g, .nil⟩) (fun m x σ' w3 w4 v hx hI g4 hv => ?_) (fun σ' w' hI => ?_)
    · obtain ⟨gI, SI, vs, olI, htI⟩ := hI
      have S4 := (SI.mono g4.g).put hv 4
      have hmd : m < d := by
        have h := (List.getElem?_eq_some_iff.mp hx).1
        rw [List.length_range] at h
        exact h
      have fin : ∀ (σ5 : L2.St) (w5 : Wd) (τ : Ty) (o5 o7 o8 o9 : Option Ty), Grow w4 w5 → Sl w5.G σ5 [some boxT, some (dat K (.int (n : Nat))), some (dat K (.int (d : Nat))), some (ex (.ref l)), some (dat K (.int (x : Nat))), o5, some τ, o7, o8, o9] →
          (∀ p p2 p3, Ev (BX P w K mg base n_lmach "_law_machine" s_law_machine f cdv A outer s H E) σ5 w5 (.Name "_law_table" p) τ → Ev (BX P w K mg base n_lmach "_law_machine" s_law_machine f cdv A outer s H E) σ5 w5 (.Call (.Name "tuple" p2) [.Name "_law_table" p] [] p3) (rowN K n)) →
          wS (BX P w K mg base n_lmach "_law_machine" s_law_machine f cdv A outer s H E) ((forBody ((defBody s_law_machine).getD 1 (.Pass ⟨0, 0, 0, 0⟩))).drop 2) { nx := Nxt (fun m σ w' => Grow w0 w' ∧ Sl w'.G σ [some boxT, some (dat K (.int (n : Nat))), some (dat K (.int (d : Nat))), some (ex (.ref l)), none, none, none, none, none, none] ∧ ∃ vs, Own w' l (.lst vs) ∧ Tys (List.replicate m (rowN K n)) vs w'.G) w4 (m + 1), rt := Q, ct := Nxt (fun m σ w' => Grow w0 w' ∧ Sl w'.G σ [some boxT, some (dat K (.int (n : Nat))), some (dat K (.int (d : Nat))), some (ex (.ref l)), none, none, none, none, none, none] ∧ ∃ vs, Own w' l (.lst vs) ∧ Tys (List.replicate m (rowN K n)) vs w'.G) w4 (m + 1), bk := wS (BX P w K mg base n_lmach "_law_machine" s_law_machine f cdv A outer s H E) ((defBody s_law_machine).drop 2) { nx := fun _ H' => Q .non H', rt := Q } } σ5 w5.H := fun σ5 w5 τ o5 o7 o8 o9 g5 S5 ht => by
        show wS _ (_ :: _) _ _ _
        have lvs : vs.length = m := by rw [htI.length, List.length_replicate]
        have ol5 := (olI.grow g4).grow g5
        refine w_app (τ := rowN K n) (nm 3 S5) ol5 (ht _ _ _ (nm 6 S5)) (by omega) fun v6 w6 g6 hv6 ol6 => wS_nil ⟨w6.lay l _ ol6.free, rfl, g5.g.trans g6.g, ((gI.trans g4).trans (g5.trans g6)).change hl0, (((((S5.mono g6.g).forget 4).forget 5).forget 6).forget 7).forget 8 |>.forget 9, vs ++ [v6], Own.self, ?_⟩
        rw [List.replicate_succ']
        exact ((htI.mono g4.g).mono (g5.trans g6).g).append (.cons hv6 .nil)
      show wS _ (_ :: _) _ _ _
      refine w_par (τ1 := intT K (ltP 6)) (τ2 := tabT n) 5 6 rfl sc_lmach.nd S4 (ac (call_c T (hr.mono (by decide)) 6 (by decide) (ac (nm 0 S4) (ac ci a0))) (ac (mktab n10 rfl B.list_ B.range_ (nm 1 S4)) a0)) fun σ5 w5 g5 S5 => ?_
      refine w_ifU (ltU (nm 5 S5) (iS (R := fun _ => True) ci True.intro)) (fun w6 g6 => ?_) fun w6 g6 => ?_
      · have S6 := S5.mono g6.g
        refine w_setLc 6 S6 (lcMV (xs := List.range n) (κ := fun (x : Nat) => dat K (.int (x : Nat))) [("_law_state", 9)] 9 (fun _ => intT K (ltP n)) rfl sc_lmach.nd S6 (ivR B.range_ (nm 1 S6) (by omega)) (by rw [List.length_range]; omega) (fun i y σ7 w7 hy g7 S7 => fun s0 H0 C cl fp => call_c T (hr.mono (by decide)) n tk (ac (nm 0 S7) (ac (nm 1 S7) a0)))) fun σ7 w7 g7 S7 => wS_nil ?_
        rw [range_rep] at S7
        exact fin σ7 w7 _ _ _ _ _ ((g5.trans g6).trans g7) S7 fun p p2 p3 h => tuple_ B.tuple_ (.inl h)
      · have S6 := S5.mono g6.g
        show wS _ (_ :: _) _ _ _
        refine w_ifU (eqU (nm 5 S6) (iS (R := fun _ => True) ci True.intro)) (fun w7 g7 => ?_) fun w7 g7 => ?_
        · have S7 := S6.mono g7.g
          refine w_setLc 6 S7 (lcMV (xs := List.range n) (κ := fun (x : Nat) => dat K (.int (x : Nat))) [("_law_state", 9)] 9 (fun _ => intT K (ltP n)) rfl sc_lmach.nd S7 (ivR B.range_ (nm 1 S7) (by omega)) (by rw [List.length_range]; omega) (fun i y σ8 w8 hy g8 S8 => fun s0 H0 C cl fp => modS1 (intS B.int_ (addZ (R := fun _ => True) (iS (R := fun _ => True) (nm 9 S8) True.intro) (iS (R := fun _ => True) ci True.intro) fun _ _ _ _ => True.intro)) (nm 1 S8) (by omega))) fun σ8 w8 g8 S8 => wS_nil (wS_nil ?_)
          rw [range_rep] at S8
          exact fin σ8 w8 _ _ _ _ _ (((g5.trans g6).trans g7).trans g8) S8 fun p p2 p3 h => tuple_ B.tuple_ (.inl h)
        · have S7 := S6.mono g7.g
          show wS _ (_ :: _) _ _ _
          refine w_ifU (eqU (nm 5 S7) (iS (R := fun _ => True) ci True.intro)) (fun w8 g8 => ?_) fun w8 g8 => ?_
          · have S8 := S7.mono g8.g
            refine w_par (τ1 := intT K (ltP n)) (τ2 := intT K (ltP n)) 7 8 rfl sc_lmach.nd S8 (ac (call_c T (hr.mono (by decide)) n tk (ac (nm 0 S8) (ac (nm 1 S8) a0))) (ac (call_c T (hr.mono (by decide)) n tk (ac (nm 0 S8) (ac (nm 1 S8) a0))) a0)) fun σ9 w9 g9 S9 => ?_
            refine w_tab2 (n := n) rfl n10 (tup_ (ac (ixTab n10 (nm 6 S9) (nm 8 S9)) (ac (ixTab n10 (nm 6 S9) (nm 7 S9)) a0))) (nm 6 S9) (nm 7 S9) (nm 6 S9) (nm 8 S9) fun w10 g10 => wS_nil (wS_nil (wS_nil ?_))
            exact fin σ9 w10 _ _ _ _ _ (((((g5.trans g6).trans g7).trans g8).trans g9).trans g10) (S9.mono g10.g) fun p p2 p3 h => tup_tab n10 B.tuple_ h
          · have S8 := S7.mono g8.g
            show wS _ (_ :: _) _ _ _
            refine w_ifU (eqU (nm 5 S8) (iS (R := fun _ => True) ci True.intro)) (fun w9 g9 => ?_) fun w9 g9 => wS_nil (wS_nil (wS_nil (wS_nil ?_)))
            · have S9 := S8.mono g9.g
              refine w_tab (n := n) n10 (call_c T (hr.mono (by decide)) n tk (ac (nm 0 S9) (ac (nm 1 S9) a0))) (nm 6 S9) (call_c T (hr.mono (by decide)) n tk (ac (nm 0 S9) (ac (nm 1 S9) a0))) fun w10 g10 => wS_nil (wS_nil (wS_nil (wS_nil ?_)))
              exact fin _ w10 _ _ _ _ _ (((((g5.trans g6).trans g7).trans g8).trans g9).trans g10) (S9.mono g10.g) fun p p2 p3 h => tup_tab n10 B.tuple_ h
            · exact fin _ w9 _ _ _ _ _ ((((g5.trans g6).trans g7).trans g8).trans g9) (S8.mono g9.g) fun p p2 p3 h => tup_tab n10 B.tuple_ h
    · obtain ⟨gI, SI, vs, olI, htI⟩ := hI
      rw [List.length_range] at htI
      obtain ⟨T', h1, h2, h3⟩ := some_rows htI
      have hn_ : Same w'.G (w'.frz l (.lst vs) olI.at_).G := Wd.frz_same olI.free
      have S7 : Sl (w'.frz l (.lst vs) olI.at_).G σ' _ := (SI.mono hn_).retype (τ := ex (.ref l)) (τ' := dat K (tbL T')) 3 (by
        obtain ⟨v, e1, e2⟩ := SI.get (i := 3) (τ := ex (.ref l)) rfl
        exact ⟨v, e1, by
          rw [show v = .ref l from e2]
          refine dat_list.mpr ⟨l, vs, rfl, SqL.of Wd.frz_at, ?_⟩
          rw [List.map_map]
          exact h3.mono hn_⟩)
      have G7 : Grow w0 (w'.frz l (.lst vs) olI.at_) := gI.frz hl0 olI.at_
      show wS _ _ _ σ' (w'.frz l (.lst vs) olI.at_).H
      exact w_ret (nm 3 S7) fun v w8 g8 hv => q v w8 (G7.trans g8) ⟨T', ⟨h1, h2⟩, hv⟩
end
end K27
/-! ## Bads -/
/-! What is no lot of states, what is no bound. -/
namespace K27
open PySem L2 PySem.Spec PyProof.Rows
def bads1 (n : Nat) : List PyData := [.tuple [], .list [.int (n : Nat)], .tuple [.int 0, .int 0], .int 5, .str "0", .tuple [.bool true], .list [.int (0 - 1)]]
def bads2 : List PyData := [.int 0, .int (0 - 1), .bool true, .str "1", .tuple [.int 2]]
theorem bads1_ok {n : Nat} (h1 : 1 ≤ n) (h4 : n ≤ 4) {d : PyData} (h : d ∈ bads1 n) : Shw d ∧ BadS n d := by
  have hn : n = 1 ∨ n = 2 ∨ n = 3 ∨ n = 4 := by omega
  simp only [bads1, List.mem_cons, List.not_mem_nil, or_false] at h
  rcases hn with e | e | e | e <;> subst e <;> rcases h with e | e | e | e | e | e | e <;> subst e <;> exact ⟨⟨by decide +kernel, by decide +kernel, by decide +kernel, by decide +kernel⟩, ⟨(fun z => nomatch z), by decide +kernel, (fun xs hx => by rcases hx with e | e <;> first | (cases e; decide) | cases e)⟩⟩
theorem bads2_ok {d : PyData} (h : d ∈ bads2) : Shw d ∧ BadB d := by
  simp only [bads2, List.mem_cons, List.not_mem_nil, or_false] at h
  rcases h with e | e | e | e | e <;> subst e <;> exact ⟨⟨by decide +kernel, by decide +kernel, by decide +kernel, by decide +kernel⟩, ⟨(fun z => nomatch z), by first | exact .inl (by decide +kernel) | exact .inr rfl⟩⟩
end K27
/-! ## Exc6 -/
/-! Lists of lambdas, and what all of them are heard to refuse. -/
namespace K27
open PySem L2 PySem.Spec PyProof.Rows
open LamX (CodeO TabB LamS lamEnv lamCx lamS_by lamSB)
theorem GrowB.change {p a : Addr} {w0 w : Wd} {o : HO} {n : w.G a = none} (g : GrowB p w0 w) (h : w0.H a = none) : GrowB p w0 (w.lay a o n) := ⟨g.g, fun x u e ne => by
  have : x ≠ a := ne_of_none e h
  exact (upd_ne this).trans (g.h x u e ne), g.ap⟩
/-- a list of lambdas being made, beside the table of code objects at P; seen from w0 -/
structure RSt (X : Cx) (k : Nat) (da : List (Option Ty)) (C : Addr) (bad : Ty) (P : Addr) (w0 w : Wd) (l : Addr) (m : Nat) : Prop where
  g : GrowB P w0 w
  l0 : w0.H l = none
  ne : l ≠ P
  lst : ∃ vs, Own w l (.lst vs) ∧ Tys (List.replicate m (askT X k da C bad)) vs w.G
  tbl : ∃ ps, Own w P (.tbl ps) ∧ TblOk (X.env.qual ++ "<lambda>") w.G ps
theorem RSt.grow {X : Cx} {k : Nat} {da : List (Option Ty)} {C P l : Addr} {bad : Ty} {w0 w w' : Wd} {m : Nat} (r : RSt X k da C bad P w0 w l m) (g : Grow w w') : RSt X k da C bad P w0 w' l m := by
  obtain ⟨g0, l0, ne, ⟨vs, h1, h2⟩, ps, h3, h4⟩ := r
  exact ⟨g0.trans g.b, l0, ne, ⟨vs, h1.grow g, h2.mono g.g⟩, ps, h3.grow g, h4.mono g.g⟩
section
variable {X : Cx} {σ : L2.St} {w0 w : Wd} {c P : Addr} {ps : Array Value} {params : Arguments} {body : Expr} {scope : Scope} {pos lpos p2 : Pos} {ds da : List (Option Ty)} {rest : List Stmt} {D : Ends} {k : Nat} {C : Addr} {bad : Ty}
/-- name = [lambda: ..] -/
theorem w_asks (i : Nat) {x : Str} {pos' : Pos} (hN : X.N.Nodup) (S : Sl w.G σ ds) (TB : TabB X.base X.mg c P) (hcode : X.env.code = .ref c) (AK : AskOk X k da C bad params body scope) (g0 : GrowB P w0 w) (ow : Own w P (.tbl ps)) (ht : TblOk (X.env.qual ++ "<lambda>") w.G ps)
    (kk : ∀ σ' w' l, RSt X k da C bad P w0 w' l 1 → Same w.G w'.G → Sl w'.G σ' (ds.set i (some (ex (.ref l)))) → wS X rest D σ' w'.H)
    (hdef : defaultsOf params X.env = ([], []) := by rfl) (he : starEach [Expr.Lambda params body scope lpos] X.env = (false, eval (Expr.Lambda params body scope lpos) X.env) :: starEach [] X.env := by rfl) (hi : X.N[i]? = some x := by rfl) (hx : Loc X.env.scope x := by first | exact Or.inl rfl | exact Or.inr rfl)
    (hs : swapsWith (.List [Expr.Lambda params body scope lpos] p2) (some (.Name x pos')) pos.line X.env = pure false := by rfl) (hf : X.fn x = true ∨ X.env.scope.names.lookup x = some .local := by first | exact .inl rfl | exact .inr rfl) :
    wS X (.Assign [.Name x pos'] (.List [Expr.Lambda params body scope lpos] p2) pos :: rest) D σ w.H :=
  wS_cons (toS1 (ps_set hN hi hx (pe_lst (pa_cons uE pa_nil he)) hs hf) (lam_ev TB hcode AK.L hdef ow ht fun f c' pm ctv w' ps' gB hf1 hf2 hc ow' ht' => ⟨by show (1 : Nat) ≤ sizeLine; decide, fun l hl => by
    have ne : l ≠ P := fun z => by
      rw [z, ow'.at_] at hl
      cases hl
    have gl := Grow.lay (w := w') (o := .lst [.ref f]) hl
    have l0 : w0.H l = none := by
      cases e : w0.H l with
      | none => rfl
      | some o =>
        have := (g0.trans gB).h l o e ne
        rw [hl] at this
        cases this
    exact kk _ (w'.lay l (.lst [.ref f]) (w'.gnone hl)) l ⟨(g0.trans gB).trans gl.b, l0, ne, ⟨_, Own.lay hl, .cons ⟨f, c', pm, ctv, params, body, scope, rfl, hf2, hc, AK⟩ .nil⟩, ps', ow'.other (Ne.symm ne), ht'⟩ gB.g ((S.mono gB.g).put (τ := ex (.ref l)) rfl i)⟩))
/-- name.append(lambda: ..) -/
theorem w_askA {o : Expr} {apos cpos : Pos} {l : Addr} {m : Nat} (TB : TabB X.base X.mg c P) (hcode : X.env.code = .ref c) (R : RSt X k da C bad P w0 w l m) (ho : Ev X σ w o (ex (.ref l))) (AK : AskOk X k da C bad params body scope) (hm : m ≤ 100)
    (kk : ∀ w', RSt X k da C bad P w0 w' l (m + 1) → Same w.G w'.G → wS X rest D σ w'.H)
    (hdef : defaultsOf params X.env = ([], []) := by rfl) (hs : starEach [Expr.Lambda params body scope lpos] X.env = (false, eval (Expr.Lambda params body scope lpos) X.env) :: starEach [] X.env := by rfl) (hbase : attributeBase o "append" X.env (eval o X.env) = eval o X.env := by rfl)
    (hfew : ((backTo cpos (starEach [Expr.Lambda params body scope lpos] X.env)).all (fun x => !x.1) && (backToKw cpos (keywordEach [] X.env)).all (fun x => x.1.isSome)
      && decide ([Expr.Lambda params body scope lpos].length + ([] : List Keyword).length + (if ([] : List Keyword).isEmpty then 0 else 1) < 30)) = true := by rfl)
    (hline : (apos.endLine == cpos.line) = true := by rfl) (hsw : swapsWith (.Call (.Attribute o "append" apos) [Expr.Lambda params body scope lpos] [] cpos) none pos.line X.env = pure false := by rfl) :
    wS X (.Expr (.Call (.Attribute o "append" apos) [Expr.Lambda params body scope lpos] [] cpos) pos :: rest) D σ w.H := by
  obtain ⟨g0, l0, ne, ⟨vs, h1, h2⟩, ps, h3, h4⟩ := R
  have hlen : vs.length ≤ 100 := by rw [h2.length, List.length_replicate]; exact hm
  refine wS_cons (toS1 (ps_expr (pe_bm PySem.F.plainAttrs_list PySem.F.slot_list_append PySem.F.type_list_append mt_append uE (pa_cons uE pa_nil hs) hbase hfew hline hs rfl) hsw) (ho w (Grow.refl _) _ fun u w2 g2 eu => ⟨?_, ?_⟩))
  · have eu : u = .ref l := eu
    subst eu
    exact .inl ⟨rfl, _, SqL.of (h1.grow g2).at_⟩
  · refine lam_ev TB hcode AK.L hdef (h3.grow g2) (h4.mono g2.g) fun f c' pm ctv w' ps' gB hf1 hf2 hc ow' ht' => ?_
    have owl : Own w' l (.lst vs) := (h1.grow g2).growB gB ne
    have h5 : Tys (List.replicate (m + 1) (askT X k da C bad)) (vs ++ [V.ref f]) w'.G := by
      rw [List.replicate_succ']
      exact ((h2.mono g2.g).mono gB.g).append (.cons ⟨f, c', pm, ctv, params, body, scope, rfl, hf2, hc, AK⟩ .nil)
    have h6 : RSt X k da C bad P w0 (w'.lay l (.lst (vs ++ [V.ref f])) owl.free) l (m + 1) := ⟨((g0.trans g2.b).trans gB).change l0, l0, ne, ⟨_, Own.self, h5⟩, ps', ow'.other (Ne.symm ne), ht'⟩
    exact ⟨l, vs, .ref f, eu, rfl, owl.at_, small_big (Nat.le_trans hlen (by decide)), kk _ h6 (g2.g.trans gB.g)⟩
end
def isStarred : Expr → Bool
  | .Starred .. => true
  | _ => false
theorem star1 {e : Expr} {es : List Expr} {env : Env} (h : isStarred e = false := by rfl) : starEach (e :: es) env = (false, eval e env) :: starEach es env := by cases e <;> first | rfl | cases h
structure AvS (X : Cx) (σ : L2.St) (w : Wd) (es : List Expr) (τs : List Ty) : Prop where
  h : Av X σ w es τs
theorem acs {X : Cx} {σ : L2.St} {w : Wd} {e : Expr} {es : List Expr} {τ : Ty} {τs : List Ty} (h : Ev X σ w e τ) (h2 : AvS X σ w es τs) (hs : isStarred e = false := by rfl) : AvS X σ w (e :: es) (τ :: τs) := ⟨ac h h2.h (star1 hs)⟩
theorem a0s {X : Cx} {σ : L2.St} {w : Wd} : AvS X σ w [] [] := ⟨a0⟩
/-- a def whose code object is known -/
structure DefAtC (K : PySem.W.Frag) (mg : Str → Option Value) (x : Str) (st : Stmt) (ps : List Str) (c : Addr) : Prop where
  ex : ∃ f fd, Fun K x x st f fd ∧ mg x = some (.ref f) ∧ Binds K fd ps [] ∧ fd.code = .ref c
theorem gdef_anyC {P : Program} {w : World} {K : PySem.W.Frag} {mg : Str → Option Value} {base : Heap} {k : Nat} {x : Str} {st : Stmt} {N ps : List Str} {sp : Sp} {c : Addr} (D : DefAtC K mg x st ps c) (S : FnScope N ps (defScope st)) (len : ∀ vs H Q E, sp vs H Q E → vs.length = ps.length)
    (h : ∀ (f : Addr) (A : Around) (outer : List Env) (s : Shared) (H : Hp) (vs : List V) (Q : VK) (E : XK), Room k (A.deeper (envOfC x (defScope st) s.heap.objs.size f (.ref c))) → A.guards = some [] → sp vs H Q E →
      wS (BX P w K mg base N x st f (.ref c) A outer s H E) (defBody st) { nx := fun _ H' => Q .non H', rt := Q } (L2.start N vs) H) :
    GCal P w K mg base (k + 1) x ps sp := by
  obtain ⟨f, fd, F, hm, hb, hc⟩ := D.ex
  refine ⟨f, fd, ⟨len, fun A outer s H args us vs Q E hr hgd e0 hbd r hsp => ?_⟩, hm, F.kp, hb⟩
  obtain ⟨oc, od, kV, doc, pm, an, cdv, ct, osl, rfl, lk, hcd⟩ := F.ex
  have hc : cdv = .ref c := hc
  subst hc
  exact LamX.run_ofS lk hcd S hr e0 hbd r (len vs H Q E hsp) fun hr' => ⟨_, (uS (st := defBody st)).nox, h f A outer s H vs Q E hr' hgd hsp⟩
section
variable {P : Program} {w : World} {K : PySem.W.Frag} {mg : Str → Option Value} {base : Heap}
abbrev qRef : Str := "_law_refused_right.<locals>.<lambda>"
abbrev CRef (P : Program) (w : World) (K : PySem.W.Frag) (mg : Str → Option Value) (base : Heap) (M TP : Addr) : Prop := GCal P w K mg base 10 "_law_refused_right" p_lref (fun vs H Q _ => ∃ (i : Tb × Nat) (w0 : Wd) (ps : Array Value), w0.H = H ∧ MOk i.1 i.2 ∧ Tys [boxT, mchT K M i.1 i.2] vs w0.G ∧ Own w0 TP (.tbl ps) ∧ TblOk qRef w0.G ps ∧
  ∀ w' ps', GrowB TP w0 w' → Own w' TP (.tbl ps') → TblOk qRef w'.G ps' → Q (.bl true) w'.H)
theorem c_ref {M CR fI c TP : Addr} (B : Bu mg) (D : DefAtC K mg "_law_refused_right" s_law_refused_right p_lref c) (Dh : DefAt K mg "_law_heard" s_law_heard p_lheard) (KM : Kls K M mFn) (PK : CPick P w K mg base) (TR : RefTxt P K mg CR fI) (XF : XfC K CR) (TB : TabB base mg c TP)
    (X1 : XLeastS P w K mg base M CR) (X2 : XNpap P w K mg base M CR) (X3 : XNhold P w K mg base M CR) (X4 : XWholdS P w K mg base M CR) (X5 : XLeastB P w K mg base M CR) (X6 : XWpapB P w K mg base M CR) (X7 : XWholdB P w K mg base M CR) : CRef P w K mg base M TP :=
  gdef_anyC (N := n_lref) D sc_lref (fun vs H Q E ⟨i, w0, ps, _, _, t, _⟩ => t.length) fun f A outer s H vs Q E hr hgd ⟨i, w0, ps, eH, hM, ht, ow, tok, q⟩ => by
    obtain ⟨T, n⟩ := i
    have hM : MOk T n := hM
    subst eH
    have S := Sl.start (N := n_lref) ht
    rw [ht.length] at S
    have h1 := hM.n1
    have h4 := hM.n4
    show wS _ (_ :: _) _ _ _
    have eL : ([dat K (.tuple []), dat K (.list [.int (n : Nat)]), dat K (.tuple [.int 0, .int 0]), dat K (.int 5), dat K (.str "0"), dat K (.tuple [.bool true]), dat K (.list [.int (0 - 1)])] : List Ty) = (bads1 n).map (dat K) := rfl
    generalize (bads1 n).map (dat K) = bs at eL
    refine w_setS (κ := id) (Pp := fun τ => τ ∈ bs) 2 sc_lref.nd S (call_c PK (hr.mono (by decide)) bs ⟨by rw [← eL]; show (0 : Nat) < 7; decide, by rw [← eL]; show (7 : Nat) < 1000; decide⟩ (ac (nm 0 S) (ac (eqL eL (lst_ (AvS.h ?_) (by show (7 : Nat) ≤ sizeLine; decide))) a0))) ?_
    · refine acs (tupD (ds := []) a0) ?_
      refine acs (lstD (ds := [.int (n : Nat)]) (ac (fld_c (nm 1 S) KM (by simp) rfl) a0)) ?_
      refine acs (tupD (ds := [.int 0, .int 0]) (ac ci (ac ci a0))) ?_
      refine acs ci ?_
      refine acs cs ?_
      refine acs (tupD (ds := [.bool true]) (ac cb a0)) ?_
      exact acs (lstD (ds := [.int (0 - 1)]) (ac (sub ci ci) a0)) a0s
    intro z σ1 w1 hz g1 S1
    have hz : z ∈ (bads1 n).map (dat K) := by
      show z ∈ [dat K (.tuple []), dat K (.list [.int (n : Nat)]), dat K (.tuple [.int 0, .int 0]), dat K (.int 5), dat K (.str "0"), dat K (.tuple [.bool true]), dat K (.list [.int (0 - 1)])]
      rw [eL]
      exact hz
    obtain ⟨d, hd, rfl⟩ := List.mem_map.mp hz
    obtain ⟨sh, hb⟩ := bads1_ok h1 h4 hd
    have S1 : Sl w1.G σ1 [some boxT, some (mchT K M T n), some (dat K d), none, none] := S1
    have hu : (A.deeper (envOfC "_law_refused_right" (defScope s_law_refused_right) s.heap.objs.size f (.ref c))).units + 64 < cLine := hr.units
    have Sa : Sl w1.G σ1 [some boxT, some (mchT K M T n), some (dat K d), none, none] := S1
    refine w_asks (k := 7) (da := [some boxT, some (mchT K M T n), some (dat K d), none, none]) (C := CR) (bad := dat K d) (w0 := w0) 3 sc_lref.nd S1 TB rfl ⟨lamS_by (by show lamSB (defScope s_law_refused_right) _ = true; decide +kernel), fun _ _ _ _ _ => rfl, fun A' outer' s' H' E' f' c' hr' σ' w' S' wish => ev_kcallX (ks := ["states", "bound"]) (W := fun cls d _ H => E' cls d H) 1 [] (fun vs _ zs => vs ++ zs) X1 (takes_of rfl rfl rfl rfl) (hr'.mono (by decide)) ⟨T, n, d, .int 0⟩ hb (ac (nm 1 S') a0) (kc (nm 2 S') (kc ci k0)) rfl (fun q h => nomatch h) (by simp) (fun vs zs G h1 h2 => Tys.append h1 h2) (fun h1 h2 h3 => vals_app h1 h3) (fun D doc pm an cdv ct us mv ws h1 h2 h3 => by
        match us, mv, ws, h1, h2, h3 with
        | [_], [], [_, _], _, _, _ => exact rfl) rfl fun _ cls d H' h => wish cls d H' h⟩ g1.b (ow.grow g1) (tok.mono g1.g) fun σ2 w2 l R2 G2 S2 => ?_
    refine w_askA TB rfl R2 (nm 3 S2) ⟨lamS_by (by show lamSB (defScope s_law_refused_right) _ = true; decide +kernel), fun _ _ _ _ _ => rfl, fun A' outer' s' H' E' f' c' hr' σ' w' S' wish => ev_kcallX (ks := ["states"]) (W := fun cls d _ H => E' cls d H) 1 [] (fun vs _ zs => vs ++ zs) X2 (takes_of rfl rfl rfl rfl) (hr'.mono (by decide)) (T, n, d) hb (ac (nm 1 S') a0) (kc (nm 2 S') k0) rfl (fun q h => nomatch h) (by simp) (fun vs zs G h1 h2 => Tys.append h1 h2) (fun h1 h2 h3 => vals_app h1 h3) (fun D doc pm an cdv ct us mv ws h1 h2 h3 => by
        match us, mv, ws, h1, h2, h3 with
        | [_], [], [_], _, _, _ => exact rfl) rfl fun _ cls d H' h => wish cls d H' h⟩ (by decide) fun w3 R3 G3 => ?_
    have S3 := S2.mono G3
    refine w_askA TB rfl R3 (nm 3 S3) ⟨lamS_by (by show lamSB (defScope s_law_refused_right) _ = true; decide +kernel), fun _ _ _ _ _ => rfl, fun A' outer' s' H' E' f' c' hr' σ' w' S' wish => ev_kcallX (ks := ["states"]) (W := fun cls d _ H => E' cls d H) 2 [] (fun vs _ zs => vs ++ zs) X3 (takes_of rfl rfl rfl rfl) (hr'.mono (by decide)) (T, n, d) hb (ac (nm 1 S') (ac cn a0)) (kc (nm 2 S') k0) rfl (fun q h => nomatch h) (by simp) (fun vs zs G h1 h2 => Tys.append h1 h2) (fun h1 h2 h3 => vals_app h1 h3) (fun D doc pm an cdv ct us mv ws h1 h2 h3 => by
        match us, mv, ws, h1, h2, h3 with
        | [_, _], [], [_], _, _, _ => exact rfl) rfl fun _ cls d H' h => wish cls d H' h⟩ (by decide) fun w4 R4 G4 => ?_
    have S4 := S3.mono G4
    refine w_askA TB rfl R4 (nm 3 S4) ⟨lamS_by (by show lamSB (defScope s_law_refused_right) _ = true; decide +kernel), fun _ _ _ _ _ => rfl, fun A' outer' s' H' E' f' c' hr' σ' w' S' wish => ev_kcallX (ks := ["states", "bound"]) (W := fun cls d _ H => E' cls d H) 3 [] (fun vs _ zs => vs ++ zs) X4 (takes_of rfl rfl rfl rfl) (hr'.mono (by decide)) ⟨T, n, d, .int 0⟩ hb (ac (nm 1 S') (ac ci (ac cn a0))) (kc (nm 2 S') (kc ci k0)) rfl (fun q h => nomatch h) (by simp) (fun vs zs G h1 h2 => Tys.append h1 h2) (fun h1 h2 h3 => vals_app h1 h3) (fun D doc pm an cdv ct us mv ws h1 h2 h3 => by
        match us, mv, ws, h1, h2, h3 with
        | [_, _, _], [], [_, _], _, _, _ => exact rfl) rfl fun _ cls d H' h => wish cls d H' h⟩ (by decide) fun w5 R5 G5 => ?_
    have S5 : Sl w5.G σ2 [some boxT, some (mchT K M T n), some (dat K d), some (ex (.ref l)), none] := S4.mono G5
    obtain ⟨gB5, l05, ne5, ⟨vs5, ow5, ht5⟩, ps5, own5, tok5⟩ := R5
    have Sa5 : Sl w5.G σ2 [some boxT, some (mchT K M T n), some (dat K d), none, none] := S5.forget 3
    refine w_when (b := false) (eqT rfl (t_neD hu (ofL (xs := []) (lcF [("_law_ask", 4)] 4 rfl sc_lref.nd S5 (ivg_own (nm 3 S5) ow5 ht5) fun s0 H0 C cl fp bk i τ σ' w' hτ g' S' => ?_)) (lstD (ds := []) a0) rfl rfl)) (fun h => nomatch h) fun _ w6 g6 => ?_
    · have eτ : τ = askT _ 7 [some boxT, some (mchT K M T n), some (dat K d), none, none] CR (dat K d) := (List.mem_replicate.mp (List.mem_of_getElem? hτ)).2
      subst eτ
      exact eqT (by simp) (t_neF (heard_ev Dh B TR XF sh bk Sa5 g' hr hgd (nm 4 S')) (repr_ hgd hu B.repr_ (nm 2 S') sh) (.str _) (.str _) rfl)
    have S6 := S5.mono g6.g
    have eL2 : ([dat K (.int 0), dat K (.int (0 - 1)), dat K (.bool true), dat K (.str "1"), dat K (.tuple [.int 2])] : List Ty) = bads2.map (dat K) := rfl
    generalize bads2.map (dat K) = bs2 at eL2
    refine w_setS (κ := id) (Pp := fun τ => τ ∈ bs2) 2 sc_lref.nd S6 (call_c PK (hr.mono (by decide)) bs2 ⟨by rw [← eL2]; show (0 : Nat) < 5; decide, by rw [← eL2]; show (5 : Nat) < 1000; decide⟩ (ac (nm 0 S6) (ac (eqL eL2 (lst_ (AvS.h ?_) (by show (5 : Nat) ≤ sizeLine; decide))) a0))) ?_
    · exact acs ci (acs (sub ci ci) (acs cb (acs cs (acs (tupD (ds := [.int 2]) (ac ci a0)) a0s))))
    intro z2 σ7 w7 hz2 g7 S7
    have hz2 : z2 ∈ bads2.map (dat K) := by
      show z2 ∈ [dat K (.int 0), dat K (.int (0 - 1)), dat K (.bool true), dat K (.str "1"), dat K (.tuple [.int 2])]
      rw [eL2]
      exact hz2
    obtain ⟨d2, hd2, rfl⟩ := List.mem_map.mp hz2
    obtain ⟨sh2, hb2⟩ := bads2_ok hd2
    have S7 : Sl w7.G σ7 [some boxT, some (mchT K M T n), some (dat K d2), some (ex (.ref l)), none] := S7
    have G7 := g6.trans g7
    refine w_asks (k := 7) (da := [some boxT, some (mchT K M T n), some (dat K d2), none, none]) (C := CR) (bad := dat K d2) (w0 := w0) 3 sc_lref.nd S7 TB rfl ⟨lamS_by (by show lamSB (defScope s_law_refused_right) _ = true; decide +kernel), fun _ _ _ _ _ => rfl, fun A' outer' s' H' E' f' c' hr' σ' w' S' wish => ev_kcallX (ks := ["bound"]) (W := fun cls d _ H => E' cls d H) 1 [("states", .non)] (fun vs ms zs => vs ++ ms ++ zs) X5 (takes_of rfl rfl rfl rfl) (hr'.mono (by decide)) (T, n, d2) ⟨hM, hb2⟩ (ac (nm 1 S') a0) (kc (nm 2 S') k0) rfl (by simp) (by simp) (fun vs zs G h1 h2 => Tys.append (Tys.append h1 (.cons (by exact Dp.non) .nil)) h2) (fun h1 h2 h3 => vals_app (vals_app h1 h2) h3) (fun D doc pm an cdv ct us mv ws h1 h2 h3 => by
        match us, mv, ws, h1, h2, h3 with
        | [_], [_], [_], _, _, _ => exact ⟨_, _, _, _, _, _, rfl, rfl, rfl⟩) rfl fun _ cls d H' h => wish cls d H' h⟩ (gB5.trans G7.b) (own5.grow G7) (tok5.mono G7.g) fun σ8 w8 l8 R8 G8 S8 => ?_
    refine w_askA TB rfl R8 (nm 3 S8) ⟨lamS_by (by show lamSB (defScope s_law_refused_right) _ = true; decide +kernel), fun _ _ _ _ _ => rfl, fun A' outer' s' H' E' f' c' hr' σ' w' S' wish => ev_kcallX (ks := ["bound"]) (W := fun cls d _ H => E' cls d H) 2 [("states", .non)] (fun vs ms zs => vs ++ ms ++ zs) X6 (takes_of rfl rfl rfl rfl) (hr'.mono (by decide)) (T, n, d2) ⟨hM, hb2⟩ (ac (nm 1 S') (ac ci a0)) (kc (nm 2 S') k0) rfl (by simp) (by simp) (fun vs zs G h1 h2 => Tys.append (Tys.append h1 (.cons (by exact Dp.non) .nil)) h2) (fun h1 h2 h3 => vals_app (vals_app h1 h2) h3) (fun D doc pm an cdv ct us mv ws h1 h2 h3 => by
        match us, mv, ws, h1, h2, h3 with
        | [_, _], [_], [_], _, _, _ => exact ⟨_, _, _, _, _, _, rfl, rfl, rfl⟩) rfl fun _ cls d H' h => wish cls d H' h⟩ (by decide) fun w9 R9 G9 => ?_
    have S9 := S8.mono G9
    refine w_askA TB rfl R9 (nm 3 S9) ⟨lamS_by (by show lamSB (defScope s_law_refused_right) _ = true; decide +kernel), fun _ _ _ _ _ => rfl, fun A' outer' s' H' E' f' c' hr' σ' w' S' wish => ev_kcallX (ks := ["bound"]) (W := fun cls d _ H => E' cls d H) 3 [("states", .non)] (fun vs ms zs => vs ++ ms ++ zs) X7 (takes_of rfl rfl rfl rfl) (hr'.mono (by decide)) (T, n, d2) ⟨hM, hb2⟩ (ac (nm 1 S') (ac ci (ac cn a0))) (kc (nm 2 S') k0) rfl (by simp) (by simp) (fun vs zs G h1 h2 => Tys.append (Tys.append h1 (.cons (by exact Dp.non) .nil)) h2) (fun h1 h2 h3 => vals_app (vals_app h1 h2) h3) (fun D doc pm an cdv ct us mv ws h1 h2 h3 => by
        match us, mv, ws, h1, h2, h3 with
        | [_, _, _], [_], [_], _, _, _ => exact ⟨_, _, _, _, _, _, rfl, rfl, rfl⟩) rfl fun _ cls d H' h => wish cls d H' h⟩ (by decide) fun w10 R10 G10 => ?_
    have S10 : Sl w10.G σ8 [some boxT, some (mchT K M T n), some (dat K d2), some (ex (.ref l8)), none] := S9.mono G10
    obtain ⟨gB10, l10, ne10, ⟨vs10, ow10, ht10⟩, ps10, own10, tok10⟩ := R10
    have Sa10 : Sl w10.G σ8 [some boxT, some (mchT K M T n), some (dat K d2), none, none] := S10.forget 3
    refine w_ret (eqD hu (ofL (xs := []) (lcF [("_law_ask", 4)] 4 rfl sc_lref.nd S10 (ivg_own (nm 3 S10) ow10 ht10) fun s0 H0 C cl fp bk i τ σ' w' hτ g' S' => ?_)) (lstD (ds := []) a0) rfl rfl) fun v w11 g11 hv => ?_
    · have eτ : τ = askT _ 7 [some boxT, some (mchT K M T n), some (dat K d2), none, none] CR (dat K d2) := (List.mem_replicate.mp (List.mem_of_getElem? hτ)).2
      subst eτ
      exact eqT (by simp) (t_neF (heard_ev Dh B TR XF sh2 bk Sa10 g' hr hgd (nm 4 S')) (repr_ hgd hu B.repr_ (nm 2 S') sh2) (.str _) (.str _) rfl)
    · rw [Dp.bool_iff hv]
      exact q w11 ps10 (gB10.trans g11.b) (own10.grow g11) (tok10.mono g11.g)
end
end K27
/-! ## Core21 -/
/-! The calculus, twenty-first part: three names at once, in as a value, lists made ahead of a loop. -/
namespace K27
open PySem L2 PySem.Spec PyProof.Rows
section
variable {X : Cx} {e a b : Expr} {es : List Expr} {σ : L2.St} {w w' : Wd} {τ τ' : Ty} {pos p : Pos} {ds : List (Option Ty)} {rest body : List Stmt} {D : Ends}
theorem inT {i : Int} {ns : List Int} (ha : Dv X σ w a (.int i)) (hb : Ev X σ w b (tupT X.K (ns.map fun n => dat X.K (.int n)))) (hm : behindInMarks .In b = false := by rfl) : Dv X σ w (.Compare a [.In] [b] pos) (.bool (decide (i ∈ ns))) :=
  ev_cmp op_in_seq ha hb hm fun x y w3 Q _ hx ⟨p, vs, ey, hs, ht⟩ q => ⟨p, vs, ey, .inr (sm_seqT w3.sub hs), by rw [Dp.int_iff hx]; rfl, by rw [ints_of ht]; exact flat_ints ns, by
    rw [Dp.int_iff hx, ints_of ht, inV_ints]
    exact q _ w3 (Grow.refl _) (.bl _)⟩
theorem g3 {K : PySem.W.Frag} {τ1 τ2 τ3 : Ty} {i j l : Nat} {x : V} {Q : L2.St → Hp → Prop} (h : (tupT K [τ1, τ2, τ3]).p x w.G) (k : ∀ v1 v2 v3, τ1.p v1 w.G → τ2.p v2 w.G → τ3.p v3 w.G → Q (((σ.set i (some v1)).set j (some v2)).set l (some v3)) w.H) :
    gTup K 3 (gCons (gName i) (gCons (gName j) (gCons (gName l) gNil))) x σ w.H Q := by
  obtain ⟨p, vs, ex, hs, ht⟩ := h
  cases ht with
  | cons h1 t =>
    cases t with
    | cons h2 t =>
      cases t with
      | cons h3 t =>
        cases t
        exact ⟨p, _, ex, sm_seqT w.sub hs, rfl, _, _, rfl, _, _, rfl, _, _, rfl, rfl, k _ _ _ h1 h2 h3⟩
/-- x, y, z = e -/
theorem w_unp3 {τ1 τ2 τ3 : Ty} {x y z : Str} {px py pz pt : Pos} {kt} (i j l : Nat) (hc : X.calm = true) (hN : X.N.Nodup) (S : Sl w.G σ ds) (he : Ev X σ w e (tupT X.K [τ1, τ2, τ3])) (k : ∀ σ' w', Grow w w' → Sl w'.G σ' (((ds.set i (some τ1)).set j (some τ2)).set l (some τ3)) → wS X rest D σ' w'.H)
    (hi : PN X i x := by exact ⟨rfl, by first | exact Or.inl rfl | exact Or.inr rfl, by first | exact .inl rfl | exact .inr rfl⟩) (hj : PN X j y := by exact ⟨rfl, by first | exact Or.inl rfl | exact Or.inr rfl, by first | exact .inl rfl | exact .inr rfl⟩)
    (hl : PN X l z := by exact ⟨rfl, by first | exact Or.inl rfl | exact Or.inr rfl, by first | exact .inl rfl | exact .inr rfl⟩)
    (hs : swapsWithSole [.Tuple [.Name x px, .Name y py, .Name z pz] kt pt] e pos.line X.env = pure false := by rfl) (hw : swappedStores [.Tuple [.Name x px, .Name y py, .Name z pz] kt pt] e X.env = pure none := by rfl) :
    wS X (.Assign [.Tuple [.Name x px, .Name y py, .Name z pz] kt pt] e pos :: rest) D σ w.H :=
  wS_cons (toS1 (ps_asg uE (pg_tup hc (pgs_cons (pn_pg hN hi) (pgs_cons (pn_pg hN hj) (pgs_cons (pn_pg hN hl) pgs_nil)))) hs hw) (he w (Grow.refl _) _ fun v w2 g2 hv => K27.g3 hv fun v1 v2 v3 h1 h2 h3 => k _ w2 g2 ((((S.mono g2.g).put h1 i).put h2 j).put h3 l)))
/-! ### against the empty list -/
def Lay1 (d : PyData) : Prop := d.canLay0 = true ∧ d.depth ≤ 8
theorem lay_all : ∀ {xs : List PyData}, (∀ x ∈ xs, Lay1 x) → PyData.canLayAll0 xs = true ∧ PyData.depthAll xs ≤ 8
  | [], _ => ⟨rfl, by show (0 : Nat) ≤ 8; decide⟩
  | x :: xs, h => by
    obtain ⟨h1, h2⟩ := h x List.mem_cons_self
    obtain ⟨h3, h4⟩ := lay_all (xs := xs) fun y hy => h y (List.mem_cons_of_mem _ hy)
    exact ⟨by simp [PyData.canLayAll0, h1, h3], by simp only [PyData.depthAll]; omega⟩
theorem lay_shaped {xs : List PyData} (h : ∀ x ∈ xs, Lay1 x) : SeqAt.shaped (.list xs) = true := by
  obtain ⟨h1, h2⟩ := lay_all h
  unfold SeqAt.shaped
  have h3 : (PyData.list xs).canLay0 = true := by simp only [PyData.canLay0]; exact h1
  have h4 : (PyData.list xs).depth ≤ 64 := by simp only [PyData.depth]; omega
  rw [h3, decide_eq_true h4]
  rfl
theorem eqv_nil (xs : List PyData) : PyData.eqv (.list xs) (.list []) = xs.isEmpty := by
  cases xs <;> simp [PyData.eqv, PyData.eqvAll]
theorem eqNil {xs : List PyData} {p2 : Pos} (hu : X.A.units + 64 < cLine) (ha : Dv X σ w e (.list xs)) (h : ∀ x ∈ xs, Lay1 x) : Dv X σ w (.Compare e [.Eq] [.List [] p2] pos) (.bool xs.isEmpty) := by
  have q := eqD (pos := pos) hu ha (lstD (pos := p2) (ds := []) a0) (lay_shaped h) rfl
  rw [eqv_nil] at q
  exact q
theorem neNil {xs : List PyData} {p2 : Pos} (hu : X.A.units + 64 < cLine) (ha : Dv X σ w e (.list xs)) (h : ∀ x ∈ xs, Lay1 x) : Dv X σ w (.Compare e [.NotEq] [.List [] p2] pos) (.bool (!xs.isEmpty)) := by
  have q := neD (pos := pos) hu ha (lstD (pos := p2) (ds := []) a0) (lay_shaped h) rfl
  rw [eqv_nil] at q
  exact q
theorem t_neNil {xs : List PyData} {p2 : Pos} (hu : X.A.units + 64 < cLine) (ha : Dv X σ w e (.list xs)) (h : ∀ x ∈ xs, Lay1 x) : Tv X σ w (.Compare e [.NotEq] [.List [] p2] pos) (!xs.isEmpty) := by
  have q := t_neD (pos := pos) hu ha (lstD (pos := p2) (ds := []) a0) (lay_shaped h) rfl
  rw [eqv_nil] at q
  exact q
theorem lay_int (i : Int) : Lay1 (.int i) := ⟨rfl, Nat.zero_le _⟩
theorem lay_ints : ∀ (t : List Nat), PyData.canLayAll0 (t.map fun (i : Nat) => PyData.int i) = true ∧ PyData.depthAll (t.map fun (i : Nat) => PyData.int i) ≤ 1
  | [] => ⟨rfl, by decide⟩
  | x :: t => by
    obtain ⟨h1, h2⟩ := lay_ints t
    exact ⟨by simp [PyData.canLayAll0, PyData.canLay0, h1], by simp only [List.map_cons, PyData.depthAll, PyData.depth]; omega⟩
theorem lay_row (t : List Nat) : Lay1 (.tuple (t.map fun (i : Nat) => PyData.int i)) := by
  obtain ⟨h1, h2⟩ := lay_ints t
  exact ⟨by simp only [PyData.canLay0]; exact h1, by simp only [PyData.depth]; omega⟩
end
end K27
/-! ## Core22 -/
/-! The calculus, twenty-second part: a dict whose keys are texts. -/
namespace K27
open PySem L2 PySem.Spec PyProof.Rows
section
variable {X : Cx} {e a b : Expr} {es : List Expr} {σ : L2.St} {w w' : Wd} {τ τ' : Ty} {pos p : Pos} {ds : List (Option Ty)} {rest body : List Stmt} {D : Ends} {d : Addr} {kvs : List (Key × V)} {k : Str}
theorem t_kin (hu : X.A.units + 64 < cLine) (ha : Dv X σ w a (.str k)) (ho : Ev X σ w b (ex (.ref d))) (ow : Own w d (.dK kvs)) (hm : behindInMarks .In b = false := by rfl) : Tv X σ w (.Compare a [.In] [b] pos) (valV kvs (.inr k)).isSome := fun w1 g Q q =>
  toT (pt_cmp (pc_din (by omega) uE uE) hm) (ha w1 g _ fun y w2 g2 hy => ho w2 (g.trans g2) _ fun x w3 g3 ex => ⟨d, valV kvs (.inr k), ex, by
    rw [Dp.str_iff hy]
    exact DGet.k (k := .inr k) (ow.grow ((g.trans g2).trans g3)).at_, _, rfl, q w3 (g2.trans g3)⟩)
theorem kget {v : V} (hu : X.A.units + 64 < cLine) (ho : Ev X σ w a (ex (.ref d))) (hb : Dv X σ w b (.str k)) (ow : Own w d (.dK kvs)) (hv : valV kvs (.inr k) = some v) (ht : τ.p v w.G) (hs : NoSl b := by intro _ _; rfl) : Ev X σ w (.Subscript a b pos) τ := fun w1 g Q q =>
  toE (pe_dget (by omega) uE uE hs) (ho w1 g _ fun x w2 g2 ex => hb w2 (g.trans g2) _ fun y w3 g3 hy => ⟨d, v, ex, by
    rw [Dp.str_iff hy, ← hv]
    exact DGet.k (k := .inr k) (ow.grow ((g.trans g2).trans g3)).at_, q v w3 (g2.trans g3) (τ.m ((g.trans g2).trans g3).g ht)⟩)
theorem w_kput {value : Expr} {pos' : Pos} (hu : X.A.units + 64 < cLine) (hv : Ev X σ w value τ) (ho : Ev X σ w a (ex (.ref d))) (hk : Dv X σ w b (.str k)) (ow : Own w d (.dK kvs)) (hz : kvs.length ≤ 1000000)
    (kk : ∀ v w', Grow w w' → τ.p v w'.G → ∀ ow' : Own w' d (.dK kvs), wS X rest D σ (w'.lay d (.dK (putK kvs (.inr k) v)) ow'.free).H)
    (hs : swapsWith value (some (.Subscript a b pos')) pos.line X.env = pure false := by rfl) : wS X (.Assign [.Subscript a b pos'] value pos :: rest) D σ w.H :=
  wS_cons (toS1 (ps_dput (by omega) uE uE uE hs) (hv w (Grow.refl _) _ fun v w2 g2 hv2 => ho w2 g2 _ fun x w3 g3 ex => hk w3 (g2.trans g3) _ fun y w4 g4 hy => by
    have G := (g2.trans g3).trans g4
    refine ⟨d, _, ex, ?_, kk v w4 G (τ.m (g3.trans g4).g hv2) (ow.grow G)⟩
    rw [Dp.str_iff hy]
    exact DPut.k (k := .inr k) (ow.grow G).at_ (small_big hz)))
/-- x, y, z = {}, [], e -/
theorem w_init3 {c : Expr} {x y z : Str} {px py pz pt p1 p2 : Pos} {kt k2 pt2} (i j l : Nat) (hc : X.calm = true) (hN : X.N.Nodup) (S : Sl w.G σ ds) (hu : X.A.units + 64 < cLine) (he : Ev X σ w c τ)
    (kk : ∀ σ' w' d a, Grow w w' → w.H d = none → w.H a = none → d ≠ a → Own w' d (.dK []) → Own w' a (.lst []) → Sl w'.G σ' (((ds.set i (some (ex (.ref d)))).set j (some (ex (.ref a)))).set l (some τ)) → wS X rest D σ' w'.H)
    (hi : X.N[i]? = some x := by rfl) (hj : X.N[j]? = some y := by rfl) (hl : X.N[l]? = some z := by rfl) (hij : i ≠ j := by decide) (hil : i ≠ l := by decide) (hjl : j ≠ l := by decide) (hx : X.env.scope.names.lookup x = some .local := by rfl) (hy : X.env.scope.names.lookup y = some .local := by rfl) (hz : X.env.scope.names.lookup z = some .local := by rfl)
    (hw : swappedStores [.Tuple [.Name x px, .Name y py, .Name z pz] kt pt] (.Tuple [.Dict [] [] p1, .List [] p2, c] k2 pt2) X.env = pure (some [x, y, z]) := by rfl) (hs : swapsWithSole [.Tuple [.Name x px, .Name y py, .Name z pz] kt pt] (.Tuple [.Dict [] [] p1, .List [] p2, c] k2 pt2) pos.line X.env = pure false := by rfl)
    (h1 : starEach [.Dict [] [] p1, .List [] p2, c] X.env = (false, eval (.Dict [] [] p1) X.env) :: starEach [.List [] p2, c] X.env := by rfl) (h2 : starEach [.List [] p2, c] X.env = (false, eval (.List [] p2) X.env) :: starEach [c] X.env := by rfl) (h3 : starEach [c] X.env = (false, eval c X.env) :: starEach [] X.env := by rfl) :
    wS X (.Assign [.Tuple [.Name x px, .Name y py, .Name z pz] kt pt] (.Tuple [.Dict [] [] p1, .List [] p2, c] k2 pt2) pos :: rest) D σ w.H :=
  wS_cons (toS1 (ps_par3 hc hN hi hj hl hij hil hjl hx hy hz (pa_cons pe_dnewK (pa_cons (pe_lst pa_nil) (pa_cons uE pa_nil h3) h2) h1) hw hs) fun dd hd => ⟨Nat.zero_le _, fun a ha => by
    have g1 := Grow.lay (w := w) (o := .dK []) hd
    have g2 := Grow.lay (w := w.lay dd (.dK []) (w.gnone hd)) (o := .lst []) ha
    have ne : dd ≠ a := fun z => by
      subst z
      rw [upd_same] at ha
      cases ha
    exact he _ (g1.trans g2) _ fun v w3 g3 hv => ⟨_, _, _, rfl, kk _ w3 dd a ((g1.trans g2).trans g3) hd (g1.h.free ha) ne (((Own.lay hd).grow g2).grow g3) ((Own.lay ha).grow g3) ((((S.mono ((g1.trans g2).trans g3).g).put (τ := ex (.ref dd)) rfl i).put (τ := ex (.ref a)) rfl j).put hv l)⟩⟩)
end
end K27
/-! ## Rows1 -/
/-! Lists of rows: their order, their text; what all logs of a length do. -/
namespace K27
open PySem L2 PySem.Spec PyProof.Rows
/-! ### the text of a list of rows tells the list -/
def isDg (c : Nat) : Bool := decide (48 ≤ c) && decide (c ≤ 57)
def dg (x : Str) : List Nat := x.cps.toList.filter isDg
theorem dg_app (a b : Str) : dg (a ++ b) = dg a ++ dg b := by
  unfold dg
  rw [Str.cps_append, Array.toList_append, List.filter_append]
theorem dg_join : ∀ ts : List Str, dg (Str.join ", " ts) = ts.flatMap dg
  | [] => by decide +kernel
  | [t] => by
    show dg t = _
    simp
  | t :: u :: ts => by
    have h : Str.join ", " (t :: u :: ts) = t ++ (", " : Str) ++ Str.join ", " (u :: ts) := rfl
    have e : dg (", " : Str) = [] := by decide +kernel
    rw [h, dg_app, dg_app, dg_join (u :: ts), e, List.append_nil]
    rfl
theorem dg_int {x : Nat} (h : x < 4) : dg (PyData.shown (.int (x : Nat))) = [48 + x] := by
  have : x = 0 ∨ x = 1 ∨ x = 2 ∨ x = 3 := by omega
  rcases this with e | e | e | e <;> subst e <;> decide +kernel
theorem dg_ints : ∀ {t : List Nat}, (∀ x ∈ t, x < 4) → (PyData.shownAll (t.map fun (i : Nat) => PyData.int i)).flatMap dg = t.map (48 + ·)
  | [], _ => rfl
  | x :: t, h => by
    rw [List.map_cons, PyData.shownAll_cons, List.flatMap_cons, dg_int (h x List.mem_cons_self), dg_ints fun y hy => h y (List.mem_cons_of_mem _ hy)]
    rfl
theorem dg_row {t : List Nat} (h : ∀ x ∈ t, x < 4) : dg (rowD t).shown = t.map (48 + ·) := by
  unfold rowD
  rw [PyData.shown_tuple, dg_app, dg_app, dg_join, dg_ints h]
  have e1 : dg ("(" : Str) = [] := by decide +kernel
  have e2 : dg ((if (t.map fun (i : Nat) => PyData.int i).length == 1 then ",)" else ")" : String) : Str) = [] := by
    split <;> decide +kernel
  rw [e1, e2, List.nil_append, List.append_nil]
theorem dg_rows : ∀ {l : List (List Nat)}, (∀ t ∈ l, ∀ x ∈ t, x < 4) → (PyData.shownAll (l.map rowD)).flatMap dg = l.flatten.map (48 + ·)
  | [], _ => rfl
  | t :: l, h => by
    rw [List.map_cons, PyData.shownAll_cons, List.flatMap_cons, dg_row (h t List.mem_cons_self), dg_rows fun y hy => h y (List.mem_cons_of_mem _ hy), List.flatten_cons, List.map_append]
theorem dg_list {l : List (List Nat)} (h : ∀ t ∈ l, ∀ x ∈ t, x < 4) : dg (PyData.shown (.list (l.map rowD))) = l.flatten.map (48 + ·) := by
  rw [PyData.shown_list, dg_app, dg_app, dg_join, dg_rows h]
  have e1 : dg ("[" : Str) = [] := by decide +kernel
  have e2 : dg ("]" : Str) = [] := by decide +kernel
  rw [e1, e2, List.nil_append, List.append_nil]
theorem flat_inj {d : Nat} (hd : 1 ≤ d) : ∀ {l m : List (List Nat)}, (∀ t ∈ l, t.length = d) → (∀ t ∈ m, t.length = d) → l.flatten = m.flatten → l = m
  | [], [], _, _, _ => rfl
  | [], u :: m, _, h, e => by
    have h1 := h u List.mem_cons_self
    rw [List.flatten_nil, List.flatten_cons] at e
    have h2 := congrArg List.length e
    rw [List.length_append, List.length_nil] at h2
    omega
  | t :: l, [], h, _, e => by
    have h1 := h t List.mem_cons_self
    rw [List.flatten_nil, List.flatten_cons] at e
    have h2 := congrArg List.length e
    rw [List.length_append, List.length_nil] at h2
    omega
  | t :: l, u :: m, h, h', e => by
    rw [List.flatten_cons, List.flatten_cons] at e
    obtain ⟨e1, e2⟩ := List.append_inj e ((h t List.mem_cons_self).trans (h' u List.mem_cons_self).symm)
    rw [e1, flat_inj hd (fun x hx => h x (List.mem_cons_of_mem _ hx)) (fun x hx => h' x (List.mem_cons_of_mem _ hx)) e2]
/-- rows of d numbers below four -/
def RowsOk (d : Nat) (l : List (List Nat)) : Prop := ∀ t ∈ l, t.length = d ∧ ∀ x ∈ t, x < 4
theorem text_inj {d : Nat} (hd : 1 ≤ d) {l m : List (List Nat)} (hl : RowsOk d l) (hm : RowsOk d m) (e : PyData.shown (.list (l.map rowD)) = PyData.shown (.list (m.map rowD))) : l = m := by
  have h := congrArg dg e
  rw [dg_list fun t ht => (hl t ht).2, dg_list fun t ht => (hm t ht).2] at h
  refine flat_inj hd (fun t ht => (hl t ht).1) (fun t ht => (hm t ht).1) ?_
  exact (List.map_inj_right (fun {a b} h => by omega)).mp h
/-! ### it may be shown -/
theorem int_shw {x : Nat} (h : x < 4) : PyData.leavesShort 8 (.int (x : Nat)) = true ∧ PyData.weight (.int (x : Nat)) ≤ 2 ∧ PyData.showable (.int (x : Nat)) = true := by
  have : x = 0 ∨ x = 1 ∨ x = 2 ∨ x = 3 := by omega
  rcases this with e | e | e | e <;> subst e <;> decide +kernel
theorem ints_shw : ∀ {t : List Nat}, (∀ x ∈ t, x < 4) → PyData.leavesShortAll 8 (t.map fun (i : Nat) => PyData.int i) = true ∧ PyData.weightAll (t.map fun (i : Nat) => PyData.int i) ≤ 3 * t.length ∧ PyData.showableAll (t.map fun (i : Nat) => PyData.int i) = true ∧ PyData.hasDictAll (t.map fun (i : Nat) => PyData.int i) = false ∧ PyData.depthAll (t.map fun (i : Nat) => PyData.int i) ≤ 1
  | [], _ => ⟨rfl, Nat.le_refl _, rfl, rfl, Nat.zero_le _⟩
  | x :: t, h => by
    obtain ⟨a1, a2, a3⟩ := int_shw (h x List.mem_cons_self)
    obtain ⟨b1, b2, b3, b4, b5⟩ := ints_shw fun y hy => h y (List.mem_cons_of_mem _ hy)
    refine ⟨?_, ?_, ?_, ?_, ?_⟩
    · simp [PyData.leavesShortAll, a1, b1]
    · simp only [List.map_cons, PyData.weightAll, List.length_cons]; omega
    · simp [PyData.showableAll, a3, b3]
    · simp [PyData.hasDictAll, PyData.hasDict, b4]
    · simp only [List.map_cons, PyData.depthAll, PyData.depth]; omega
theorem rows_shw : ∀ {l : List (List Nat)}, RowsOk 4 l ∨ (∃ d, d ≤ 4 ∧ RowsOk d l) → PyData.leavesShortAll 8 (l.map rowD) = true ∧ PyData.weightAll (l.map rowD) ≤ 13 * l.length ∧ PyData.showableAll (l.map rowD) = true ∧ PyData.hasDictAll (l.map rowD) = false ∧ PyData.depthAll (l.map rowD) ≤ 2
  | [], _ => ⟨rfl, Nat.le_refl _, rfl, rfl, Nat.zero_le _⟩
  | t :: l, h => by
    obtain ⟨d, hd, h⟩ : ∃ d, d ≤ 4 ∧ RowsOk d (t :: l) := h.elim (fun h => ⟨4, Nat.le_refl _, h⟩) id
    obtain ⟨h1, h2⟩ := h t List.mem_cons_self
    obtain ⟨a1, a2, a3, a4, a5⟩ := ints_shw h2
    obtain ⟨b1, b2, b3, b4, b5⟩ := rows_shw (l := l) (.inr ⟨d, hd, fun y hy => h y (List.mem_cons_of_mem _ hy)⟩)
    refine ⟨?_, ?_, ?_, ?_, ?_⟩
    · simp [PyData.leavesShortAll, PyData.leavesShort, rowD, a1, b1]
    · simp only [List.map_cons, PyData.weightAll, List.length_cons, rowD, PyData.weight] at b2 ⊢; omega
    · simp [PyData.showableAll, PyData.showable, rowD, a3, b3]
    · simp [PyData.hasDictAll, PyData.hasDict, rowD, a4, b4]
    · simp only [List.map_cons, PyData.depthAll, PyData.depth, rowD] at b5 ⊢; omega
theorem rows_shown {l : List (List Nat)} {d : Nat} (hd : d ≤ 4) (h : RowsOk d l) (hl : l.length ≤ 1000) : Shw (.list (l.map rowD)) := by
  obtain ⟨a1, a2, a3, a4, a5⟩ := rows_shw (.inr ⟨d, hd, h⟩)
  refine ⟨by simp only [PyData.showable]; exact a3, by simp only [PyData.hasDict]; exact a4, by simp only [PyData.depth]; omega, ?_⟩
  refine PyData.shown_fits (B := 8) (by decide) (by decide) (by simp only [PyData.leavesShort]; exact a1) ?_
  simp only [PyData.weight]
  omega
/-! ### their order -/
theorem rk_inj : ∀ {a b : List Nat}, a.length = b.length → (∀ x ∈ a, x < 4) → (∀ x ∈ b, x < 4) → rk a = rk b → a = b
  | [], [], _, _, _, _ => rfl
  | [], _ :: _, h, _, _, _ => by cases h
  | _ :: _, [], h, _, _, _ => by cases h
  | x :: a, y :: b, hl, ha, hb, e => by
    have hl' : a.length = b.length := by simpa using hl
    have la : (iN a).length = (iN b).length := by unfold iN; rw [List.length_map, List.length_map, hl']
    have ba : TS.Bd 4 (iN a) := bd_iN fun z hz => ha z (List.mem_cons_of_mem _ hz)
    have bb : TS.Bd 4 (iN b) := bd_iN fun z hz => hb z (List.mem_cons_of_mem _ hz)
    have e : TS.code 4 ((x : Int) :: iN a) = TS.code 4 ((y : Int) :: iN b) := e
    rcases Nat.lt_trichotomy x y with h | h | h
    · have := TS.code_lt (d := (x : Int)) (e := (y : Int)) la ba bb (by omega)
      omega
    · subst h
      have e2 : rk a = rk b := by
        have e : (x : Int) * 4 ^ (iN a).length + TS.code 4 (iN a) = (x : Int) * 4 ^ (iN b).length + TS.code 4 (iN b) := e
        rw [la] at e
        unfold rk
        omega
      rw [rk_inj hl' (fun z hz => ha z (List.mem_cons_of_mem _ hz)) (fun z hz => hb z (List.mem_cons_of_mem _ hz)) e2]
    · have := TS.code_lt (d := (y : Int)) (e := (x : Int)) la.symm bb ba (by omega)
      omega
def srt (l : List (List Nat)) : List (List Nat) := l.mergeSort fun a b => decide (rk a ≤ rk b)
theorem srt_perm (l : List (List Nat)) : (srt l).Perm l := List.mergeSort_perm l _
theorem srt_sorted (l : List (List Nat)) : (srt l).Pairwise fun a b => rk a ≤ rk b := by
  have h := List.pairwise_mergeSort (le := fun a b => decide (rk a ≤ rk b)) (fun a b c h1 h2 => by simp at *; omega) (fun a b => by simp; omega) l
  exact h.imp fun h => by simpa using h
theorem srt_uniq {d : Nat} {l out : List (List Nat)} (h : RowsOk d l) (p : out.Perm l) (s : out.Pairwise fun a b => rk a ≤ rk b) : out = srt l := by
  refine sorted_unique (f := rk) (fun x hx y hy e => ?_) (p.trans (srt_perm l).symm) s (srt_sorted l)
  obtain ⟨a1, a2⟩ := h x (p.mem_iff.mp hx)
  obtain ⟨b1, b2⟩ := h y (p.mem_iff.mp hy)
  exact rk_inj (a1.trans b1.symm) a2 b2 e
end K27
/-! ## Law3 -/
/-! The law's defs: what is told of the lengths that part. -/
namespace K27
open PySem L2 PySem.Spec PyProof.Rows
/-- what is told: by length whether it parts, where the round begins, its length -/
structure Told where
  ps : List Bool
  fi : Nat
  tu : Nat
structure TdOk (t : Told) : Prop where
  len : t.ps.length = t.fi + t.tu
  t1 : 1 ≤ t.tu
  sz : t.fi + t.tu ≤ 39
def bolsD (ps : List Bool) : List PyData := ps.map .bool
def toldD (t : Told) : PyData := .tuple [.list (bolsD t.ps), .int (t.fi : Nat), .int (t.tu : Nat)]
def atB (t : Told) (L : Nat) : Bool := if L < t.ps.length then t.ps.getD L false else t.ps.getD (t.fi + (L - t.fi) % t.tu) false
def lastB (t : Told) (m : Nat) : Option Nat → Nat
  | none => t.fi + m * t.tu
  | some b => b - 1
def enB (t : Told) (m : Nat) (bo : Option Nat) : Bool := (List.range (lastB t m bo / m)).all fun i => !atB t ((i + 1) * m)
def ptB (f : List Nat) (s : Nat) : Bool := !decide (f.getD s 0 = s) && decide (s ∈ f)
section
variable {P : Program} {w : World} {K : PySem.W.Frag} {mg : Str → Option Value} {base : Heap}
abbrev CLparts (P : Program) (w : World) (K : PySem.W.Frag) (mg : Str → Option Value) (base : Heap) : Prop := Cal P w K mg base 1 "_law_parts" p_lparts (spOf (fun i : List Nat × Nat => i.2 < i.1.length) (fun i => [dat K (rowD i.1), dat K (.int (i.2 : Nat))]) (fun i => dat K (.bool (ptB i.1 i.2))))
theorem c_lparts (D : DefAt K mg "_law_parts" s_law_parts p_lparts) : CLparts P w K mg base :=
  def_ok (N := n_lparts) D sc_lparts (fun _ => rfl) fun f cdv A outer s H E i w0 Q σ hr hp S q => by
    obtain ⟨l, st⟩ := i
    have hs : st < l.length := hp
    show wS _ (_ :: _) _ _ _
    have el : ((st : Int) ∈ (l.map fun (x : Nat) => (x : Int))) ↔ st ∈ l := by
      rw [List.mem_map]
      exact ⟨fun ⟨x, h1, h2⟩ => by have : x = st := by omega
                                   rw [← this]; exact h1, fun h => ⟨st, h, rfl⟩⟩
    refine w_ret (eqE ?_ (vand (neI (i := ((l.getD st 0 : Nat) : Int)) (ixTD (nm 0 S) (nm 1 S) (row_at (row_get rfl hs))) (nm 1 S)) fun _ => v1 (inT (ns := l.map fun (x : Nat) => (x : Int)) (nm 1 S) (eqTu (by rw [List.map_map, List.map_map]; rfl) (asT (xs := l.map fun (i : Nat) => PyData.int i) (nm 0 S)))))) q
    show PyData.bool _ = PyData.bool (ptB l st)
    unfold ptB
    rw [decide_eq_decide.mpr el]
    congr 3
    exact decide_eq_decide.mpr ⟨fun h => by omega, fun h => by omega⟩
abbrev CLat (P : Program) (w : World) (K : PySem.W.Frag) (mg : Str → Option Value) (base : Heap) : Prop := Cal P w K mg base 1 "_law_at" p_lat (spOf (fun i : Told × Nat => TdOk i.1 ∧ i.2 ≤ 1000000) (fun i => [dat K (toldD i.1), dat K (.int (i.2 : Nat))]) (fun i => dat K (.bool (atB i.1 i.2))))
theorem c_lat (B : Bu mg) (D : DefAt K mg "_law_at" s_law_at p_lat) : CLat P w K mg base :=
  def_ok (N := n_lat) D sc_lat (fun _ => rfl) fun f cdv A outer s H E i w0 Q σ hr hp S q => by
    obtain ⟨t, L⟩ := i
    have ht : TdOk t := hp.1
    have hL : L ≤ 1000000 := hp.2
    have t1 := ht.t1
    have tl := ht.len
    have bl : (bolsD t.ps).length = t.ps.length := List.length_map _
    have at_ : ∀ j, j < t.ps.length → (bolsD t.ps)[j]? = some (.bool (t.ps.getD j false)) := fun j hj => by
      unfold bolsD
      rw [List.getElem?_map, List.getD_eq_getElem?_getD, List.getElem?_eq_getElem hj]
      rfl
    show wS _ (_ :: _) _ _ _
    refine w_unp3 (τ1 := dat K (.list (bolsD t.ps))) (τ2 := dat K (.int (t.fi : Nat))) (τ3 := dat K (.int (t.tu : Nat))) 2 3 4 rfl sc_lat.nd S (asT (xs := [.list (bolsD t.ps), .int (t.fi : Nat), .int (t.tu : Nat)]) (nm 0 S)) fun σ1 w1 g1 S1 => ?_
    have go : ∀ c, (L < t.ps.length ↔ c = true) → ∀ {e a b : Expr} {pos : Pos}, Tv (BX P w K mg base n_lat "_law_at" s_law_at f cdv A outer s H E) σ1 w1 e c → (c = true → Dv (BX P w K mg base n_lat "_law_at" s_law_at f cdv A outer s H E) σ1 w1 a (.bool (atB t L))) → (c = false → Dv (BX P w K mg base n_lat "_law_at" s_law_at f cdv A outer s H E) σ1 w1 b (.bool (atB t L))) →
        Dv (BX P w K mg base n_lat "_law_at" s_law_at f cdv A outer s H E) σ1 w1 (.IfExp e a b pos) (.bool (atB t L)) := fun c hc e a b pos h1 h2 h3 => by
      cases c with
      | true => exact ifT h1 (h2 rfl)
      | false => exact ifF h1 (h3 rfl)
    refine w_ret (go (decide (L < t.ps.length)) decide_eq_true_iff.symm (eqT (by rw [bl]; exact decide_eq_decide.mpr (by omega)) (t_lt (i := (L : Int)) (j := (((bolsD t.ps).length : Nat) : Int)) (nm 1 S1) (lenLD (xs := bolsD t.ps) B.len_ (nm 2 S1)))) (fun hc => ?_) (fun hc => ?_)) fun v w' g h => q v w' (g1.trans g) h
    · have hc := of_decide_eq_true hc
      exact eqE (by unfold atB; rw [if_pos hc]) (ixLD (xs := bolsD t.ps) (nm 2 S1) (nm 1 S1) (atI_nat (at_ L hc)))
    · have hc := of_decide_eq_false hc
      have hm : (L - t.fi) % t.tu < t.tu := Nat.mod_lt _ t1
      refine eqE (by unfold atB; rw [if_neg hc]) (ixLD (xs := bolsD t.ps) (i := ((t.fi + (L - t.fi) % t.tu : Nat) : Int)) (nm 2 S1) (eqE ?_ (add (nm 3 S1) (imod (i := (L : Int) - (t.fi : Int)) (j := ((t.tu : Nat) : Int)) (int_ B.int_ (sub (nm 1 S1) (nm 3 S1))) (nm 4 S1) (by omega)))) (atI_nat (at_ _ (by omega))))
      have e1 : (L : Int) - (t.fi : Int) = ((L - t.fi : Nat) : Int) := by omega
      rw [e1, ← Int.natCast_emod, ← Int.natCast_add]
structure LeOk (i : Told × Nat × Option Nat) : Prop where
  t : TdOk i.1
  m1 : 1 ≤ i.2.1
  m2 : i.2.1 ≤ 1000
  b : ∀ b, i.2.2 = some b → 1 ≤ b ∧ b ≤ 1000
theorem lastB_le {t : Told} {m : Nat} {bo : Option Nat} (h : LeOk (t, m, bo)) : lastB t m bo ≤ 40000 := by
  have h1 : t.fi + t.tu ≤ 39 := h.t.sz
  have h2 : m ≤ 1000 := h.m2
  have h3 : m * t.tu ≤ 1000 * 39 := Nat.mul_le_mul h2 (by omega)
  cases bo with
  | none => show t.fi + m * t.tu ≤ 40000; omega
  | some b => have := (h.b b rfl).2; show b - 1 ≤ 40000; omega
abbrev CLenough (P : Program) (w : World) (K : PySem.W.Frag) (mg : Str → Option Value) (base : Heap) : Prop := Cal P w K mg base 2 "_law_is_enough" p_lenough (spOf LeOk (fun i => [dat K (toldD i.1), dat K (.int (i.2.1 : Nat)), dat K (boundD i.2.2)]) (fun i => dat K (.bool (enB i.1 i.2.1 i.2.2))))
theorem filter_empty {α : Type} (l : List α) (b : α → Bool) : (l.filter b).isEmpty = l.all fun x => !b x := by
  induction l with
  | nil => rfl
  | cons x l ih =>
    rw [List.filter_cons, List.all_cons]
    cases b x with
    | true => rfl
    | false => simpa using ih
theorem c_lenough (B : Bu mg) (D : DefAt K mg "_law_is_enough" s_law_is_enough p_lenough) (CA : CLat P w K mg base) : CLenough P w K mg base :=
  def_ok (N := n_lenough) D sc_lenough (fun _ => rfl) fun f cdv A outer s H E i w0 Q σ hr hp S q => by
    obtain ⟨t, m, bo⟩ := i
    have hp : LeOk (t, m, bo) := hp
    have ht : TdOk t := hp.t
    have t1 := ht.t1
    have m1 : 1 ≤ m := hp.m1
    have m2 : m ≤ 1000 := hp.m2
    have lz := lastB_le hp
    have hu : (A.deeper (envOfC "_law_is_enough" (defScope s_law_is_enough) s.heap.objs.size f cdv)).units + 64 < cLine := hr.units
    show wS _ (_ :: _) _ _ _
    refine w_unp3 (τ1 := dat K (.list (bolsD t.ps))) (τ2 := dat K (.int (t.fi : Nat))) (τ3 := dat K (.int (t.tu : Nat))) 3 4 5 rfl sc_lenough.nd S (asT (xs := [.list (bolsD t.ps), .int (t.fi : Nat), .int (t.tu : Nat)]) (nm 0 S)) fun σ1 w1 g1 S1 => ?_
    have tb : t.tu < 1000 := by have := ht.sz; omega
    have hl : ∀ {e a b : Expr} {pos p2 : Pos} {j : Nat}, True → True := fun h => h
    refine w_set (τ := dat K (.int (lastB t m bo : Nat))) 6 sc_lenough.nd S1 ?_ fun σ2 w2 g2 S2 => ?_
    · cases bo with
      | none => exact eqE (by show PyData.int ((t.fi : Int) + (m : Int) * (t.tu : Int)) = .int ((t.fi + m * t.tu : Nat) : Int); rw [Int.natCast_add, Int.natCast_mul]) (ifT (t_isN (nm 2 S1) isn_none) (add (nm 4 S1) (mul (nm 1 S1) (nm 5 S1) (.inr ⟨by omega, by omega⟩))))
      | some b =>
        have hb := hp.b b rfl
        exact eqE (by show PyData.int ((b : Int) - 1) = .int ((b - 1 : Nat) : Int); congr 1; omega) (ifF (t_isN (nm 2 S1) (isn_dat (by intro h; cases h))) (sub (nm 2 S1) ci))
    have S2 : Sl w2.G σ2 [some (dat K (toldD t)), some (dat K (.int (m : Nat))), some (dat K (boundD bo)), some (dat K (.list (bolsD t.ps))), some (dat K (.int (t.fi : Nat))), some (dat K (.int (t.tu : Nat))), some (dat K (.int (lastB t m bo : Nat))), none] := S2
    have rg : RgC (m : Int) ((lastB t m bo : Nat) + 1 : Int) (m : Int) (lastB t m bo / m) := by
      have q := rgc_pos (m := m) (l := lastB t m bo + 1) (c := m) (k := lastB t m bo / m) m1 (by omega) (by omega) (by omega) (by
        by_cases h : m < lastB t m bo + 1
        · rw [if_pos h]
          have : lastB t m bo + 1 - m - 1 = lastB t m bo - m := by omega
          rw [this]
          exact Nat.div_eq_sub_div m1 (by omega)
        · rw [if_neg h]
          exact Nat.div_eq_of_lt (by omega))
      rw [Int.natCast_add] at q
      exact q
    have cz : lastB t m bo / m ≤ 40000 := Nat.le_trans (Nat.div_le_self _ _) lz
    have ek : ∀ i : Nat, (m : Int) + (i : Nat) * (m : Int) = (((i + 1) * m : Nat) : Int) := fun i => by
      rw [Nat.succ_mul, Int.natCast_add, Int.natCast_mul]
      omega
    refine w_ret (eqE ?_ (eqNil (xs := ((List.range (lastB t m bo / m)).filter fun i => atB t ((i + 1) * m)).map fun (i : Nat) => PyData.int (((i + 1) * m : Nat) : Int)) hu (ofL (eqL (by rw [List.map_map]; rfl) (lcifM (xs := List.range (lastB t m bo / m)) (κ := fun (i : Nat) => dat K (.int (((i + 1) * m : Nat) : Int))) [("_law_length", 7)] 7 (fun i => atB t ((i + 1) * m)) (fun i => dat K (.int (((i + 1) * m : Nat) : Int))) rfl sc_lenough.nd S2
      (eqI_ (by unfold rngT; exact List.map_congr_left fun i _ => by rw [ek]; rfl) (iv_rng3 B.range_ (nm 1 S2) (add (nm 6 S2) ci) (nm 1 S2) rg)) (by rw [List.length_range]; omega)
      (fun i y σ3 w3 hy g3 S3 s0 H0 C cl fp => t_val (call_c CA (hr.mono (by decide)) (t, (y + 1) * m) ⟨ht, ?_⟩ (ac (nm 0 S3) (ac (nm 7 S3) a0))))
      (fun i y σ3 w3 hy hb g3 S3 s0 H0 C cl fp => nm 7 S3)))) (fun x hx => ?_))) fun v w' g h => q v w' ((g1.trans g2).trans g) h
    · show PyData.bool _ = .bool (enB t m bo)
      rw [List.isEmpty_map, filter_empty]
      rfl
    · have h1 := (List.getElem?_eq_some_iff.mp hy).2
      have h2 := (List.getElem?_eq_some_iff.mp hy).1
      rw [List.length_range] at h2
      rw [List.getElem_range] at h1
      have h3 : (y + 1) * m ≤ 40000 * 1000 := Nat.mul_le_mul (by omega) m2
      have h4 : (y + 1) * m ≤ lastB t m bo := by
        have := Nat.div_mul_le_self (lastB t m bo) m
        have h5 : (y + 1) * m ≤ lastB t m bo / m * m := Nat.mul_le_mul_right m (by omega)
        omega
      show (y + 1) * m ≤ 1000000
      omega
    · obtain ⟨i, _, e⟩ := List.mem_map.mp hx
      rw [← e]
      exact lay_int _
structure LlOk (i : Told × Option Nat × Option Nat) : Prop where
  t : TdOk i.1
  b : ∀ b, i.2.1 = some b → 1 ≤ b ∧ b ≤ 1000
  none_ : i.2.2 = none → i.2.1 = none ∧ atB i.1 (i.1.tu * (i.1.fi + 1)) = true
  some_ : ∀ r, i.2.2 = some r → (1 ≤ r ∧ r ≤ 400) ∧ (i.2.1 = none → atB i.1 (i.1.tu * (i.1.fi + 1)) = false) ∧ enB i.1 r i.2.1 = true ∧ ∀ j, 1 ≤ j → j < r → enB i.1 j i.2.1 = false
abbrev CLleast (P : Program) (w : World) (K : PySem.W.Frag) (mg : Str → Option Value) (base : Heap) : Prop := Cal P w K mg base 3 "_law_least" p_lleast (spOf LlOk (fun i => [dat K (toldD i.1), dat K (boundD i.2.1)]) (fun i => dat K (optD i.2.2)))
theorem c_lleast (B : Bu mg) (D : DefAt K mg "_law_least" s_law_least p_lleast) (CA : CLat P w K mg base) (CE : CLenough P w K mg base) : CLleast P w K mg base :=
  def_ok (N := n_lleast) D sc_lleast (fun _ => rfl) fun f cdv A outer s H E i w0 Q σ hr hp S q => by
    obtain ⟨t, bo, r⟩ := i
    have hp : LlOk (t, bo, r) := hp
    have ht : TdOk t := hp.t
    have t1 := ht.t1
    have sz := ht.sz
    have q : ∀ v w', Grow w0 w' → (dat K (optD r)).p v w'.G → Q v w'.H := q
    show wS _ (_ :: _) _ _ _
    refine w_unp3 (τ1 := dat K (.list (bolsD t.ps))) (τ2 := dat K (.int (t.fi : Nat))) (τ3 := dat K (.int (t.tu : Nat))) 2 3 4 rfl sc_lleast.nd S (asT (xs := [.list (bolsD t.ps), .int (t.fi : Nat), .int (t.tu : Nat)]) (nm 0 S)) fun σ1 w1 g1 S1 => ?_
    have S1 : Sl w1.G σ1 [some (dat K (toldD t)), some (dat K (boundD bo)), some (dat K (.list (bolsD t.ps))), some (dat K (.int (t.fi : Nat))), some (dat K (.int (t.tu : Nat))), none, none] := S1
    have go : ∀ m, r = some m → ∀ w3, Grow w0 w3 → Sl w3.G σ1 [some (dat K (toldD t)), some (dat K (boundD bo)), some (dat K (.list (bolsD t.ps))), some (dat K (.int (t.fi : Nat))), some (dat K (.int (t.tu : Nat))), none, none] →
        wS (BX P w K mg base n_lleast "_law_least" s_law_least f cdv A outer s H E) ((defBody s_law_least).drop 2) { nx := fun _ H' => Q .non H', rt := Q } σ1 w3.H := by
      intro m em w3 g3 S3
      obtain ⟨⟨m1, m4⟩, _, hen, hno⟩ := hp.some_ m em
      have hen : enB t m bo = true := hen
      have hno : ∀ j, 1 ≤ j → j < m → enB t j bo = false := hno
      have m4 : m ≤ 400 := m4
      have m1 : 1 ≤ m := m1
      show wS _ (_ :: _) _ _ _
      refine w_set (τ := dat K (.int (1 : Nat))) 5 sc_lleast.nd S3 ci fun σ4 w4 g4 S4 => ?_
      refine w_forM (D := { nx := fun _ H' => Q .non H', rt := Q }) (xs := List.range 400) (κ := fun (x : Nat) => dat K (.int (x : Nat))) 6 rfl PassesOwn.never sc_lleast.nd (ivR (n := 400) B.range_ ci (by decide))
        (fun i σ w' => i < m ∧ Grow w0 w' ∧ Sl w'.G σ [some (dat K (toldD t)), some (dat K (boundD bo)), some (dat K (.list (bolsD t.ps))), some (dat K (.int (t.fi : Nat))), some (dat K (.int (t.tu : Nat))), some (dat K (.int ((i + 1 : Nat) : Nat))), none])
        (fun w' g => ⟨m1, (g3.trans g4).trans g, S4.mono g.g⟩) (fun i x σ' w5 w6 v hx hI g6 hv => ?_) (fun σ' w' hI => ?_)
      · obtain ⟨him, gI, SI⟩ := hI
        have S6 := (SI.mono g6.g).put hv 6
        refine w_when (b := enB t (i + 1) bo) (t_val (call_c CE (hr.mono (by decide)) (t, i + 1, bo) ⟨ht, by show 1 ≤ i + 1; omega, by show i + 1 ≤ 1000; omega, hp.b⟩ (ac (nm 0 S6) (ac (nm 5 S6) (ac (nm 1 S6) a0))))) (fun hb w7 g7 => ?_) (fun hb w7 g7 => ?_)
        · have e : i + 1 = m := by
            rcases Nat.lt_or_ge (i + 1) m with h | h
            · rw [hno (i + 1) (by omega) h] at hb
              cases hb
            · omega
          have S7 := S6.mono g7.g
          refine w_brk ?_
          show wS _ _ _ _ _
          refine w_ret (nm 5 S7) fun v8 w8 g8 hv8 => q v8 w8 (((gI.trans g6).trans g7).trans g8) ?_
          rw [em]
          rw [← e]
          exact hv8
        · have h : i + 1 < m := by
            rcases Nat.lt_or_ge (i + 1) m with h | h
            · exact h
            · have e : i + 1 = m := by omega
              rw [e, hen] at hb
              cases hb
          have S7 := S6.mono g7.g
          refine w_set (τ := dat K (.int ((i + 1 + 1 : Nat) : Nat))) 5 sc_lleast.nd S7 (eqE (d := .int (((i + 1 : Nat) : Int) + 1)) rfl (add (i := ((i + 1 : Nat) : Int)) (j := 1) (nm 5 S7) ci)) fun σ8 w8 g8 S8 => wS_nil ⟨w8, rfl, g7.g.trans g8.g, h, ((gI.trans g6).trans g7).trans g8, S8.forget 6⟩
      · have := hI.1
        rw [List.length_range] at this
        omega
    have hN : t.tu * (t.fi + 1) ≤ 1000000 := by
      have := Nat.mul_le_mul (show t.tu ≤ 39 by omega) (show t.fi + 1 ≤ 40 by omega)
      omega
    cases bo with
    | some b =>
      obtain ⟨m, em⟩ : ∃ m, r = some m := by
        cases r with
        | some m => exact ⟨m, rfl⟩
        | none => exact nomatch (hp.none_ rfl).1
      exact w_if (b := false) (ww (andF (t_isN (nm 1 S1) (isn_dat (by intro h; cases h))))) (fun h => nomatch h) (fun _ w3 g3 => wS_nil (go m em w3 (g1.trans g3) (S1.mono g3.g)))
    | none =>
      refine w_if (b := atB t (t.tu * (t.fi + 1))) (ww (andT (t_isN (nm 1 S1) isn_none) (and1 (t_val (call_c CA (hr.mono (by decide)) (t, t.tu * (t.fi + 1)) ⟨ht, hN⟩ (ac (nm 0 S1) (ac (eqE ?_ (mul (j := (t.fi : Int) + 1) (nm 4 S1) (add (nm 3 S1) ci) (.inl ⟨by omega, by omega⟩))) a0))))))) (fun ha w3 g3 => ?_) (fun ha w3 g3 => wS_nil ?_)
      · show PyData.int ((t.tu : Int) * ((t.fi : Int) + 1)) = .int ((t.tu * (t.fi + 1) : Nat) : Int)
        rw [Int.natCast_mul, Int.natCast_add]
        rfl
      · cases r with
        | none => exact w_ret cn fun v w4 g4 hv => q v w4 ((g1.trans g3).trans g4) hv
        | some m =>
          have h := (hp.some_ m rfl).2.1 rfl
          have h : atB t (t.tu * (t.fi + 1)) = false := h
          rw [h] at ha
          cases ha
      · cases r with
        | none =>
          have h : atB t (t.tu * (t.fi + 1)) = true := (hp.none_ rfl).2
          rw [h] at ha
          cases ha
        | some m => exact go m rfl w3 (g1.trans g3) (S1.mono g3.g)
end
end K27
/-! ## Rows2 -/
/-! What all logs of a length do; what is told of it is true. -/
namespace K27
open PySem L2 PySem.Spec PyProof.Rows
def nxT (T : Tb) (f : List Nat) : List (List Nat) := T.map fun t => f.map fun s => t.getD s 0
def nxR (T : Tb) (l : List (List Nat)) : List (List Nat) := l.flatMap (nxT T)
def hereR (T : Tb) (n : Nat) : Nat → List (List Nat)
  | 0 => [List.range n]
  | L + 1 => dd (nxR T (hereR T n L))
theorem mem_nxR {T : Tb} {l : List (List Nat)} {y : List Nat} : y ∈ nxR T l ↔ ∃ f ∈ l, ∃ d, d < T.length ∧ y = f.map fun s => stp T s d := by
  unfold nxR nxT
  rw [List.mem_flatMap]
  constructor
  · rintro ⟨f, hf, hy⟩
    obtain ⟨t, ht, e⟩ := List.mem_map.mp hy
    obtain ⟨d, hd, ed⟩ := List.mem_iff_getElem.mp ht
    refine ⟨f, hf, d, hd, ?_⟩
    rw [← e]
    refine List.map_congr_left fun s _ => ?_
    unfold stp
    rw [List.getD_eq_getElem?_getD (l := T), List.getElem?_eq_getElem hd, ed]
    rfl
  · rintro ⟨f, hf, d, hd, e⟩
    refine ⟨f, hf, List.mem_map.mpr ⟨T[d], List.getElem_mem hd, ?_⟩⟩
    rw [e]
    refine List.map_congr_left fun s _ => ?_
    unfold stp
    rw [List.getD_eq_getElem?_getD (l := T), List.getElem?_eq_getElem hd]
    rfl
def dnR (T : Tb) (n : Nat) (w : List Nat) : List Nat := (List.range n).map fun s => run T s w
theorem mem_hereR {T : Tb} {n : Nat} : ∀ (L : Nat) (f : List Nat), f ∈ hereR T n L ↔ ∃ w, Log T w ∧ w.length = L ∧ f = dnR T n w
  | 0, f => by
    show f ∈ [List.range n] ↔ _
    rw [List.mem_singleton]
    have e0 : dnR T n [] = List.range n := by
      unfold dnR
      simp [run_nil]
    constructor
    · intro e
      exact ⟨[], fun d hd => (nomatch hd), rfl, e.trans e0.symm⟩
    · rintro ⟨w, _, hw, e⟩
      have hw' : w = [] := List.length_eq_zero_iff.mp hw
      subst hw'
      exact e.trans e0
  | L + 1, f => by
    have ih := mem_hereR (T := T) (n := n) L
    show f ∈ dd (nxR T (hereR T n L)) ↔ _
    rw [mem_dd, mem_nxR]
    have es : ∀ u d, (dnR T n u).map (fun s => stp T s d) = dnR T n (u ++ [d]) := fun u d => by
      unfold dnR
      rw [List.map_map]
      exact List.map_congr_left fun s _ => (run_snoc T s d u).symm
    constructor
    · rintro ⟨g, hg, d, hd, e⟩
      obtain ⟨w, hw, hl, eg⟩ := (ih g).mp hg
      refine ⟨w ++ [d], hw.snoc hd, by rw [List.length_append, hl]; rfl, ?_⟩
      rw [e, eg, es]
    · rintro ⟨w, hw, hl, e⟩
      have hne : w ≠ [] := by
        intro z
        rw [z] at hl
        simp at hl
      obtain ⟨u, d, eu⟩ : ∃ u d, w = u ++ [d] := ⟨w.dropLast, w.getLast hne, (List.dropLast_concat_getLast hne).symm⟩
      subst eu
      refine ⟨dnR T n u, (ih _).mpr ⟨u, hw.left, by simpa using hl, rfl⟩, d, hw d (by simp), ?_⟩
      rw [e, es]
theorem dnR_ok {T : Tb} {n : Nat} (M : MOk T n) {w : List Nat} (hw : Log T w) : (dnR T n w).length = n ∧ ∀ x ∈ dnR T n w, x < n := by
  unfold dnR
  refine ⟨by simp, fun x hx => ?_⟩
  obtain ⟨s, hs, e⟩ := List.mem_map.mp hx
  rw [← e]
  exact M.run_lt (List.mem_range.mp hs) hw
theorem hereR_ok {T : Tb} {n : Nat} (M : MOk T n) (L : Nat) : RowsOk n (hereR T n L) := fun f hf => by
  obtain ⟨w, hw, _, e⟩ := (mem_hereR L f).mp hf
  obtain ⟨h1, h2⟩ := dnR_ok M hw
  rw [e]
  exact ⟨h1, fun x hx => Nat.lt_of_lt_of_le (h2 x hx) M.n4⟩
theorem hereR_lt {T : Tb} {n : Nat} (M : MOk T n) (L : Nat) {f : List Nat} (hf : f ∈ hereR T n L) : f.length = n ∧ ∀ x ∈ f, x < n := by
  obtain ⟨w, hw, _, e⟩ := (mem_hereR L f).mp hf
  rw [e]
  exact dnR_ok M hw
theorem nxR_len (T : Tb) (l : List (List Nat)) : (nxR T l).length = l.length * T.length := by
  unfold nxR nxT
  rw [List.length_flatMap]
  induction l with
  | nil => simp
  | cons x l ih =>
    simp only [List.map_cons, List.sum_cons, List.length_cons, List.length_map] at ih ⊢
    rw [ih, Nat.succ_mul]
    omega
/-- a log of this length parts one of these -/
def PS (T : Tb) (n : Nat) (S : List Nat) (L : Nat) : Prop := ∃ p ∈ S, Parts T n p L
def partB (T : Tb) (n : Nat) (S : List Nat) (L : Nat) : Bool := !((hereR T n L).filter fun f => !(S.filter fun p => ptB f p).isEmpty).isEmpty
theorem ptB_iff {T : Tb} {n p : Nat} {w : List Nat} (hp : p < n) : ptB (dnR T n w) p = true ↔ run T p w ≠ p ∧ ∃ q, q < n ∧ run T q w = p := by
  unfold ptB
  have e : (dnR T n w).getD p 0 = run T p w := by
    unfold dnR
    rw [List.getD_eq_getElem?_getD, List.getElem?_map, List.getElem?_range hp]
    rfl
  rw [e, Bool.and_eq_true, Bool.not_eq_true', decide_eq_false_iff_not, decide_eq_true_eq]
  refine and_congr Iff.rfl ?_
  unfold dnR
  rw [List.mem_map]
  exact ⟨fun ⟨q, h1, h2⟩ => ⟨q, List.mem_range.mp h1, h2⟩, fun ⟨q, h1, h2⟩ => ⟨q, List.mem_range.mpr h1, h2⟩⟩
theorem not_empty_iff {α : Type} {l : List α} {b : α → Bool} : (!(l.filter b).isEmpty) = true ↔ ∃ x ∈ l, b x = true := by
  rw [filter_empty]
  simp
theorem partB_iff {T : Tb} {n : Nat} {S : List Nat} (hS : ∀ p ∈ S, p < n) (L : Nat) : partB T n S L = true ↔ PS T n S L := by
  unfold partB
  rw [not_empty_iff]
  constructor
  · rintro ⟨f, hf, h⟩
    obtain ⟨p, hp, hb⟩ := not_empty_iff.mp h
    obtain ⟨w, hw, hl, e⟩ := (mem_hereR L f).mp hf
    subst e
    obtain ⟨h1, q, hq, h2⟩ := (ptB_iff (hS p hp)).mp hb
    exact ⟨p, hp, w, q, hw, hl, hq, h2, h1⟩
  · rintro ⟨p, hp, w, q, hw, hl, hq, h2, h1⟩
    exact ⟨dnR T n w, (mem_hereR L _).mpr ⟨w, hw, hl, rfl⟩, not_empty_iff.mpr ⟨p, hp, (ptB_iff (hS p hp)).mpr ⟨h1, q, hq, h2⟩⟩⟩
/-! ### round and round -/
theorem here_add {T : Tb} {n i j : Nat} (h : ∀ f, f ∈ hereR T n i ↔ f ∈ hereR T n j) : ∀ k f, f ∈ hereR T n (i + k) ↔ f ∈ hereR T n (j + k)
  | 0, f => h f
  | k + 1, f => by
    show f ∈ dd (nxR T (hereR T n (i + k))) ↔ f ∈ dd (nxR T (hereR T n (j + k)))
    rw [mem_dd, mem_dd, mem_nxR, mem_nxR]
    have ih := here_add h k
    exact ⟨fun ⟨g, hg, r⟩ => ⟨g, (ih g).mp hg, r⟩, fun ⟨g, hg, r⟩ => ⟨g, (ih g).mpr hg, r⟩⟩
theorem ps_same {T : Tb} {n i j : Nat} {S : List Nat} (hS : ∀ p ∈ S, p < n) (h : ∀ f, f ∈ hereR T n i ↔ f ∈ hereR T n j) : PS T n S i ↔ PS T n S j := by
  rw [← partB_iff hS, ← partB_iff hS]
  unfold partB
  rw [not_empty_iff, not_empty_iff]
  exact ⟨fun ⟨f, hf, r⟩ => ⟨f, (h f).mp hf, r⟩, fun ⟨f, hf, r⟩ => ⟨f, (h f).mpr hf, r⟩⟩
def keyR (T : Tb) (n L : Nat) : Str := PyData.shown (.list ((srt (hereR T n L)).map rowD))
theorem srt_ok {d : Nat} {l : List (List Nat)} (h : RowsOk d l) : RowsOk d (srt l) := fun t ht => h t ((srt_perm l).mem_iff.mp ht)
theorem key_same {T : Tb} {n i j : Nat} (M : MOk T n) (e : keyR T n i = keyR T n j) : ∀ f, f ∈ hereR T n i ↔ f ∈ hereR T n j := fun f => by
  have h := text_inj M.n1 (srt_ok (hereR_ok M i)) (srt_ok (hereR_ok M j)) e
  rw [← (srt_perm (hereR T n i)).mem_iff, ← (srt_perm (hereR T n j)).mem_iff, h]
/-- what is told is true -/
structure TldOk (T : Tb) (n : Nat) (S : List Nat) (t : Told) : Prop where
  td : TdOk t
  at_ : ∀ L, L < t.ps.length → (t.ps.getD L false = true ↔ PS T n S L)
  per : ∀ L, t.fi ≤ L → (PS T n S (L + t.tu) ↔ PS T n S L)
theorem TldOk.all {T : Tb} {n : Nat} {S : List Nat} {t : Told} (h : TldOk T n S t) (L : Nat) : atB t L = true ↔ PS T n S L := by
  unfold atB
  by_cases hL : L < t.ps.length
  · rw [if_pos hL]
    exact h.at_ L hL
  · rw [if_neg hL]
    have h1 := h.td.len
    have hm : (L - t.fi) % t.tu < t.tu := Nat.mod_lt _ h.td.t1
    rw [h.at_ _ (by omega)]
    rw [per_mod (f := PS T n S) (fun L hL => propext (h.per L hL)) L (by omega)]
theorem told_ok {T : Tb} {n : Nat} {S : List Nat} (M : MOk T n) (hS : ∀ p ∈ S, p < n) {i L : Nat} (hi : i < L) (hL : L ≤ 39) (e : keyR T n i = keyR T n L) : TldOk T n S ⟨(List.range L).map (partB T n S), i, L - i⟩ := by
  refine ⟨⟨by show ((List.range L).map (partB T n S)).length = i + (L - i); rw [List.length_map, List.length_range]; omega, by show 1 ≤ L - i; omega, by show i + (L - i) ≤ 39; omega⟩, fun k hk => ?_, fun k hk => ?_⟩
  · have hk : k < ((List.range L).map (partB T n S)).length := hk
    rw [List.length_map, List.length_range] at hk
    show ((List.range L).map (partB T n S)).getD k false = true ↔ _
    rw [List.getD_eq_getElem?_getD, List.getElem?_map, List.getElem?_range hk]
    exact partB_iff hS k
  · have hk : i ≤ k := hk
    show PS T n S (k + (L - i)) ↔ PS T n S k
    have h := here_add (key_same M e) (k - i)
    rw [show i + (k - i) = k by omega, show L + (k - i) = k + (L - i) by omega] at h
    exact (ps_same hS h).symm
/-! ### rows as keys of a dict -/
def rowK (f : List Nat) : List NK := f.map fun (x : Nat) => .num (x : Nat)
theorem rowK_datas : ∀ f : List Nat, NestedKey.datas (rowK f) = f.map fun (x : Nat) => PyData.int x
  | [] => by simp [rowK, NestedKey.datas]
  | x :: f => by
    have := rowK_datas f
    simp only [rowK, List.map_cons, NestedKey.datas, NestedKey.data] at this ⊢
    rw [this]
theorem rowK_data (f : List Nat) : NestedKey.data (.tup (rowK f)) = rowD f := by
  simp only [NestedKey.data, rowK_datas]
  rfl
theorem rowK_deps : ∀ f : List Nat, NestedKey.depthAll (rowK f) ≤ 1
  | [] => by simp [rowK, NestedKey.depthAll]
  | x :: f => by
    have := rowK_deps f
    simp only [rowK, List.map_cons, NestedKey.depthAll, NestedKey.depth] at this ⊢
    omega
theorem rowK_depth (f : List Nat) : (NestedKey.tup (rowK f)).depth ≤ 8 := by
  have := rowK_deps f
  simp only [NestedKey.depth]
  omega
theorem rowK_inj {f g : List Nat} (h : NestedKey.tup (rowK f) = NestedKey.tup (rowK g)) : f = g := by
  injection h with h
  refine (List.map_inj_right (fun {a b} h => ?_)).mp h
  injection h with h
  omega
def kvRw (l : List (List Nat)) : List (NK × PyData) := l.map fun f => (NestedKey.tup (rowK f), PyData.bool true)
theorem kvRw_put (l : List (List Nat)) (f : List Nat) : ptK (kvRw l) (.tup (rowK f)) (.bool true) = kvRw (addN l f) := by
  have hg : (gt? (kvRw l) (.tup (rowK f))).isSome = decide (f ∈ l) := by
    rw [gt_isSome]
    refine decide_eq_decide.mpr ?_
    unfold kvRw
    rw [List.map_map, List.mem_map]
    exact ⟨fun ⟨g, hg, e⟩ => by rw [← rowK_inj e]; exact hg, fun h => ⟨f, h, rfl⟩⟩
  unfold ptK addN
  rw [hg]
  by_cases h : f ∈ l
  · rw [if_pos (by simpa using h), if_pos h]
    unfold kvRw
    rw [List.map_map]
    refine List.map_congr_left fun g _ => ?_
    show (if NestedKey.tup (rowK g) = .tup (rowK f) then _ else _) = _
    split <;> rfl
  · rw [if_neg (by simpa using h), if_neg h]
    unfold kvRw
    rw [List.map_append]
    rfl
/-! ### the dict of what is known -/
theorem valV_mem {κ : Type} [DecidableEq κ] : ∀ {kvs : List (κ × V)} {k : κ} {v : V}, valV kvs k = some v → (k, v) ∈ kvs
  | [], _, _, h => by cases h
  | p :: r, k, v, h => by
    by_cases e : p.1 = k
    · rw [valV_pos e] at h
      cases h
      rw [← e]
      exact List.mem_cons_self
    · rw [valV_neg e] at h
      exact List.mem_cons_of_mem _ (valV_mem h)
def knR (T : Tb) (n L : Nat) : List (Key × V) := (List.range L).map fun i => ((.inr (keyR T n i) : Key), V.int (i : Nat))
theorem knR_at {T : Tb} {n L : Nat} {k : Str} {v : V} (h : valV (knR T n L) (.inr k) = some v) : ∃ i, i < L ∧ keyR T n i = k ∧ v = V.int (i : Nat) := by
  obtain ⟨i, hi, e⟩ := List.mem_map.mp (valV_mem h)
  cases e
  exact ⟨i, List.mem_range.mp hi, rfl, rfl⟩
theorem knR_put {T : Tb} {n L : Nat} (h : valV (knR T n L) (.inr (keyR T n L)) = none) : putK (knR T n L) (.inr (keyR T n L)) (V.int (L : Nat)) = knR T n (L + 1) := by
  rw [putK_new _ h]
  unfold knR
  rw [List.range_succ, List.map_append]
  rfl
end K27
/-! ## Law4 -/
/-! The law's defs: by length whether it parts, till the lots of tables come round. -/
namespace K27
open PySem L2 PySem.Spec PyProof.Rows
def otD : Option Told → PyData
  | none => .none
  | some t => toldD t
section
variable {P : Program} {w : World} {K : PySem.W.Frag} {mg : Str → Option Value} {base : Heap}
structure LrOk (i : Tb × Nat × List Nat) : Prop where
  m : MOk i.1 i.2.1
  s : ∀ p ∈ i.2.2, p < i.2.1
  z : i.2.2.length ≤ 4
abbrev CLround (P : Program) (w : World) (K : PySem.W.Frag) (mg : Str → Option Value) (base : Heap) : Prop := GCal P w K mg base 4 "_law_round" p_lround (spOf LrOk (fun i => [dat K (tbL i.1), dat K (.list (natsD i.2.2)), dat K (.int (40 : Nat))]) (fun i => some_ (fun o : Option Told => ∀ t, o = some t → TldOk i.1 i.2.1 i.2.2 t) fun o => dat K (otD o)))
theorem c_lround (B : Bu mg) (D : DefAt K mg "_law_round" s_law_round p_lround) (CP : CLparts P w K mg base) : CLround P w K mg base :=
  gdef_ok (N := n_lround) D sc_lround (fun _ => rfl) fun f cdv A outer s H E i w0 Q σ hr hgd hp S q => by
    obtain ⟨T, n, LS⟩ := i
    have hM : MOk T n := hp.m
    have hS : ∀ p ∈ LS, p < n := hp.s
    have hz : LS.length ≤ 4 := hp.z
    have n4 := hM.n4
    have n1 := hM.n1
    have d1 := hM.d1
    have d3 := hM.d3
    have hu : (A.deeper (envOfC "_law_round" (defScope s_law_round) s.heap.objs.size f cdv)).units + 64 < cLine := hr.units
    show wS _ (_ :: _) _ _ _
    obtain ⟨t0, ht0⟩ : ∃ t0, T[0]? = some t0 := ⟨_, List.getElem?_eq_getElem (show 0 < T.length by omega)⟩
    have lt0 : t0.length = n := hM.len _ (List.mem_of_getElem? ht0)
    refine w_init3 (τ := lstT K ((hereR T n 0).map fun r => dat K (rowD r))) 3 4 5 rfl sc_lround.nd S hu ?_ fun σ1 w1 dk lp g1 hd0 hl0 ne od1 ol1 S1 => ?_
    · have eR : rngT K 0 1 (n : Int).toNat = ((List.range n).map fun (i : Nat) => PyData.int i).map (dat K) := by
        unfold rngT
        rw [List.map_map, Int.toNat_natCast]
        refine List.map_congr_left fun i _ => ?_
        show dat K (.int (0 + (i : Nat) * 1)) = dat K (.int (i : Nat))
        rw [Int.zero_add, Int.mul_one]
      exact lst_ (ac (ofT (xs := (List.range n).map fun (i : Nat) => PyData.int i) (eqTu eR (tupR (n := (n : Int)) rfl B.tuple_ B.range_ (eqE (by rw [List.length_map, lt0]) (lenTD (xs := t0.map fun (i : Nat) => PyData.int i) B.len_ (ixLD (nm 0 S) ci (tb_at (d := 0) ht0)))) ⟨by omega, by omega⟩))) a0) (by show (1 : Nat) ≤ sizeLine; decide)
    let I : Nat → L2.St → Wd → Prop := fun L σ w' => Grow w0 w' ∧ Sl w'.G σ [some (dat K (tbL T)), some (dat K (.list (natsD LS))), some (dat K (.int (40 : Nat))), some (ex (.ref dk)), some (ex (.ref lp)), some (lstT K ((hereR T n L).map fun r => dat K (rowD r))), none, none, none, none, none, none] ∧
      Own w' dk (.dK (knR T n L)) ∧ ∃ vs, Own w' lp (.lst vs) ∧ Tys ((List.range L).map fun i => dat K (.bool (partB T n LS i))) vs w'.G
    refine w_forM (D := { nx := fun _ H' => Q .non H', rt := Q }) (xs := List.range 40) (κ := fun (x : Nat) => dat K (.int (x : Nat))) 6 rfl PassesOwn.never sc_lround.nd (ivR (n := 40) B.range_ (nm 2 S1) (by decide)) I
      (fun w' g => ⟨g1.trans g, S1.mono g.g, od1.grow g, [], ol1.grow g, .nil⟩) (fun L x σ' w3 w4 v hx hI g4 hv => ?_) (fun σ' w' hI => ?_)
    · obtain ⟨gI, SI, odI, vs, olI, htI⟩ := hI
      have hxL := (List.getElem?_eq_some_iff.mp hx).2
      have hL := (List.getElem?_eq_some_iff.mp hx).1
      rw [List.length_range] at hL
      rw [List.getElem_range] at hxL
      subst hxL
      have S4 := (SI.mono g4.g).put hv 6
      have G4 := gI.trans g4
      have od4 := odI.grow g4
      have ol4 := olI.grow g4
      have ht4 := htI.mono g4.g
      have hok := hereR_ok hM L
      generalize hJ : ({ nx := Nxt I w4 (L + 1), rt := Q, ct := Nxt I w4 (L + 1), bk := wS (BX P w K mg base n_lround "_law_round" s_law_round f cdv A outer s H E) _ { nx := fun _ H' => Q .non H', rt := Q } } : Ends) = DJ
      have hrt : DJ.rt = Q := by rw [← hJ]
      have hnx : DJ.nx = Nxt I w4 (L + 1) := by rw [← hJ]
      show wS _ (_ :: _) _ _ _
      refine w_when (b := decide (120 < (hereR T n L).length)) (eqT (by rw [List.length_map]; exact decide_eq_decide.mpr (by omega)) (t_gt (i := ((((hereR T n L).map fun r => dat K (rowD r)).length : Nat) : Int)) (j := 120) (lenL (τs := (hereR T n L).map fun r => dat K (rowD r)) B.len_ (nm 5 S4)) ci)) (fun _ w5 g5 => w_ret cn fun v w6 g6 hv => by
        rw [hrt]
        exact q v w6 ((G4.trans g5).trans g6) ⟨none, (fun t e => nomatch e), hv⟩) (fun hb w5 g5 => ?_)
      have h120 : (hereR T n L).length ≤ 120 := by
        have := of_decide_eq_false hb
        omega
      have S5 := S4.mono g5.g
      refine w_set (τ := dat K (.str (keyR T n L))) 7 sc_lround.nd S5 (repr_ hgd hu B.repr_ (d := .list ((srt (hereR T n L)).map rowD)) (ofL (eqL (by rw [List.map_map]; rfl) (sortedR (d := n) B.sorted_ n1 hok (by omega) (fun out p s => srt_uniq hok p s) (nm 5 S5)))) (rows_shown n4 (srt_ok hok) (by rw [(srt_perm _).length_eq]; omega))) fun σ6 w6 g6 S6 => ?_
      have G6 := (G4.trans g5).trans g6
      have od6 := (od4.grow g5).grow g6
      have ol6 := (ol4.grow g5).grow g6
      have ht6 := (ht4.mono g5.g).mono g6.g
      refine w_when (b := (valV (knR T n L) (.inr (keyR T n L))).isSome) (t_kin hu (nm 7 S6) (nm 3 S6) od6) (fun hb w7 g7 => ?_) (fun hb w7 g7 => ?_)
      · obtain ⟨kv, hkv⟩ := Option.isSome_iff_exists.mp hb
        obtain ⟨i, hi, hk, ev⟩ := knR_at hkv
        subst ev
        have S7 := S6.mono g7.g
        have ol7 := ol6.grow g7
        have ht7 := ht6.mono g7.g
        have hn7 : Same w7.G (w7.frz lp (.lst vs) ol7.at_).G := Wd.frz_same ol7.free
        have S8 : Sl (w7.frz lp (.lst vs) ol7.at_).G σ6 _ := (S7.mono hn7).retype (τ := ex (.ref lp)) (τ' := dat K (.list (bolsD ((List.range L).map (partB T n LS))))) 4 (by
          obtain ⟨v, e1, e2⟩ := S7.get (i := 4) (τ := ex (.ref lp)) rfl
          exact ⟨v, e1, by
            rw [show v = .ref lp from e2]
            refine dat_list.mpr ⟨lp, vs, rfl, SqL.of Wd.frz_at, ?_⟩
            unfold bolsD
            rw [List.map_map, List.map_map]
            exact ht7.mono hn7⟩)
        have G8 : Grow w0 (w7.frz lp (.lst vs) ol7.at_) := (G6.trans g7).frz hl0 ol7.at_
        have od8 : Own (w7.frz lp (.lst vs) ol7.at_) dk (.dK (knR T n L)) := (od6.grow g7).frz ne
        have hkg : ∀ {pp : Pos} {a b : Expr} (hs : NoSl b), Ev (BX P w K mg base n_lround "_law_round" s_law_round f cdv A outer s H E) σ6 (w7.frz lp (.lst vs) ol7.at_) a (ex (.ref dk)) → Dv (BX P w K mg base n_lround "_law_round" s_law_round f cdv A outer s H E) σ6 (w7.frz lp (.lst vs) ol7.at_) b (.str (keyR T n L)) → Dv (BX P w K mg base n_lround "_law_round" s_law_round f cdv A outer s H E) σ6 (w7.frz lp (.lst vs) ol7.at_) (.Subscript a b pp) (.int (i : Nat)) := fun hs h1 h2 => kget hu h1 h2 od8 hkv (.int _) hs
        show wS _ _ _ σ6 (w7.frz lp (.lst vs) ol7.at_).H
        refine w_ret (eqE ?_ (tupD (ds := [.list (bolsD ((List.range L).map (partB T n LS))), .int (i : Nat), .int ((L : Int) - (i : Nat))]) (ac (nm 4 S8) (ac (hkg (by intro _ _; rfl) (nm 3 S8) (nm 7 S8)) (ac (sub (nm 6 S8) (hkg (by intro _ _; rfl) (nm 3 S8) (nm 7 S8))) a0))))) fun v w9 g9 hv => by
          rw [hrt]
          exact q v w9 (G8.trans g9) ⟨some ⟨(List.range L).map (partB T n LS), i, L - i⟩, (fun t e => by
            cases e
            exact told_ok hM hS hi (by omega) hk), hv⟩
        have e : (L : Int) - (i : Nat) = ((L - i : Nat) : Int) := by omega
        rw [e]
        rfl
      · have hb : valV (knR T n L) (.inr (keyR T n L)) = none := by
          cases h : valV (knR T n L) (.inr (keyR T n L)) with
          | none => rfl
          | some _ =>
            rw [h] at hb
            cases hb
        have S7 := S6.mono g7.g
        refine w_kput (τ := dat K (.int (L : Nat))) hu (nm 6 S7) (nm 3 S7) (nm 7 S7) (od6.grow g7) (by unfold knR; rw [List.length_map, List.length_range]; omega) fun v8 w8 g8 hv8 od8 => ?_
        rw [Dp.int_iff hv8, knR_put hb]
        have G8 : Grow w0 (w8.lay dk (.dK (knR T n (L + 1))) od8.free) := ((G6.trans g7).trans g8).change hd0
        have S8 : Sl (w8.lay dk (.dK (knR T n (L + 1))) od8.free).G σ6 _ := S7.mono g8.g
        have od8' : Own (w8.lay dk (.dK (knR T n (L + 1))) od8.free) dk (.dK (knR T n (L + 1))) := Own.self
        have ol8 : Own (w8.lay dk (.dK (knR T n (L + 1))) od8.free) lp (.lst vs) := ((ol6.grow g7).grow g8).other (Ne.symm ne)
        have ht8 : Tys _ vs (w8.lay dk (.dK (knR T n (L + 1))) od8.free).G := (ht6.mono g7.g).mono g8.g
        have s8 : Same w4.G (w8.lay dk (.dK (knR T n (L + 1))) od8.free).G := ((g5.g.trans g6.g).trans g7.g).trans g8.g
        generalize w8.lay dk (.dK (knR T n (L + 1))) od8.free = w9 at G8 S8 od8' ol8 ht8 s8 ⊢
        have hrow : ∀ r ∈ hereR T n L, r.length = n ∧ ∀ x ∈ r, x < n := fun r hr => hereR_lt hM L hr
        refine w_app (X := BX P w K mg base n_lround "_law_round" s_law_round f cdv A outer s H E) (τ := dat K (.bool (partB T n LS L))) (nm 4 S8) ol8 (eqE ?_ (neNil (xs := ((hereR T n L).filter fun g => !(LS.filter fun p => ptB g p).isEmpty).map rowD) hu (ofL (eqL (by rw [List.map_map]; rfl) (lcifM (xs := hereR T n L) (κ := fun r => dat K (rowD r)) [("_law_done", 9)] 9 (fun g => !(LS.filter fun p => ptB g p).isEmpty) (fun r => dat K (rowD r)) rfl sc_lround.nd S8 (iv_list (nm 5 S8)) (by omega)
          (fun j g σ10 w10 hg g10 S10 s0 H0 C cl fp => ?_) (fun j g σ10 w10 hg hb g10 S10 s0 H0 C cl fp => nm 9 S10)))) (fun x hx => ?_))) ?_ fun v10 w10 g10 hv10 ol10 => ?_
        · show PyData.bool _ = PyData.bool (partB T n LS L)
          rw [List.isEmpty_map]
          rfl
        · refine eqT ?_ (t_neNil (xs := (LS.filter fun p => ptB g p).map fun (p : Nat) => PyData.int p) hu (ofL (eqL (by rw [List.map_map]; rfl) (lcifM (xs := LS) (κ := fun (p : Nat) => dat K (.int p)) [("_law_state", 11)] 11 (fun p => ptB g p) (fun (p : Nat) => dat K (.int p)) rfl sc_lround.nd S10 (eqI_ (by unfold natsD; rw [List.map_map]; rfl) (ivL (xs := natsD LS) (nm 1 S10))) (by omega)
            (fun k p σ11 w11 hpp g11 S11 s1 H1 C1 cl1 fp1 => t_val (call_c CP (hr.mono (by decide)) (g, p) ?_ (ac (nm 9 S11) (ac (nm 11 S11) a0))))
            (fun k p σ11 w11 hpp hb g11 S11 s1 H1 C1 cl1 fp1 => nm 11 S11) (ok := by exact blkOk_by (by show blkC n_lround (relS { kind := .function, names := [(".0", .local), ("_law_done", .cell), ("_law_lot", .free)], isGenerator := false, isCoroutine := false } (defScope s_law_round)) _ _ = true; decide +kernel))))) (fun x hx => ?_))
          · rw [List.isEmpty_map]
          · show p < g.length
            rw [(hrow g (List.mem_of_getElem? hg)).1]
            exact hS p (List.mem_of_getElem? hpp)
          · obtain ⟨i, _, e⟩ := List.mem_map.mp hx
            rw [← e]
            exact lay_int _
        · obtain ⟨r, _, e⟩ := List.mem_map.mp hx
          rw [← e]
          exact lay_row r
        · have := ht8.length
          rw [List.length_map, List.length_range] at this
          omega
        have G11 : Grow w0 (w10.lay lp (.lst (vs ++ [v10])) ol10.free) := (G8.trans g10).change hl0
        have S11 : Sl (w10.lay lp (.lst (vs ++ [v10])) ol10.free).G σ6 _ := S8.mono g10.g
        have od11 : Own (w10.lay lp (.lst (vs ++ [v10])) ol10.free) dk (.dK (knR T n (L + 1))) := (od8'.grow g10).other ne
        have ol11 : Own (w10.lay lp (.lst (vs ++ [v10])) ol10.free) lp (.lst (vs ++ [v10])) := Own.self
        have ht11 : Tys ((List.range (L + 1)).map fun i => dat K (.bool (partB T n LS i))) (vs ++ [v10]) (w10.lay lp (.lst (vs ++ [v10])) ol10.free).G := by
          rw [List.range_succ, List.map_append]
          exact (ht8.mono g10.g).append (.cons hv10 .nil)
        have s11 : Same w4.G (w10.lay lp (.lst (vs ++ [v10])) ol10.free).G := s8.trans g10.g
        generalize w10.lay lp (.lst (vs ++ [v10])) ol10.free = w11 at G11 S11 od11 ol11 ht11 s11 ⊢
        generalize vs ++ [v10] = vs1 at ol11 ht11
        refine w_newdict 8 sc_lround.nd S11 fun σ12 w12 dl g12 hl12 oD12 S12 => ?_
        have hl00 : w0.H dl = none := G11.h.free hl12
        have n1' : dk ≠ dl := fun z => by
          subst z
          have := od11.at_
          rw [hl12] at this
          cases this
        have n2' : lp ≠ dl := fun z => by
          subst z
          have := ol11.at_
          rw [hl12] at this
          cases this
        refine w_forM (xs := hereR T n L) (κ := fun r => dat K (rowD r)) 9 rfl PassesOwn.never sc_lround.nd (iv_list (nm 5 S12))
          (fun j σ w' => Same w11.G w'.G ∧ Grow w0 w' ∧ Sl w'.G σ [some (dat K (tbL T)), some (dat K (.list (natsD LS))), some (dat K (.int (40 : Nat))), some (ex (.ref dk)), some (ex (.ref lp)), some (lstT K ((hereR T n L).map fun r => dat K (rowD r))), some (dat K (.int (L : Nat))), some (dat K (.str (keyR T n L))), some (ex (.ref dl)), none, none, none] ∧
            Own w' dk (.dK (knR T n (L + 1))) ∧ Own w' lp (.lst vs1) ∧ OwnD P w K w' dl (kvRw (dd (nxR T ((hereR T n L).take j)))))
          (fun w' g => ⟨g12.g.trans g.g, (G11.trans g12).trans g, S12.mono g.g, (od11.grow g12).grow g, (ol11.grow g12).grow g, oD12.grow g⟩) (fun j r σ' w13 w14 v14 hr14 hJ14 g14 hv14 => ?_) (fun σ' w' hJ14 => ?_)
        · obtain ⟨sJ, gJ, SJ, odJ, olJ, oDJ⟩ := hJ14
          have S14 := (SJ.mono g14.g).put hv14 9
          have hrL := (List.getElem?_eq_some_iff.mp hr14).1
          obtain ⟨lr, hrlt⟩ := hrow r (List.mem_of_getElem? hr14)
          have bz : (dd (nxR T ((hereR T n L).take j))).length ≤ 360 := by
            refine Nat.le_trans (dd_len _) ?_
            rw [nxR_len, List.length_take]
            have := Nat.mul_le_mul (show min j (hereR T n L).length ≤ 120 by omega) d3
            omega
          refine w_forM (xs := T) (κ := fun t => dat K (rowD t)) 10 rfl PassesOwn.never sc_lround.nd (eqI_ (by rw [List.map_map]; rfl) (ivL (xs := T.map rowD) (nm 0 S14)))
            (fun m σ w' => Same w14.G w'.G ∧ Grow w0 w' ∧ Sl w'.G σ [some (dat K (tbL T)), some (dat K (.list (natsD LS))), some (dat K (.int (40 : Nat))), some (ex (.ref dk)), some (ex (.ref lp)), some (lstT K ((hereR T n L).map fun r => dat K (rowD r))), some (dat K (.int (L : Nat))), some (dat K (.str (keyR T n L))), some (ex (.ref dl)), some (dat K (rowD r)), none, none] ∧
              Own w' dk (.dK (knR T n (L + 1))) ∧ Own w' lp (.lst vs1) ∧ OwnD P w K w' dl (kvRw (((nxT T r).take m).foldl addN (dd (nxR T ((hereR T n L).take j))))))
            (fun w' g => ⟨g.g, (gJ.trans g14).trans g, S14.mono g.g, (odJ.grow g14).grow g, (olJ.grow g14).grow g, (oDJ.grow g14).grow g⟩) (fun m tt σ' w15 w16 v16 ht16 hM2 g16 hv16 => ?_) (fun σ' w' hM2 => ?_)
          · obtain ⟨sM, gM, SM, odM, olM, oDM⟩ := hM2
            have S16 := (SM.mono g16.g).put hv16 10
            have htl := (List.getElem?_eq_some_iff.mp ht16).1
            have ltt : tt.length = n := hM.len _ (List.mem_of_getElem? ht16)
            have hz16 : (((nxT T r).take m).foldl addN (dd (nxR T ((hereR T n L).take j)))).length ≤ 1000 := by
              refine Nat.le_trans (fold_len _ _) ?_
              rw [List.length_take]
              have : (nxT T r).length = T.length := List.length_map _
              omega
            have hz17 : (kvRw (((nxT T r).take m).foldl addN (dd (nxR T ((hereR T n L).take j))))).length ≤ 1000000 := by
              unfold kvRw
              rw [List.length_map]
              omega
            refine w_dput (X := BX P w K mg base n_lround "_law_round" s_law_round f cdv A outer s H E) (ks := rowK (r.map fun s => tt.getD s 0)) (dv := .bool true) hu cb (nm 8 S16) ?_ (rowK_depth _) (oDM.grow g16) hz17 ?_
            · refine eqE (rowK_data _).symm (eqE (d := .tuple ((r.map fun s => tt.getD s 0).map fun (i : Nat) => PyData.int i)) rfl ?_)
              refine ofT ?_
              refine eqTu ?_ (tuple_ (τs := r.map fun s => dat K (.int (tt.getD s 0 : Nat))) B.tuple_ (.inl ?_))
              · rw [List.map_map, List.map_map]
                rfl
              · refine lcM (xs := r) (κ := fun (s : Nat) => dat K (.int s)) [("_law_state", 11)] 11 (fun s => dat K (.int (tt.getD s 0 : Nat))) rfl sc_lround.nd S16 ?_ (by omega) (fun k st σ17 w17 hst g17 S17 s1 H1 C1 cl1 fp1 => ?_)
                · exact eqI_ (by rw [List.map_map]; rfl) (ivT (xs := r.map fun (i : Nat) => PyData.int i) (nm 9 S16))
                · exact ixTD (xs := tt.map fun (i : Nat) => PyData.int i) (nm 10 S17) (nm 11 S17) (row_at (row_get ltt (hrlt st (List.mem_of_getElem? hst))))
            intro w17 g17 o17 n17 oD17
            refine wS_nil ?_
            rw [kvRw_put] at oD17
            refine ⟨w17.lay dl o17 n17, rfl, g17.g, (sM.trans g16.g).trans g17.g, ((gM.trans g16).trans g17).change hl00, ((S16.mono g17.g).forget 10), ((odM.grow g16).grow g17).other n1', ((olM.grow g16).grow g17).other n2', ?_⟩
            have e : (nxT T r).take (m + 1) = (nxT T r).take m ++ [r.map fun s => tt.getD s 0] := by
              rw [List.take_succ]
              congr 1
              unfold nxT
              rw [List.getElem?_map, ht16]
              rfl
            rw [e, List.foldl_append]
            exact oD17
          · obtain ⟨sM, gM, SM, odM, olM, oDM⟩ := hM2
            refine wS_nil ⟨w', rfl, sM, (sJ.trans g14.g).trans sM, gM, SM.forget 9, odM, olM, ?_⟩
            have e : nxR T ((hereR T n L).take (j + 1)) = nxR T ((hereR T n L).take j) ++ nxT T r := by
              rw [List.take_succ, hr14]
              unfold nxR
              rw [List.flatMap_append]
              simp
            have e2 : T.length = (nxT T r).length := (List.length_map _).symm
            rw [e2, List.take_length] at oDM
            rw [e]
            unfold dd at oDM ⊢
            rw [List.foldl_append]
            exact oDM
        · obtain ⟨sJ, gJ, SJ, odJ, olJ, oDJ⟩ := hJ14
          rw [List.take_length] at oDJ
          have hh : dd (nxR T (hereR T n L)) = hereR T n (L + 1) := rfl
          rw [hh] at oDJ
          have hz2 : (hereR T n (L + 1)).length ≤ 360 := by
            refine Nat.le_trans (dd_len _) ?_
            rw [nxR_len]
            have := Nat.mul_le_mul h120 d3
            omega
          refine w_set (τ := lstT K ((hereR T n (L + 1)).map fun r => dat K (rowD r))) 5 sc_lround.nd SJ (eqL ?_ (listD rfl B.list_ (nm 8 SJ) oDJ (by unfold kvRw; rw [List.length_map]; omega))) fun σ15 w15 g15 S15 => wS_nil ?_
          · unfold kvRw
            rw [List.map_map]
            refine List.map_congr_left fun r _ => ?_
            show dat K (NestedKey.data (.tup (rowK r))) = dat K (rowD r)
            rw [rowK_data]
          · rw [hnx]
            exact ⟨w15, rfl, (s11.trans sJ).trans g15.g, gJ.trans g15, (((S15.forget 6).forget 7).forget 8), odJ.grow g15, vs1, olJ.grow g15, (ht11.mono sJ).mono g15.g⟩
    · obtain ⟨gI, _⟩ := hI
      exact w_ret cn fun v w4 g4 hv => q v w4 (gI.trans g4) ⟨none, (fun t e => nomatch e), hv⟩
end
end K27
/-! ## LMath -/
/-! The law's mathematics: what is told, and what the program answers. -/
namespace K27
open PySem L2 PySem.Spec PyProof.Rows
theorem en_iff {T : Tb} {n : Nat} {S : List Nat} {m : Nat} {bo : Option Nat} : Enough T n S m bo ↔ Enough1 (PS T n S) m bo :=
  ⟨fun h k hk hb ⟨p, hp, hP⟩ => h p hp k hk hb hP, fun h p hp k hk hb hP => h k hk hb ⟨p, hp, hP⟩⟩
theorem all_range {c : Nat} {f : Nat → Bool} : ((List.range c).all f) = true ↔ ∀ i, i < c → f i = true := by
  rw [List.all_eq_true]
  exact ⟨fun h i hi => h i (List.mem_range.mpr hi), fun h i hi => h i (List.mem_range.mp hi)⟩
section
variable {T : Tb} {n : Nat} {S : List Nat} {t : Told} {m : Nat} {bo : Option Nat}
theorem TldOk.pe (h : TldOk T n S t) : ∀ L, t.fi ≤ L → PS T n S (L + t.tu) = PS T n S L := fun L hL => propext (h.per L hL)
theorem enB_iff (h : TldOk T n S t) (m1 : 1 ≤ m) (hb : ∀ b, bo = some b → 1 ≤ b) : enB t m bo = true ↔ Enough1 (PS T n S) m bo := by
  have e0 : enB t m bo = true ↔ ∀ k, 1 ≤ k → k * m ≤ lastB t m bo → ¬ PS T n S (k * m) := by
    unfold enB
    rw [all_range]
    constructor
    · intro g k hk hle hP
      have hlt : k - 1 < lastB t m bo / m := by
        have := (Nat.le_div_iff_mul_le (by omega : 0 < m)).mpr hle
        omega
      have := g (k - 1) hlt
      rw [show k - 1 + 1 = k by omega, Bool.not_eq_true'] at this
      rw [(h.all _).mpr hP] at this
      cases this
    · intro g i hi
      have hle : (i + 1) * m ≤ lastB t m bo := (Nat.le_div_iff_mul_le (by omega : 0 < m)).mp (by omega)
      have := g (i + 1) (by omega) hle
      rw [Bool.not_eq_true']
      cases q : atB t ((i + 1) * m) with
      | false => rfl
      | true => exact absurd ((h.all _).mp q) this
  rw [e0]
  cases bo with
  | none =>
    constructor
    · intro g
      have tu1 := h.td.t1
      exact enough1_of (e := t.fi) (c := t.tu) (r := m * t.tu) h.pe ⟨t.tu, Nat.mul_comm _ _⟩ ⟨m, rfl⟩ (Nat.mul_pos m1 tu1) fun k hk hle => g k hk hle
    · intro g k hk _
      exact g k hk fun b e => nomatch e
  | some b =>
    have hb1 := hb b rfl
    constructor
    · intro g
      exact enough1_bound hb1 g
    · intro g k hk hle
      refine g k hk fun b' e => ?_
      cases e
      have hle : k * m ≤ b - 1 := hle
      omega
theorem least_nat {P : Nat → Prop} : ∀ N, 1 ≤ N → P N → ∃ m, 1 ≤ m ∧ m ≤ N ∧ P m ∧ ∀ j, 1 ≤ j → j < m → ¬ P j := by
  intro N
  induction N using Nat.strongRecOn with
  | ind N ih =>
    intro h1 hN
    by_cases h : ∃ j, 1 ≤ j ∧ j < N ∧ P j
    · obtain ⟨j, j1, jN, hj⟩ := h
      obtain ⟨m, a, b, c, d⟩ := ih j jN j1 hj
      exact ⟨m, a, by omega, c, d⟩
    · exact ⟨N, h1, Nat.le_refl _, hN, fun j j1 jN hj => h ⟨j, j1, jN, hj⟩⟩
theorem small_mul : ∀ x, x < 41 → ∀ y, y < 41 → x + y ≤ 40 → x * y ≤ 400 := by decide +kernel
/-- a common multiple of the rounds -/
noncomputable def prodN (T : Tb) (n : Nat) : List Nat → Nat
  | [] => 1
  | p :: S => nOf (wkA T n p) * prodN T n S
theorem nOf_ok (M : MOk T n) {p : Nat} (hp : p < n) : 1 ≤ nOf (wkA T n p) ∧ (wkA T n p).e ≤ nOf (wkA T n p) ∧ ∃ j, nOf (wkA T n p) = j * (wkA T n p).c := by
  have hd := wkA_ok M hp
  have c1 : 1 ≤ (wkA T n p).c := hd.k.rnd.c1
  unfold nOf
  generalize (wkA T n p).e = e
  generalize (wkA T n p).c = c at c1
  refine ⟨Nat.mul_pos (Nat.succ_pos _) c1, ?_, _, rfl⟩
  have h1 := Nat.div_add_mod e c
  have h2 := Nat.mod_lt e c1
  rw [Nat.succ_mul, Nat.mul_comm]
  omega
theorem prodN_pos (M : MOk T n) : ∀ {S : List Nat}, (∀ p ∈ S, p < n) → 1 ≤ prodN T n S
  | [], _ => Nat.le_refl _
  | p :: S, h => Nat.mul_pos (nOf_ok M (h p List.mem_cons_self)).1 (prodN_pos M fun q hq => h q (List.mem_cons_of_mem _ hq))
theorem prodN_mul : ∀ {S : List Nat} {p : Nat}, p ∈ S → ∃ j, prodN T n S = j * nOf (wkA T n p)
  | q :: S, p, h => by
    rcases List.mem_cons.mp h with e | h
    · subst e
      exact ⟨prodN T n S, Nat.mul_comm _ _⟩
    · obtain ⟨j, e⟩ := prodN_mul (S := S) h
      refine ⟨nOf (wkA T n q) * j, ?_⟩
      show nOf (wkA T n q) * prodN T n S = _
      rw [e, Nat.mul_assoc]
/-- none is enough, by what is told, just if by the walks of pairs -/
theorem none_iff (M : MOk T n) (hS : ∀ p ∈ S, p < n) (h : TldOk T n S t) : PS T n S (t.tu * (t.fi + 1)) ↔ ∃ p ∈ S, pB (wkA T n p) (nOf (wkA T n p)) = true := by
  have t1 := h.td.t1
  have hN : ∃ j, t.tu * (t.fi + 1) = j * t.tu := ⟨t.fi + 1, Nat.mul_comm _ _⟩
  have heN : t.fi ≤ t.tu * (t.fi + 1) := Nat.le_trans (Nat.le_succ _) (Nat.le_mul_of_pos_left _ t1)
  have hN1 : 1 ≤ t.tu * (t.fi + 1) := Nat.mul_pos t1 (Nat.succ_pos _)
  have perp : ∀ p, p < n → ∀ L, (wkA T n p).e ≤ L → Parts T n p (L + (wkA T n p).c) = Parts T n p L := fun p hp L hL => (wkA_ok M hp).k.rnd.parts M hp L hL
  constructor
  · intro hP
    refine Classical.byContradiction fun z => ?_
    have hK := parts_all h.pe hN heN hP (k := prodN T n S) (prodN_pos M hS)
    obtain ⟨p, hp, hpp⟩ := hK
    have hpn := hS p hp
    obtain ⟨a1, a2, a3⟩ := nOf_ok M hpn
    obtain ⟨j, ej⟩ := prodN_mul (T := T) (n := n) hp
    have np : ¬ Parts T n p (nOf (wkA T n p)) := fun q => z ⟨p, hp, (pB_iff (wkA_ok M hpn) _).mpr q⟩
    have hj : 1 ≤ j := by
      rcases Nat.eq_zero_or_pos j with e | e
      · have := prodN_pos M hS
        rw [ej, e, Nat.zero_mul] at this
        omega
      · exact e
    have := enough1_all (perp p hpn) a3 a2 np (k := j * (t.tu * (t.fi + 1))) (Nat.mul_pos hj hN1)
    refine this ?_
    rw [ej] at hpp
    rw [Nat.mul_assoc, Nat.mul_comm (t.tu * (t.fi + 1)) (nOf (wkA T n p)), ← Nat.mul_assoc]
    exact hpp
  · rintro ⟨p, hp, hb⟩
    have hpn := hS p hp
    have hP := (pB_iff (wkA_ok M hpn) _).mp hb
    obtain ⟨a1, a2, a3⟩ := nOf_ok M hpn
    have hK := parts_all (perp p hpn) a3 a2 hP (k := t.tu * (t.fi + 1)) hN1
    refine Classical.byContradiction fun z => ?_
    refine enough1_all h.pe hN heN z (k := nOf (wkA T n p)) a1 ⟨p, hp, ?_⟩
    rw [Nat.mul_comm]
    exact hK
end
/-- the number that both tell -/
theorem due_ex {T : Tb} {n : Nat} {So : Option (List Nat)} {t : Told} {bo : Option Nat} (M : MOk T n) (L : LotOk n So) (h : TldOk T n (lotOf n So) t) (hb : ∀ b, bo = some b → 1 ≤ b ∧ b ≤ 400) : ∃ r, LlOk (t, bo, r) ∧ LArg.Ok ⟨T, n, So, bo, r⟩ := by
  have hS : ∀ p ∈ lotOf n So, p < n := fun p hp => L.lot_lt hp
  have hni := none_iff M hS h
  have t1 := h.td.t1
  have sz := h.td.sz
  have hb2 : ∀ b, bo = some b → 1 ≤ b := fun b e => (hb b e).1
  by_cases hc : bo = none ∧ PS T n (lotOf n So) (t.tu * (t.fi + 1))
  · obtain ⟨e, hP⟩ := hc
    subst e
    exact ⟨none, ⟨h.td, (fun b e => nomatch e), fun _ => ⟨rfl, (h.all _).mpr hP⟩, fun r e => nomatch e⟩, ⟨M, L, (fun b e => nomatch e), fun _ => ⟨rfl, hni.mp hP⟩, fun r e => nomatch e⟩⟩
  · have hE : ∃ N, 1 ≤ N ∧ N ≤ 400 ∧ Enough1 (PS T n (lotOf n So)) N bo := by
      cases bo with
      | none =>
        have hP : ¬ PS T n (lotOf n So) (t.tu * (t.fi + 1)) := fun z => hc ⟨rfl, z⟩
        refine ⟨t.tu * (t.fi + 1), Nat.mul_pos t1 (Nat.succ_pos _), small_mul _ (by omega) _ (by omega) (by omega), fun k hk _ => ?_⟩
        exact enough1_all h.pe ⟨t.fi + 1, Nat.mul_comm _ _⟩ (Nat.le_trans (Nat.le_succ _) (Nat.le_mul_of_pos_left _ t1)) hP hk
      | some b => exact ⟨b, (hb b rfl).1, (hb b rfl).2, en_iff.mp enough_self⟩
    obtain ⟨N, N1, N4, hEN⟩ := hE
    obtain ⟨m, m1, mN, hm, hno⟩ := least_nat (P := fun m => Enough1 (PS T n (lotOf n So)) m bo) N N1 hEN
    refine ⟨some m, ⟨h.td, fun b e => ⟨(hb b e).1, Nat.le_trans (hb b e).2 (by decide)⟩, (fun e => nomatch e), fun r e => ?_⟩, ⟨M, L, fun b e => ⟨(hb b e).1, Nat.le_trans (hb b e).2 (by decide)⟩, (fun e => nomatch e), fun r e => ?_⟩⟩
    · cases e
      refine ⟨⟨m1, Nat.le_trans mN N4⟩, fun e => ?_, (enB_iff h m1 hb2).mpr hm, fun j j1 jm => ?_⟩
      · have e : bo = none := e
        show atB t (t.tu * (t.fi + 1)) = false
        cases q : atB t (t.tu * (t.fi + 1)) with
        | false => rfl
        | true => exact absurd ⟨e, (h.all _).mp q⟩ hc
      · show enB t j bo = false
        cases q : enB t j bo with
        | false => rfl
        | true => exact absurd ((enB_iff h j1 hb2).mp q) (hno j j1 jm)
    · cases e
      refine ⟨Nat.le_trans mN (Nat.le_trans N4 (by decide)), fun e p hp => ?_, ⟨m1, en_iff.mpr hm, fun j j1 jm hj => hno j j1 jm (en_iff.mp hj)⟩⟩
      have e : bo = none := e
      cases q : pB (wkA T n p) (nOf (wkA T n p)) with
      | false => rfl
      | true => exact absurd ⟨e, hni.mpr ⟨p, hp, q⟩⟩ hc
end K27
/-! ## Core24 -/
/-! The calculus, twenty-fourth part: what the law itself asks. -/
namespace K27
open PySem L2 PySem.Spec PyProof.Rows
section
variable {P : Program} {W : World} {K : PySem.W.Frag} {mg : Str → Option Value} {base : Heap} {X : Cx} {e a b : Expr} {es : List Expr} {σ : L2.St} {w w' : Wd} {τ τ' : Ty} {τs : List Ty} {pos p : Pos} {ds : List (Option Ty)} {rest body : List Stmt} {D : Ends}
theorem call_S {ι : Type} {pre : ι → Prop} {as : ι → List Ty} {r : ι → Ty} {k : Nat} {x : Str} {ps : List Str} (c : Cal P W K mg base k x ps (spOf pre as r)) (hr : Room k X.A) (ha : Av X σ w (e :: es) τs)
    (kk : ∀ vs G, Tys τs vs G → ∃ i, pre i ∧ Tys (as i) vs G ∧ ∀ v G', (r i).p v G' → τ.p v G')
    (h1 : X.prog = P := by rfl) (h2 : X.w = W := by rfl) (h3 : X.K = K := by rfl) (h4 : X.mg = mg := by rfl) (h5 : X.base = base := by rfl)
    (hg : Gl X x := by rfl) (hdb : (x == ("__debug__" : Str)) = false := by decide) (he : starEach (e :: es) X.env = (false, eval e X.env) :: starEach es X.env := by rfl) (hpl : (backTo pos (starEach es X.env)).any (·.1) = false := by rfl) :
    Ev X σ w (.Call (.Name x p) (e :: es) [] pos) τ := by
  subst h1 h2 h3 h4 h5
  obtain ⟨f, fd, F, hm, hk, hb⟩ := c.ex
  exact fun w1 g Q q => toE (pe_call F hr hg hm hk hb .nil pass0 uA hdb he hpl) (ha w1 g _ fun vs w2 g2 hvs => by
    obtain ⟨i, hp, hi, hr2⟩ := kk vs _ hvs
    exact ⟨i, w2, rfl, hp, by rw [List.append_nil]; exact hi, fun v w' g' hv => q v w' (g2.trans g') (hr2 _ _ hv)⟩)
/-- name = [..], one of some kinds -/
theorem w_setLcS {ι : Type} {Pp : ι → Prop} {κ : ι → Ty} (i : Nat) {y : Str} {py : Pos} {elt : Expr} {gs : List Comprehension} {scope : Scope} (S : Sl w.G σ ds) (h : LcV X σ w (.ListComp elt gs scope pos) (some_ Pp κ)) {spos : Pos} (k : ∀ z σ' w', Pp z → Grow w w' → Sl w'.G σ' (ds.set i (some (κ z))) → wS X rest D σ' w'.H)
    (hi : X.N[i]? = some y := by rfl) (hl : X.env.scope.names.lookup y = some .local := by rfl) (hs : swapsWith (.ListComp elt gs scope pos) (some (.Name y py)) spos.line X.env = pure true := by exact sw_true rfl rfl rfl rfl) :
    wS X (.Assign [.Name y py] (.ListComp elt gs scope pos) spos :: rest) D σ w.H :=
  wS_cons (h.st i y py spos hi hl hs _ fun v w' g ⟨z, hz, hv⟩ => k z _ w' hz g ((S.mono g.g).put hv i))
theorem ifE {c : Bool} (h1 : Tv X σ w e c) (h2 : c = true → Ev X σ w a τ) (h3 : c = false → Ev X σ w b τ) : Ev X σ w (.IfExp e a b pos) τ := by
  cases c with
  | true => exact ifT h1 (h2 rfl)
  | false => exact ifF h1 (h3 rfl)
/-- if not _law_refused_right(box, machine): .. -/
theorem w_ifRef {M TP : Addr} {T : Tb} {n : Nat} {B : List Stmt} {rp np : Pos} {pst : Array Value} (c : CRef X.prog X.w X.K X.mg X.base M TP) (hr : Room 10 X.A) (hgd : X.A.guards = some []) (hM : MOk T n) (ha : Av X σ w [a, b] [boxT, mchT X.K M T n]) (ow : Own w TP (.tbl pst)) (tok : TblOk qRef w.G pst)
    (k : ∀ w' ps', GrowB TP w w' → Own w' TP (.tbl ps') → TblOk qRef w'.G ps' → wS X rest D σ w'.H)
    (hg : Gl X "_law_refused_right" := by rfl) (he : starEach [a, b] X.env = (false, eval a X.env) :: starEach [b] X.env := by rfl) (hpl : (backTo rp (starEach [b] X.env)).any (·.1) = false := by rfl)
    (ht : ∀ whole, isTrue (.Call (.Name "_law_refused_right" p) [a, b] [] rp) X.env whole = (do let v ← whole; standAt (Expr.Call (.Name "_law_refused_right" p) [a, b] [] rp).pos; holding [v] (truthy v)) := by intro _; rfl) :
    wS X (.If (.UnaryOp .Not (.Call (.Name "_law_refused_right" p) [a, b] [] rp) np) B [] pos :: rest) D σ w.H := by
  obtain ⟨f, fd, F, hm, hk, hb⟩ := c.ex
  refine wS_cons (toS1 (ps_if (pt_not (pt_val (pe_callG F hr hgd hg hm hk hb uA (by decide) he hpl) ht)) uS uS) (ha w (Grow.refl _) _ fun vs w2 g2 hvs => ?_))
  exact ⟨(T, n), w2, pst, rfl, hM, hvs, ow.grow g2, tok.mono g2.g, fun w' ps' gB own' tok' => ⟨true, rfl, iteF (wS_nil (k w' ps' (g2.b.trans gB) own' tok'))⟩⟩
end
theorem shw_int {r : Nat} (h : r ≤ 1000) : Shw (.int (r : Nat)) := by
  refine ⟨?_, rfl, Nat.zero_le _, Nat.le_trans (PyData.shown_int_le (by show ((r : Nat) : Int).natAbs < 10 ^ 12; omega)) (by decide)⟩
  simp only [PyData.showable, decide_eq_true_eq]
  have h1 : ((r : Nat) : Int).natAbs = r := by omega
  rw [h1]
  by_cases h0 : r = 0
  · subst h0
    decide
  · exact (Nat.log2_lt h0).mpr (Nat.lt_of_le_of_lt h (Nat.lt_of_lt_of_le (by decide : 1000 < 2 ^ 10) (Nat.pow_le_pow_right (by decide) (by decide))))
theorem shw_opt {o : Option Nat} (h : ∀ r, o = some r → r ≤ 1000) : Shw (optD o) := by
  cases o with
  | none => exact ⟨rfl, rfl, Nat.zero_le _, by decide +kernel⟩
  | some r => exact shw_int (h r rfl)
theorem shw_bool (b : Bool) : Shw (.bool b) := by
  cases b <;> exact ⟨rfl, rfl, Nat.zero_le _, by decide +kernel⟩
theorem vals_rev : ∀ {vs : List V} {us : List Value}, Vals vs us → Vals vs.reverse us.reverse
  | _, _, .nil => .nil
  | _, _, .cons h t => by
    rw [List.reverse_cons, List.reverse_cons]
    exact vals_app (vals_rev t) (.cons h .nil)
theorem isn_told {K : PySem.W.Frag} {o : Option Told} : Isn (dat K (otD o)) o.isNone := by
  cases o with
  | none => exact isn_none
  | some i => exact isn_dat (by intro h; cases h)
def flV : Option Nat → V
  | none => .non
  | some r => .int (r : Nat)
theorem fl_opt (o : Option Nat) : Fl (optD o) (flV o) := by
  cases o with
  | none => exact .non
  | some r => exact .int _
theorem scal_opt (o : Option Nat) : scal (flV o) (flV o) = true := by cases o <;> rfl
end K27
/-! ## Law5 -/
/-! The law itself. -/
namespace K27
open PySem L2 PySem.Spec PyProof.Rows
theorem pick_int {K : PySem.W.Frag} {v : V} {G : Hp} (h : (some_ (fun τ => τ ∈ [dat K (.int 2), dat K (.int 3), dat K (.int 1), dat K (.int 2), dat K (.int 0)]) id).p v G) : (intT K fun i => 0 ≤ i ∧ i ≤ 3).p v G := by
  obtain ⟨τ, hτ, hv⟩ := h
  simp only [List.mem_cons, List.not_mem_nil, or_false] at hτ
  rcases hτ with e | e | e | e | e <;> subst e <;> exact ⟨_, by decide, hv⟩
section
variable {P : Program} {w : World} {K : PySem.W.Frag} {mg : Str → Option Value} {base : Heap}
abbrev CLaw (P : Program) (w : World) (K : PySem.W.Frag) (mg : Str → Option Value) (base : Heap) (TP : Addr) : Prop := GCal P w K mg base 11 "law" p_law (fun vs H Q _ => ∃ (ns : List Int) (w0 : Wd) (ps : Array Value), w0.H = H ∧ ns.length ≤ 1000 ∧ Tys [dat K (.list (ns.map .int))] vs w0.G ∧ Own w0 TP (.tbl ps) ∧ TblOk qRef w0.G ps ∧ ∀ H', Q (.bl true) H')
/-- the kinds of the law's names -/
abbrev lawD (K : PySem.W.Frag) (M : Addr) (ns : List Int) (x n : Nat) (T : Tb) (l : List Nat) (os : List (Option Ty)) : List (Option Ty) :=
  [some (dat K (.list (ns.map .int))), some (dat K (.int (x : Nat))), some boxT, some (dat K (.int (n : Nat))), some (dat K (tbL T)), some (mchT K M T n), some (dat K (.list (natsD (List.range n)))), some (dat K (.list (natsD l)))] ++ os
theorem c_law {M TP : Addr} (B : Bu mg) (D : DefAt K mg "law" slaw p_law) (CB : CBox P w K mg base) (CK : CPick P w K mg base) (CT : CTake P w K mg base) (CM : CMach P w K mg base) (CI : CMini P w K mg base M) (CR : CRef P w K mg base M TP) (CO : CLround P w K mg base) (CL : CLleast P w K mg base) (CE : CLenough P w K mg base)
    (GL : CLeast P w K mg base M) (GN : CNpap P w K mg base M) (GH : CNhold P w K mg base M) (GE : CIsen P w K mg base M) : CLaw P w K mg base TP :=
  gdef_any (N := n_law) D sc_law (fun vs H Q E ⟨ns, w0, ps, _, _, t, _⟩ => t.length) fun f cdv A outer s H vs Q E hr hgd ⟨ns, w0, ps, eH, hl, ht, ow, tok, q⟩ => by
    subst eH
    have S := Sl.start (N := n_law) ht
    rw [ht.length] at S
    have hu : (A.deeper (envOfC "law" (defScope slaw) s.heap.objs.size f cdv)).units + 64 < cLine := hr.units
    show wS _ (_ :: _) _ _ _
    refine w_forM (D := { nx := fun _ H' => Q .non H', rt := Q }) (xs := List.range 2) (κ := fun (x : Nat) => dat K (.int (x : Nat))) 1 rfl PassesOwn.never sc_law.nd (ivR (n := 2) B.range_ ci (by decide))
      (fun i σ w' => Sl w'.G σ [some (dat K (.list (ns.map .int))), none, none, none, none, none, none, none, none, none, none, none, none, none, none, none, none] ∧ ∃ ps, Own w' TP (.tbl ps) ∧ TblOk qRef w'.G ps)
      (fun w' g => ⟨S.mono g.g, ps, ow.grow g, tok.mono g.g⟩) (fun i x σ' w3 w4 v hx hI g4 hv => ?_) (fun σ' w' hI => w_ret cb fun v w4 g4 hv => by
        rw [Dp.bool_iff hv]
        exact q _)
    obtain ⟨SI, ps4, ow4, tok4⟩ := hI
    have ow4 := ow4.grow g4
    have tok4 := tok4.mono g4.g
    have hx2 : x < 2 := List.mem_range.mp (List.mem_of_getElem? hx)
    have S4 := (SI.mono g4.g).put hv 1
    show wS _ (_ :: _) _ _ _
    refine w_set (τ := boxT) 2 sc_law.nd S4 (call_c CB (hr.mono (by decide)) (ns, x) ⟨hl, by show x < 1000; omega⟩ (ac (nm 0 S4) (ac (nm 1 S4) a0))) fun σ5 w5 g5 S5 => ?_
    refine w_setS 3 sc_law.nd S5 (addZ (Pa := fun i => i = 1) (Pb := fun i => 0 ≤ i ∧ i ≤ 3) (R := fun i => 1 ≤ i ∧ i ≤ 4) (iS ci rfl) ((call_c CK (hr.mono (by decide)) [dat K (.int 2), dat K (.int 3), dat K (.int 1), dat K (.int 2), dat K (.int 0)] ⟨by show (0 : Nat) < 5; decide, by show (5 : Nat) < 1000; decide⟩ (ac (nm 2 S5) (ac (lst_ (AvS.h ?_) (by show (5 : Nat) ≤ sizeLine; decide)) a0))).imp fun v G h => pick_int h) fun a b ha hb => by subst ha; omega) ?_
    · exact acs ci (acs ci (acs ci (acs ci (acs ci a0s))))
    intro z σ6 w6 hz g6 S6
    obtain ⟨n, rfl⟩ : ∃ n : Nat, z = (n : Int) := ⟨z.toNat, by omega⟩
    have n1 : 1 ≤ n := by omega
    have n4 : n ≤ 4 := by omega
    refine w_setS (Pp := fun T : Tb => MOk T n) (κ := fun T => dat K (tbL T)) 4 sc_law.nd S6 (call_S CM (τs := [boxT, dat K (.int (n : Nat)), intT K fun i => 1 ≤ i ∧ i ≤ 3]) (hr.mono (by decide)) (ac (nm 2 S6) (ac (nm 3 S6) (ac (addZ (Pa := fun i => i = 1) (Pb := fun i => 0 ≤ i ∧ i < ((3 : Nat) : Int)) (iS ci rfl) (call_c CT (hr.mono (by decide)) 3 (by decide) (ac (nm 2 S6) (ac ci a0))) fun a b ha hb => by subst ha; omega) a0))) fun vs G hvs => ?_) ?_
    · cases hvs with
      | cons h1 t =>
        cases t with
        | cons h2 t =>
          cases t with
          | cons h3 t =>
            cases t
            obtain ⟨d, hd, h3⟩ := h3
            obtain ⟨d, rfl⟩ : ∃ d' : Nat, d = (d' : Int) := ⟨d.toNat, by omega⟩
            exact ⟨(n, d), ⟨⟨n1, n4⟩, by show d ≤ 100; omega⟩, .cons h1 (.cons h2 (.cons h3 .nil)), fun v G' ⟨T, hT, hv⟩ => ⟨T, ⟨n1, n4, by rw [hT.1]; show 1 ≤ d; omega, by rw [hT.1]; show d ≤ 3; omega, fun t ht => (hT.2 t ht).1, fun t ht => (hT.2 t ht).2⟩, hv⟩⟩
    intro T σ7 w7 hM g7 S7
    have hM : MOk T n := hM
    refine w_par (τ1 := mchT K M T n) (τ2 := dat K (.list (natsD (List.range n)))) 5 6 rfl sc_law.nd S7 (ac (make_c CI (hr.mono (by decide)) (T, n) hM (ac (nm 4 S7) a0)) (ac (ofL (eqL ?_ (listR (n := (n : Int)) rfl B.list_ B.range_ (nm 3 S7) ⟨by omega, by omega⟩))) a0)) fun σ8 w8 g8 S8 => ?_
    · unfold rngT natsD
      rw [List.map_map, Int.toNat_natCast]
      refine List.map_congr_left fun i _ => ?_
      show dat K (.int (0 + (i : Nat) * 1)) = dat K (.int (i : Nat))
      rw [Int.zero_add, Int.mul_one]
    refine w_setLcS (Pp := fun l : List Nat => l.Sublist (List.range n)) (κ := fun l => lstT K (l.map fun (i : Nat) => dat K (.int i))) 7 S8 (lcU (xs := List.range n) (κ := fun (i : Nat) => dat K (.int i)) [("_law_state", 16)] 16 (fun (i : Nat) => dat K (.int i)) rfl sc_law.nd S8 (eqI_ (by unfold natsD; rw [List.map_map]; rfl) (ivL (xs := natsD (List.range n)) (nm 6 S8))) (by rw [List.length_range]; omega)
      (fun i y σ9 w9 hy g9 S9 s0 H0 C cl fp => gtU (call_c CT (hr.mono (by decide)) 3 (by decide) (ac (nm 2 S9) (ac ci a0))) (iS (R := fun _ => True) ci True.intro))
      (fun i y σ9 w9 hy g9 S9 s0 H0 C cl fp => nm 16 S9)) fun l σ9 w9 hl9 g9 S9 => ?_
    have hl9 : l.Sublist (List.range n) := hl9
    have S9 : Sl w9.G σ9 (lawD K M ns x n T l [none, none, none, none, none, none, none, none, none]) := S9.retype (τ := lstT K (l.map fun (i : Nat) => dat K (.int i))) (τ' := dat K (.list (natsD l))) 7 (by
      obtain ⟨v, e1, e2⟩ := S9.get (i := 7) (τ := lstT K (l.map fun (i : Nat) => dat K (.int i))) rfl
      exact ⟨v, e1, dat_list.mpr (by unfold natsD; rw [List.map_map]; exact e2)⟩)
    have G9 := (((g5.trans g6).trans g7).trans g8).trans g9
    refine w_ifRef CR hr hgd hM (ac (nm 2 S9) (ac (nm 5 S9) a0)) (ow4.grow G9) (tok4.mono G9.g) fun w10 ps10 gB own10 tok10 => ?_
    have S10 : Sl w10.G σ9 (lawD K M ns x n T l [none, none, none, none, none, none, none, none, none]) := S9.mono gB.g
    obtain ⟨L, hL⟩ : ∃ L, L = if l.isEmpty then List.range n else l := ⟨_, rfl⟩
    have hLs : L.Sublist (List.range n) := by
      rw [hL]
      split
      · exact List.Sublist.refl _
      · exact hl9
    have hLn : L ≠ [] := by
      rw [hL]
      cases l with
      | nil =>
        intro z
        have := congrArg List.length z
        simp at this
        omega
      | cons a b => simp
    have LO : LotOk n (some L) := ⟨fun S e => by cases e; exact hLn, fun S e => by cases e; exact List.Pairwise.sublist hLs List.pairwise_lt_range, fun S e p hp => by cases e; exact List.mem_range.mp (hLs.subset hp), fun S e => by
      cases e
      have := hLs.length_le
      rw [List.length_range] at this
      omega⟩
    have hlay : ∀ y ∈ natsD l, Lay1 y := fun y hy => by
      obtain ⟨i, _, e⟩ := List.mem_map.mp hy
      rw [← e]
      exact lay_int _
    refine w_forM (xs := [none, some L]) (κ := fun So => dat K (lotD So)) 8 rfl PassesOwn.never sc_law.nd (eqI_ rfl (iv_tup (tup_ (τs := [dat K .none, dat K (.list (natsD L))]) (ac cn (ac (ifE (c := !l.isEmpty) (eqT (by unfold natsD; rw [List.isEmpty_map]) (t_neNil (xs := natsD l) hu (nm 7 S10) hlay)) (fun hc => ?_) (fun hc => ?_)) a0)))))
      (fun i σ w' => Same w10.G w'.G ∧ Sl w'.G σ (lawD K M ns x n T l [none, none, none, none, none, none, none, none, none]) ∧ ∃ ps, Own w' TP (.tbl ps) ∧ TblOk qRef w'.G ps)
      (fun w' g => ⟨g.g, S10.mono g.g, ps10, own10.grow g, tok10.mono g.g⟩) (fun i So σ' w11 w12 v hSo hJ g12 hv => ?_) (fun σ' w' hJ => ?_)
    · have e : L = l := by
        rw [hL]
        cases q : l.isEmpty with
        | true =>
          rw [q] at hc
          cases hc
        | false => rfl
      rw [e]
      exact nm 7 S10
    · have e : L = List.range n := by
        rw [hL]
        cases q : l.isEmpty with
        | true => rfl
        | false =>
          rw [q] at hc
          cases hc
      rw [e]
      exact nm 6 S10
    · obtain ⟨sJ, SJ, psJ, owJ, tokJ⟩ := hJ
      have LS : LotOk n So := by
        rcases List.mem_cons.mp (List.mem_of_getElem? hSo) with e | e
        · rw [e]
          exact lot_none n
        · rw [List.mem_singleton.mp e]
          exact LO
      have S12 : Sl w12.G (σ'.set 8 (some v)) (lawD K M ns x n T l [some (dat K (lotD So)), none, none, none, none, none, none, none, none]) := (SJ.mono g12.g).put hv 8
      have ow12 := owJ.grow g12
      have tok12 := tokJ.mono g12.g
      generalize σ'.set 8 (some v) = σ12 at S12
      have hlt : ∀ p ∈ lotOf n So, p < n := fun p hp => LS.lot_lt hp
      have isn_lot : Isn (dat K (lotD So)) So.isNone := by
        cases So with
        | none => exact isn_none
        | some S' => exact isn_dat (by intro h; cases h)
      show wS _ (_ :: _) _ _ _
      refine w_setS (Pp := fun o : Option Told => ∀ t, o = some t → TldOk T n (lotOf n So) t) (κ := fun o => dat K (otD o)) 9 sc_law.nd S12 (call_g CO (hr.mono (by decide)) hgd (T, n, lotOf n So) ⟨hM, hlt, LS.lot_len n4⟩ (ac (nm 4 S12) (ac (ifE (t_isN (nm 8 S12) isn_lot) (fun hc => ?_) (fun hc => ?_)) (ac ci a0)))) fun o σ13 w13 ho g13 S13 => ?_
      · cases So with
        | none => exact nm 6 S12
        | some S' => cases hc
      · cases So with
        | none => cases hc
        | some S' => exact nm 8 S12
      have ow13 := ow12.grow g13
      have tok13 := tok12.mono g13.g
      have s13 : Same w12.G w13.G := g13.g
      cases o with
      | none => exact w_when (b := true) (t_isN (nm 9 S13) isn_told) (fun _ w14 g14 => w_cont ⟨w14, rfl, g13.g.trans g14.g, (sJ.trans g12.g).trans (g13.g.trans g14.g), (((S13.mono g14.g).forget 8).forget 9), psJ, ow13.grow g14, tok13.mono g14.g⟩) (fun h => nomatch h)
      | some t =>
        have hT : TldOk T n (lotOf n So) t := ho t rfl
        obtain ⟨r, hrL, hrA⟩ := due_ex (bo := none) hM LS hT (fun b e => nomatch e)
        have hb : ∀ b, 1 ≤ b → b ≤ 9 → ∃ m, LlOk (t, some b, some m) ∧ LArg.Ok ⟨T, n, So, some b, some m⟩ := fun b b1 b9 => by
          obtain ⟨rb, h1, h2⟩ := due_ex (bo := some b) hM LS hT (fun b' e => by cases e; omega)
          cases rb with
          | none => exact nomatch (h2.none_ rfl).1
          | some m => exact ⟨m, h1, h2⟩
        obtain ⟨mb, mb0, mbs⟩ : ∃ mb : Nat → Nat, mb 0 = 1 ∧ ∀ b, 1 ≤ b → b ≤ 9 → LlOk (t, some b, some (mb b)) ∧ LArg.Ok ⟨T, n, So, some b, some (mb b)⟩ := by
          refine ⟨fun b => if h : 1 ≤ b ∧ b ≤ 9 then (hb b h.1 h.2).choose else 1, dif_neg (by omega), fun b b1 b9 => ?_⟩
          have e : (fun b => if h : 1 ≤ b ∧ b ≤ 9 then (hb b h.1 h.2).choose else 1) b = (hb b b1 b9).choose := dif_pos ⟨b1, b9⟩
          rw [e]
          exact (hb b b1 b9).choose_spec
        have lst : ∀ b, 1 ≤ b → b ≤ 9 → LeastIs T n (lotOf n So) (some b) (mb b) := fun b b1 b9 => ((mbs b b1 b9).2.some_ _ rfl).2.2
        have mle : ∀ b, 1 ≤ b → b ≤ 9 → mb b ≤ b := fun b b1 b9 => (lst b b1 b9).le_of b1 enough_self
        have mono : ∀ i, i < 9 → mb i ≤ mb (i + 1) := fun i hi => by
          rcases Nat.eq_zero_or_pos i with e | e
          · subst e
            rw [mb0]
            exact (lst 1 (by omega) (by omega)).m1
          · exact (lst i e (by omega)).mono (lst (i + 1) (by omega) (by omega)) fun x e => by cases e; exact ⟨i, rfl, by omega⟩
        have mdue : ∀ d, r = some d → ∀ b, 1 ≤ b → b ≤ 9 → mb b ≤ d := fun d e b b1 b9 => by
          subst e
          exact (lst b b1 b9).mono (hrA.some_ d rfl).2.2 fun x e => nomatch e
        have shr : Shw (optD r) := shw_opt fun d e => (hrA.some_ d e).1
        have bnd : ∀ q ∈ [(("bound" : Str), V.non)], q ∈ kwSB := fun q hq => by
          rw [List.mem_singleton.mp hq]
          exact List.mem_cons_of_mem _ List.mem_cons_self
        refine w_when (b := false) (t_isN (nm 9 S13) isn_told) (fun h => nomatch h) (fun _ w14 g14 => ?_)
        have S14 := S13.mono g14.g
        refine w_set (τ := dat K (optD r)) 10 sc_law.nd S14 (call_c CL (hr.mono (by decide)) (t, none, r) hrL (ac (nm 9 S14) (ac cn a0))) fun σ15 w15 g15 S15 => ?_
        refine w_when (b := false) (ww (orF (eqT (by simp) (t_neF (repr_ hgd hu B.repr_ (d := optD r) (kcall (ks := ["states"]) 1 [("bound", .non)] (fun vs ms zs => vs ++ zs ++ ms) GL (hr.mono (by decide)) ⟨T, n, So, none, r⟩ hrA (ac (nm 5 S15) a0) (kc (nm 8 S15) k0) rfl bnd (by simp) (fun vs zs G h1 h2 => Tys.append (Tys.append h1 h2) (.cons (by exact Dp.non) .nil)) (fun h1 h2 h3 => vals_app (vals_app h1 h3) h2) ?_ rfl) shr) (repr_ hgd hu B.repr_ (nm 10 S15) shr) (.str _) (.str _) rfl))
          (or1 (eqT (by simp) (t_neF (kcall0 (ks := ["bound", "states", "machine"]) [] (fun _ _ zs => zs.reverse) GL (hr.mono (by decide)) ⟨T, n, So, none, r⟩ hrA (kc cn (kc (nm 8 S15) (kc (nm 5 S15) k0))) (fun q h => nomatch h) (by simp) (fun zs G h => Tys.reverse h) (fun h1 h2 h3 => vals_rev h3) ?_ rfl) (nm 10 S15) (fl_opt r) (fl_opt r) (scal_opt r)))))) (fun h => nomatch h) (fun _ w16 g16 => ?_)
        · intro D doc pm an cdv ct us mv ws h1 h2 h3
          match us, mv, ws, h1, h2, h3 with
          | [_], [_], [_], _, _, _ => exact ⟨_, _, _, _, _, _, rfl, rfl, rfl⟩
        · intro D doc pm an cdv ct us mv ws h1 h2 h3
          match us, mv, ws, h1, h2, h3 with
          | [], [], [_, _, _], _, _, _ => exact rfl
        have S16 := S15.mono g16.g
        refine w_setS 11 sc_law.nd S16 (kcall (ks := ["states"]) 1 [] (fun vs _ zs => vs ++ zs) GN (hr.mono (by decide)) (T, n, So) ⟨hM, LS⟩ (ac (nm 5 S16) a0) (kc (nm 8 S16) k0) rfl (fun q h => nomatch h) (by simp) (fun vs zs G h1 h2 => Tys.append h1 h2) (fun h1 h2 h3 => vals_app h1 h3) ?_ rfl) fun o2 σ17 w17 ho2 g17 S17 => ?_
        · intro D doc pm an cdv ct us mv ws h1 h2 h3
          match us, mv, ws, h1, h2, h3 with
          | [_], [], [_], _, _, _ => exact rfl
        have hrn : r.isNone = !o2.isNone := by
          cases r with
          | none =>
            obtain ⟨_, p, hp, hpb⟩ := hrA.none_ rfl
            cases o2 with
            | none =>
              have := ho2.1.mp rfl p hp
              rw [this] at hpb
              cases hpb
            | some d => rfl
          | some d =>
            have := (hrA.some_ d rfl).2.1 rfl
            rw [ho2.1.mpr this]
            rfl
        refine w_when (b := false) (ww (orF (eqT ?_ (t_neF (isN (nm 11 S17) isn_pap) (notN (nm 10 S17) isn_opt) (.bl _) (.bl _) rfl)) (or1 (ww ?_)))) (fun h => nomatch h) (fun _ w18 g18 => ?_)
        · rw [hrn, Bool.not_not]
          simp
        · cases o2 with
          | none => exact andF (t_notN (nm 11 S17) isn_none)
          | some d =>
            obtain ⟨hd1, hd2⟩ := ho2.2 d rfl
            refine andT (t_notN (nm 11 S17) (isn_dat (by intro h; cases h))) (and1 (eqT rfl (t_notTrue (c := true) (d := true) (kcall (ks := ["states"]) 2 [] (fun vs _ zs => vs ++ zs) GH (hr.mono (by decide)) ⟨T, n, So, d⟩ ⟨hM, LS, hd2, hd1⟩ (ac (nm 5 S17) (ac (nm 11 S17) a0)) (kc (nm 8 S17) k0) rfl (fun q h => nomatch h) (by simp) (fun vs zs G h1 h2 => Tys.append h1 h2) (fun h1 h2 h3 => vals_app h1 h3) ?_ rfl) cb)))
            intro D doc pm an cdv ct us mv ws h1 h2 h3
            match us, mv, ws, h1, h2, h3 with
            | [_, _], [], [_], _, _, _ => exact rfl
        have S18 := S17.mono g18.g
        refine w_set (τ := dat K (.int (1 : Nat))) 12 sc_law.nd S18 ci fun σ19 w19 g19 S19 => ?_
        have G19 := (((((g13.trans g14).trans g15).trans g16).trans g17).trans g18).trans g19
        have S19 : Sl w19.G σ19 (lawD K M ns x n T l [some (dat K (lotD So)), some (dat K (otD (some t))), some (dat K (optD r)), some (dat K (papD o2)), some (dat K (.int (mb 0 : Nat))), none, none, none, none]) := by
          rw [mb0]
          exact S19
        have ow19 := ow12.grow G19
        have tok19 := tok12.mono G19.g
        refine w_forM (xs := List.range 9) (κ := fun (i : Nat) => dat K (.int ((i + 1 : Nat) : Nat))) 13 rfl PassesOwn.never sc_law.nd (eqI_ ?_ (iv_rng2 B.range_ ci ci (by decide)))
          (fun i σ w' => Same w19.G w'.G ∧ Sl w'.G σ (lawD K M ns x n T l [some (dat K (lotD So)), some (dat K (otD (some t))), some (dat K (optD r)), some (dat K (papD o2)), some (dat K (.int (mb i : Nat))), none, none, none, none]) ∧ ∃ ps, Own w' TP (.tbl ps) ∧ TblOk qRef w'.G ps)
          (fun w' g => ⟨g.g, S19.mono g.g, psJ, ow19.grow g, tok19.mono g.g⟩) (fun i b σ' w20 w21 v hbi hB g21 hv => ?_) (fun σ' w' hB => ?_)
        · unfold rngT
          refine List.map_congr_left fun i _ => ?_
          show dat K (.int (1 + (i : Nat) * 1)) = dat K (.int ((i + 1 : Nat) : Nat))
          rw [Int.mul_one, show (1 : Int) + (i : Nat) = ((i + 1 : Nat) : Int) by omega]
        · obtain ⟨sB, SB, psB, owB, tokB⟩ := hB
          have ebi := (List.getElem?_eq_some_iff.mp hbi).2
          have hi := (List.getElem?_eq_some_iff.mp hbi).1
          rw [List.length_range] at hi
          rw [List.getElem_range] at ebi
          subst ebi
          obtain ⟨mL, mA⟩ := mbs (i + 1) (by omega) (by omega)
          have m9 := mle (i + 1) (by omega) (by omega)
          have mm := mono i hi
          have S21 : Sl w21.G (σ'.set 13 (some v)) (lawD K M ns x n T l [some (dat K (lotD So)), some (dat K (otD (some t))), some (dat K (optD r)), some (dat K (papD o2)), some (dat K (.int (mb i : Nat))), some (dat K (.int ((i + 1 : Nat) : Nat))), none, none, none]) := (SB.mono g21.g).put hv 13
          generalize σ'.set 13 (some v) = σ21 at S21
          have shm : Shw (optD (some (mb (i + 1)))) := shw_int (by omega)
          show wS _ (_ :: _) _ _ _
          refine w_set (τ := dat K (.int (mb (i + 1) : Nat))) 14 sc_law.nd S21 (call_c CL (hr.mono (by decide)) (t, some (i + 1), some (mb (i + 1))) mL (ac (nm 9 S21) (ac (nm 13 S21) a0))) fun σ22 w22 g22 S22 => ?_
          refine w_when (b := false) (ww (orF (eqT (by simp) (t_neF (repr_ hgd hu B.repr_ (d := optD (some (mb (i + 1)))) (kcall (ks := ["states", "bound"]) 1 [] (fun vs _ zs => vs ++ zs) GL (hr.mono (by decide)) ⟨T, n, So, some (i + 1), some (mb (i + 1))⟩ mA (ac (nm 5 S22) a0) (kc (nm 8 S22) (kc (nm 13 S22) k0)) rfl (fun q h => nomatch h) (by simp) (fun vs zs G h1 h2 => Tys.append h1 h2) (fun h1 h2 h3 => vals_app h1 h3) ?_ rfl) shm) (repr_ hgd hu B.repr_ (d := optD (some (mb (i + 1)))) (nm 14 S22) shm) (.str _) (.str _) rfl))
            (or1 (tnF (eqT ?_ (t_chain (nm 12 S22) (nm 14 S22) (nm 13 S22))))))) (fun h => nomatch h) (fun _ w23 g23 => ?_)
          · intro D doc pm an cdv ct us mv ws h1 h2 h3
            match us, mv, ws, h1, h2, h3 with
            | [_], [], [_, _], _, _, _ => exact rfl
          · rw [decide_eq_true (show ((mb i : Nat) : Int) ≤ (mb (i + 1) : Nat) by omega), decide_eq_true (show ((mb (i + 1) : Nat) : Int) ≤ ((i + 1 : Nat) : Nat) by omega)]
            rfl
          have S23 := S22.mono g23.g
          refine w_when (b := false) (ww ?_) (fun h => nomatch h) (fun _ w24 g24 => ?_)
          · cases r with
            | none => exact andF (t_notN (nm 10 S23) isn_none)
            | some d =>
              have := mdue d rfl (i + 1) (by omega) (by omega)
              exact andT (t_notN (nm 10 S23) (isn_dat (by intro h; cases h))) (and1 (eqT (decide_eq_false (by omega)) (t_gt (i := ((mb (i + 1) : Nat) : Int)) (j := ((d : Nat) : Int)) (nm 14 S23) (nm 10 S23))))
          have S24 := S23.mono g24.g
          have owB' := (((owB.grow g21).grow g22).grow g23).grow g24
          have tokB' := (((tokB.mono g21.g).mono g22.g).mono g23.g).mono g24.g
          refine w_set (τ := dat K (.int (mb (i + 1) : Nat))) 12 sc_law.nd S24 (nm 14 S24) fun σ25 w25 g25 S25 => wS_nil ⟨w25, rfl, (((g22.g.trans g23.g).trans g24.g).trans g25.g), (((((sB.trans g21.g).trans g22.g).trans g23.g).trans g24.g).trans g25.g), ((S25.forget 13).forget 14), psB, owB'.grow g25, tokB'.mono g25.g⟩
        · obtain ⟨sB, SB, psB, owB, tokB⟩ := hB
          refine w_setS 15 sc_law.nd SB (addZ (Pa := fun i => i = 1) (Pb := fun i => 0 ≤ i ∧ i < ((12 : Nat) : Int)) (R := fun i => 1 ≤ i ∧ i ≤ 12) (iS ci rfl) (call_c CT (hr.mono (by decide)) 12 (by decide) (ac (nm 2 SB) (ac ci a0))) fun a b ha hb => by subst ha; omega) fun z σ26 w26 hz g26 S26 => ?_
          obtain ⟨m, rfl⟩ : ∃ m : Nat, z = (m : Int) := ⟨z.toNat, by omega⟩
          have m1 : 1 ≤ m := by omega
          have m12 : m ≤ 12 := by omega
          have hen : enB t m none = true ↔ Enough T n (lotOf n So) m none := (enB_iff hT m1 fun b (e : (none : Option Nat) = some b) => nomatch e).trans en_iff.symm
          have G26 : Same w12.G w26.G := (G19.g.trans sB).trans g26.g
          refine w_when (b := false) (eqT (by simp) (t_neF (repr_ hgd hu B.repr_ (d := .bool (enB t m none)) (kcall (ks := ["states"]) 2 [("bound", .non)] (fun vs ms zs => vs ++ zs ++ ms) GE (hr.mono (by decide)) (⟨T, n, So, m⟩, enB t m none) ⟨⟨hM, LS, m1, m12⟩, hen⟩ (ac (nm 5 S26) (ac (nm 15 S26) a0)) (kc (nm 8 S26) k0) rfl bnd (by simp) (fun vs zs G h1 h2 => Tys.append (Tys.append h1 h2) (.cons (by exact Dp.non) .nil)) (fun h1 h2 h3 => vals_app (vals_app h1 h3) h2) ?_ rfl) (shw_bool _))
            (repr_ hgd hu B.repr_ (d := .bool (enB t m none)) (call_c CE (hr.mono (by decide)) (t, m, none) ⟨hT.td, m1, by show m ≤ 1000; omega, fun b e => nomatch e⟩ (ac (nm 9 S26) (ac (nm 15 S26) (ac cn a0)))) (shw_bool _)) (.str _) (.str _) rfl)) (fun h => nomatch h) (fun _ w27 g27 => wS_nil ⟨w27, rfl, G26.trans g27.g, (sJ.trans g12.g).trans (G26.trans g27.g), ((((((S26.mono g27.g).forget 8).forget 9).forget 10).forget 11).forget 12).forget 15, psB, (owB.grow g26).grow g27, (tokB.mono g26.g).mono g27.g⟩)
          intro D doc pm an cdv ct us mv ws h1 h2 h3
          match us, mv, ws, h1, h2, h3 with
          | [_, _], [_], [_], _, _, _ => exact ⟨_, _, _, _, _, _, rfl, rfl, rfl⟩
    · obtain ⟨sJ, SJ, psJ, owJ, tokJ⟩ := hJ
      exact wS_nil ⟨w', rfl, (G9.g.trans gB.g).trans sJ, (((((((SJ.forget 1).forget 2).forget 3).forget 4).forget 5).forget 6).forget 7), psJ, owJ, tokJ⟩
end
end K27
/-! ## LEnd -/
/-! The end: the law called where no repr is under way, beside one table of code objects. -/
namespace K27
open PySem L2 PySem.Spec PyProof.Rows
open LamX (TabB)
/-- what is tracked at the entry: the table at P; the script's list at a, unless it is known -/
def entH (P a : Addr) (known : Bool) (o : Obj) (xs : List V) : Hp := fun b => if b = P then some (.tbl #[]) else if b = a then (if known then none else some (.frz o (.lst xs))) else none
abbrev scrO (vs : List Value) : Obj := { cls := .type "list", data := .seq vs.toArray }
abbrev tabE : Obj := { cls := .none, data := .fields #[] }
section
variable {P a : Addr} {known : Bool} {o : Obj} {xs : List V}
theorem ent_P : entH P a known o xs P = some (.tbl #[]) := if_pos rfl
theorem ent_a (h : a ≠ P) : entH P a known o xs a = if known then none else some (.frz o (.lst xs)) := (if_neg h).trans (if_pos rfl)
theorem ent_no {b : Addr} (h1 : b ≠ P) (h2 : b ≠ a) : entH P a known o xs b = none := (if_neg h1).trans (if_neg h2)
/-- a tracked thing is one of the two -/
theorem ent_two {b : Addr} {u : HO} (h : entH P a known o xs b = some u) : (b = P ∧ u = .tbl #[]) ∨ (b = a ∧ b ≠ P ∧ known = false ∧ u = .frz o (.lst xs)) := by
  by_cases h1 : b = P
  · rw [h1, ent_P] at h
    exact .inl ⟨h1, (Option.some.inj h).symm⟩
  · by_cases h2 : b = a
    · subst h2
      rw [ent_a h1] at h
      cases known with
      | true => cases h
      | false => exact .inr ⟨rfl, h1, rfl, (Option.some.inj h).symm⟩
    · rw [ent_no h1 h2] at h
      cases h
end
/-- the law's run from the entry -/
theorem law_ends {P : Program} {w : World} {K : PySem.W.Frag} {mg mb : Str → Option Value} {k : Nat} {f a c TP : Addr} {x y : Str} {sp : Sp} {s : Shared} {vs : List Value} {ns : List Int}
    (hK : K.In s.heap) (hG : s.heap.Ns mainGlobals mg) (hB : s.heap.Ns builtinsNs mb) (hB2 : ∀ y : Str, y ≠ "__name__" → mb y = bootBuiltins y) (hN : s.heap.NoLimit) (hgen : s.gens = #[])
    (hP : s.heap.get? TP = some tabE) (hPK : K.lookup TP = none) (hC : PySem.W.CodeHd s.heap c TP)
    (hM : ∃ (m : Addr) (om : Obj), mg "__builtins__" = some (.ref m) ∧ m ≠ builtinsNs ∧ s.heap.get? m = some om ∧ om.cls = .type "module" ∧ om.dict = some builtinsNs ∧ om.data = .plain)
    (ha : s.heap.get? a = some (scrO vs)) (hi : IntsAre vs ns) (hl : ns.length ≤ sizeLine) (hr : Room k callerA) (hf : mg y = some (.ref f)) (hF : ∀ base : Heap, K.In base → base.Ns mainGlobals mg → TabB base mg c TP → GCal P w K mg base k y [x] sp)
    (hsp : ∀ H : Hp, H TP = some (.tbl #[]) → a ≠ TP → SqL K H a (ns.map V.int) → sp [.ref a] H (fun v _ => v = .bl true) fun _ _ _ => False) :
    codeAny (model P w) callerA (.call (.ref f) ⟨[.ref a], []⟩) (fun r s' => r = .ok (.ret (.bool true)) ∧ OldK s.heap s'.heap ∧ s'.os = s.os ∧ AllBare s'.gens) s := by
  have aP : a ≠ TP := fun z => by
    rw [z, hP] at ha
    cases ha
  obtain ⟨H, eH⟩ : ∃ H, H = entH TP a (K.lookup a).isSome (scrO vs) (ns.map V.int) := ⟨_, rfl⟩
  -- neither list nor empty table: not tracked
  have apart : ∀ {b : Addr} {ob : Obj}, s.heap.get? b = some ob → (∀ its n, ob.data ≠ .seq its n) → ob.data ≠ .fields #[] → H b = none := fun {b ob} e n1 n2 => by
    cases q : H b with
    | none => rfl
    | some u =>
      rw [eH] at q
      rcases ent_two q with ⟨e1, _⟩ | ⟨e1, _, _, _⟩
      · rw [e1, hP] at e
        exact absurd (congrArg Obj.data (Option.some.inj e)).symm n2
      · rw [e1, ha] at e
        exact absurd (congrArg Obj.data (Option.some.inj e)).symm (n1 _ _)
  have apartK : ∀ {b : Addr} {ob : Obj}, K.lookup b = some ob → H b = none := fun {b ob} e => by
    cases q : H b with
    | none => rfl
    | some u =>
      rw [eH] at q
      rcases ent_two q with ⟨e1, _⟩ | ⟨e1, _, e3, _⟩
      · rw [e1, hPK] at e
        cases e
      · rw [← e1, e] at e3
        cases e3
  have seen : ∀ {b : Addr} {ob : Obj}, s.heap.get? b = some ob → H b = none → (hidT s.heap H).get? b = some ob := fun e n => hidT_get e n
  have dicts : ∀ {b : Addr} {m : Str → Option Value}, s.heap.Ns b m → (hidT s.heap H).Ns b m := fun {b m} ⟨ob, es, ep, e, hd, z⟩ => by
    refine ⟨ob, es, ep, seen e (apart e (fun its n q => ?_) fun q => ?_), hd, z⟩ <;> (rw [hd] at q; cases q)
  have kin : K.In (hidT s.heap H) := fun b ob e => seen (hK b ob e) (apartK e)
  have md : L2.Mod K mg (hidT s.heap H) := by
    obtain ⟨mc, h1, h2⟩ := hN
    exact ⟨kin, dicts hG, ⟨mb, dicts hB, hB2⟩, mc, dicts h1, h2⟩
  have tb : TabB (hidT s.heap H) mg c TP := by
    obtain ⟨oc, us, fl, tf, fg, tg, fb, ft, tt, g1, g2, g3, g4, g5, g6, g7, g8, g9, g10⟩ := hC
    obtain ⟨m, om, m1, m2, m3, m4, m5, m6⟩ := hM
    have mG : m ≠ mainGlobals := fun z => by
      obtain ⟨og, es, ep, e, hd, _⟩ := hG
      rw [← z, m3] at e
      cases e
      rw [m6] at hd
      cases hd
    have mP : m ≠ TP := fun z => by
      rw [z, hP] at m3
      cases m3
      cases m6
    refine ⟨⟨oc, us, fl, tf, fg, tg, fb, ft, tt, seen g1 (apart g1 (fun its n q => ?_) fun q => ?_), g2, g3, g4, g5, g6, g7, g8, g9, g10⟩, ⟨m, om, m1, m2, mG, mP, seen m3 (apart m3 (fun its n q => ?_) fun q => ?_), m4, m5, m6⟩, fun z => ?_⟩
    · rw [g3] at q
      cases q
    · rw [g3] at q
      injection q with q
      rw [q] at g4
      simp at g4
    · rw [m6] at q
      cases q
    · rw [m6] at q
      cases q
    · obtain ⟨og, es, ep, e, hd, _⟩ := hG
      rw [z, hP] at e
      cases e
      cases hd
  have rel : Vals (ns.map V.int) vs := vals_ints hi
  have good : HOk P w H s.heap := fun b u q => by
    rw [eH] at q
    rcases ent_two q with ⟨e1, e2⟩ | ⟨e1, _, _, e2⟩
    · rw [e1, e2]
      exact hP
    · rw [e1, e2]
      exact ⟨ha, by rw [List.length_map]; exact hl, vs, _, rel, ha⟩
  have lst : SqL K H a (ns.map V.int) := by
    cases q : K.lookup a with
    | some ob =>
      have e := hK a ob q
      rw [ha] at e
      obtain rfl := Option.some.inj e
      exact .inr ⟨scrO vs, vs.toArray, _, q, rfl, rfl, rfl, by rw [List.size_toArray, hi.length]; exact hl, by simpa using rel⟩
    | none =>
      refine .inl (.inr ⟨scrO vs, ?_⟩)
      rw [eH, ent_a aP, q]
      rfl
  have trP : H TP = some (.tbl #[]) := by rw [eH, ent_P]
  have env : Env0 P w K mg (hidT s.heap H) callerA [] s H := ⟨rfl, md, fun b ob e => of_hidT e, Nat.le_of_eq (hidT_size _ _), trivial, fun b hb => absurd (show b ∈ ([] : List Addr) from hb) (by simp), good, .of_eq hgen⟩
  obtain ⟨f2, fd, run, hm, _, hbd⟩ := (hF _ kin (dicts hG) tb).ex
  have ef : f2 = f := by
    rw [hf] at hm
    injection hm with hm
    injection hm with hm
    exact hm.symm
  subst ef
  refine codeAny_mono (run.run callerA [] s H ⟨[.ref a], []⟩ [.ref a] [.ref a] _ _ hr rfl env (hbd s [.ref a] hK rfl) (.cons rfl .nil) (hsp H trP aP lst)) fun res s' hres => ?_
  match res, hres with
  | .error _, hres => exact (show False from hres).elim
  | .ok .next, hres => exact (show False from hres).elim
  | .ok .brk, hres => exact (show False from hres).elim
  | .ok .cont, hres => exact (show False from hres).elim
  | .ok (.ret u), ⟨v, H', hos, hbare, un, good', ru, ev⟩ =>
    have ev : v = .bl true := ev
    subst ev
    obtain rfl : u = Value.bool true := ru
    obtain ⟨more, hmore⟩ := un.tbls TP #[] trP
    have tabl : s'.heap.get? TP = some { cls := .none, data := .fields (#[] ++ more) } := good' TP _ hmore
    have kept : ∀ b ob, b ≠ TP → s.heap.get? b = some ob → s'.heap.get? b = some ob := fun b ob nb e => by
      cases q : H b with
      | none => exact un.keep b ob e q (fun z => absurd (show b ∈ ([] : List Addr) from z) (by simp)) (by simp)
      | some u =>
        have q' := q
        rw [eH] at q'
        rcases ent_two q' with ⟨e1, _⟩ | ⟨e1, _, _, e2⟩
        · exact absurd e1 nb
        · rw [e2] at q
          have e3 := (good' b _ (un.frzs b _ _ q)).1
          rw [e1, ha] at e
          rw [e1] at e3 ⊢
          rw [← e]
          exact e3
    refine ⟨rfl, ⟨fun b ob e => ?_, fun b ob e => ?_⟩, hos, hbare⟩
    · by_cases hb : b = TP
      · subst hb
        rw [hP] at e
        obtain rfl := Option.some.inj e
        exact .inr (.inl ⟨(hC.tab hP).isCodeTable, rfl, #[], more, rfl, tabl⟩)
      · exact .inl (kept b ob hb e)
    · by_cases hb : b = TP
      · subst hb
        exact ⟨_, tabl⟩
      · exact ⟨ob, kept b ob hb e⟩
/-- the law over a head that tells such facts -/
theorem law_walks {l : PySem.W.OpenLaw} {n k : Nat} {q : Program} {loose : List Str} {XP : (Str → Option Value) → Heap → Prop} {YP : World → Heap → Prop} {d : DefRec} {x : Str} (hn : l.most = some n) (hn2 : n ≤ sizeLine) (hdf : d.params.defaults = []) (hr : Room k callerA)
    (hF : ∀ (w : World) (mg : Str → Option Value) (f : Addr) (h : Heap), YP w h → h.Ns mainGlobals mg → mg d.name = some (.ref f) → ∃ (K : PySem.W.Frag) (c TP : Addr) (sp : Sp), K.In h ∧ h.get? TP = some tabE ∧ K.lookup TP = none ∧ PySem.W.CodeHd h c TP ∧
      (∀ (H : Hp) (a : Addr) (ns : List Int), ns.length ≤ n → H TP = some (.tbl #[]) → a ≠ TP → SqL K H a (ns.map V.int) → sp [.ref a] H (fun v _ => v = .bl true) fun _ _ _ => False) ∧
      ∀ base : Heap, K.In base → base.Ns mainGlobals mg → TabB base mg c TP → GCal l.prog w K mg base k d.name [x] sp) :
    PySem.W.WalkO q loose XP YP l.row.toRowW d [] (fun f vs => PySem.call f vs) := by
  refine Att.attach_callB hn hdf fun w s0 s mg mb f o pm cd doc a vs ns G Y ho hd hcd hmg hobj hints hlen _ hgen => ?_
  obtain ⟨K, c, TP, sp, h1, h2, h3, h4, h6, h7⟩ := hF w mg f _ Y G.T.g hmg
  exact law_ends h1 G.T.g G.T.b G.T.builtins G.T.nolimit hgen h2 h3 h4 G.T.bmain hobj hints (Nat.le_trans hlen hn2) hr hmg h7 fun H e1 e2 e3 => h6 H a ns hlen e1 e2 e3
end K27
/-! ## HFacts -/
/-! What the head is to tell of the defs, the classes and the names. -/
namespace K27
open PySem L2 PySem.Spec PyProof.Rows
def hFn0 : List He.DefD := [⟨("is_integer", none), "is_integer", "is_integer", defArgs sis_integer, defBody sis_integer, defScope sis_integer, [], []⟩, ⟨("is_number", none), "is_number", "is_number", defArgs sis_number, defBody sis_number, defScope sis_number, [], []⟩, ⟨("is_below", none), "is_below", "is_below", defArgs sis_below, defBody sis_below, defScope sis_below, [], []⟩, ⟨("is_sequence", none), "is_sequence", "is_sequence", defArgs sis_sequence, defBody sis_sequence, defScope sis_sequence, [], []⟩, ⟨("is_text", none), "is_text", "is_text", defArgs sis_text, defBody sis_text, defScope sis_text, [], []⟩, ⟨("is_ascending", none), "is_ascending", "is_ascending", defArgs sis_ascending, defBody sis_ascending, defScope sis_ascending, [], []⟩, ⟨("is_table", none), "is_table", "is_table", defArgs sis_table, defBody sis_table, defScope sis_table, [], []⟩, ⟨("check_tables", none), "check_tables", "check_tables", defArgs scheck_tables, defBody scheck_tables, defScope scheck_tables, [], []⟩, ⟨("check_starts", none), "check_starts", "check_starts", defArgs scheck_starts, defBody scheck_starts, defScope scheck_starts, [], []⟩, ⟨("behind", none), "behind", "behind", defArgs sbehind, defBody sbehind, defScope sbehind, [], []⟩, ⟨("check_bound", none), "check_bound", "check_bound", defArgs scheck_bound, defBody scheck_bound, defScope scheck_bound, [], []⟩, ⟨("paired", none), "paired", "paired", defArgs spaired, defBody spaired, defScope spaired, [], []⟩, ⟨("pair_walks", none), "pair_walks", "pair_walks", defArgs spair_walks, defBody spair_walks, defScope spair_walks, [], []⟩, ⟨("need_modulus", none), "need_modulus", "need_modulus", defArgs sneed_modulus, defBody sneed_modulus, defScope sneed_modulus, [], []⟩, ⟨("common_divisor", none), "common_divisor", "common_divisor", defArgs scommon_divisor, defBody scommon_divisor, defScope scommon_divisor, [], []⟩, ⟨("first_parting", none), "first_parting", "first_parting", defArgs sfirst_parting, defBody sfirst_parting, defScope sfirst_parting, [], []⟩, ⟨("log_back", none), "log_back", "log_back", defArgs slog_back, defBody slog_back, defScope slog_back, [], []⟩, ⟨("is_log", none), "is_log", "is_log", defArgs sis_log, defBody sis_log, defScope sis_log, [], []⟩, ⟨("is_none_enough", none), "is_none_enough", "is_none_enough", defArgs sis_none_enough, defBody sis_none_enough, defScope sis_none_enough, [], []⟩, ⟨("round_walk", none), "round_walk", "round_walk", defArgs sround_walk, defBody sround_walk, defScope sround_walk, [], []⟩]
def hFn1 : List He.DefD := [⟨("rounds_part", none), "rounds_part", "rounds_part", defArgs srounds_part, defBody srounds_part, defScope srounds_part, [], []⟩, ⟨("never_at", none), "never_at", "never_at", defArgs snever_at, defBody snever_at, defScope snever_at, [], []⟩, ⟨("_law_box", none), "_law_box", "_law_box", defArgs s_law_box, defBody s_law_box, defScope s_law_box, [], []⟩, ⟨("_law_take", none), "_law_take", "_law_take", defArgs s_law_take, defBody s_law_take, defScope s_law_take, [], []⟩, ⟨("_law_pick", none), "_law_pick", "_law_pick", defArgs s_law_pick, defBody s_law_pick, defScope s_law_pick, [], []⟩, ⟨("_law_machine", none), "_law_machine", "_law_machine", defArgs s_law_machine, defBody s_law_machine, defScope s_law_machine, [], []⟩, ⟨("_law_parts", none), "_law_parts", "_law_parts", defArgs s_law_parts, defBody s_law_parts, defScope s_law_parts, [], []⟩, ⟨("_law_round", none), "_law_round", "_law_round", defArgs s_law_round, defBody s_law_round, defScope s_law_round, [], []⟩, ⟨("_law_at", none), "_law_at", "_law_at", defArgs s_law_at, defBody s_law_at, defScope s_law_at, [], []⟩, ⟨("_law_is_enough", none), "_law_is_enough", "_law_is_enough", defArgs s_law_is_enough, defBody s_law_is_enough, defScope s_law_is_enough, [], []⟩, ⟨("_law_least", none), "_law_least", "_law_least", defArgs s_law_least, defBody s_law_least, defScope s_law_least, [], []⟩, ⟨("_law_heard", none), "_law_heard", "_law_heard", defArgs s_law_heard, defBody s_law_heard, defScope s_law_heard, [], []⟩, ⟨("_law_refused_right", none), "_law_refused_right", "_law_refused_right", defArgs s_law_refused_right, defBody s_law_refused_right, defScope s_law_refused_right, [], []⟩, ⟨("law", none), "law", "law", defArgs slaw, defBody slaw, defScope slaw, [], []⟩, ⟨("wrap_paper", none), "wrap_paper", "wrap_paper", defArgs swrap_paper, defBody swrap_paper, defScope swrap_paper, [], [("states", .non), ("bound", .non)]⟩, ⟨("is_enough", none), "is_enough", "is_enough", defArgs sis_enough, defBody sis_enough, defScope sis_enough, [], [("states", .non), ("bound", .non)]⟩, ⟨("wrap_holds", none), "wrap_holds", "wrap_holds", defArgs swrap_holds, defBody swrap_holds, defScope swrap_holds, [], [("states", .non), ("bound", .non)]⟩, ⟨("least_wrap", none), "least_wrap", "least_wrap", defArgs sleast_wrap, defBody sleast_wrap, defScope sleast_wrap, [], [("states", .non), ("bound", .non)]⟩, ⟨("never_paper", none), "never_paper", "never_paper", defArgs snever_paper, defBody snever_paper, defScope snever_paper, [], [("states", .non)]⟩, ⟨("never_holds", none), "never_holds", "never_holds", defArgs snever_holds, defBody snever_holds, defScope snever_holds, [], [("states", .non)]⟩]
def hFn2 : List He.DefD := [⟨("Machine", some "__init__"), "__init__", "Machine.__init__", defArgs sMachineInit, defBody sMachineInit, defScope sMachineInit, [], []⟩, ⟨("PairWalk", some "__init__"), "__init__", "PairWalk.__init__", defArgs sPairInit, defBody sPairInit, defScope sPairInit, [], []⟩, ⟨("PairWalk", some "layer_at"), "layer_at", "PairWalk.layer_at", defArgs sPairAt, defBody sPairAt, defScope sPairAt, [], []⟩, ⟨("PairWalk", some "ends_at"), "ends_at", "PairWalk.ends_at", defArgs sPairEnds, defBody sPairEnds, defScope sPairEnds, [], []⟩]
def hFn : List He.DefD := hFn0 ++ (hFn1 ++ (hFn2))
def hFa0 : List He.Fa := [.glo "is_integer", .glo "is_number", .glo "is_below", .glo "is_sequence", .glo "is_text", .glo "is_ascending", .glo "is_table", .glo "check_tables", .glo "check_starts", .glo "behind", .glo "check_bound", .glo "paired", .glo "pair_walks", .glo "need_modulus", .glo "common_divisor", .glo "first_parting", .glo "log_back", .glo "is_log", .glo "is_none_enough", .glo "round_walk"]
def hFa1 : List He.Fa := [.glo "rounds_part", .glo "never_at", .glo "_law_box", .glo "_law_take", .glo "_law_pick", .glo "_law_machine", .glo "_law_parts", .glo "_law_round", .glo "_law_at", .glo "_law_is_enough", .glo "_law_least", .glo "_law_heard", .glo "_law_refused_right", .glo "law", .glo "wrap_paper", .glo "is_enough", .glo "wrap_holds", .glo "least_wrap", .glo "never_paper", .glo "never_holds"]
def hFa2 : List He.Fa := [.glo "Machine", .glo "PairWalk", .glo "Refused", .free "len", .free "range", .free "list", .free "tuple", .free "enumerate", .free "isinstance", .free "int", .free "bool", .free "str", .free "all", .free "any", .free "zip", .free "sorted", .free "min", .free "abs", .free "reversed", .free "repr"]
def hFa3 : List He.Fa := [.free "super", .int "MOST_DEEDS" 8, .int "MOST_STATES" 12, .int "MOST_MODULUS" 200, .cls "Machine", .mkr "Machine", .noat "Machine" "tables", .noat "Machine" "deeds", .noat "Machine" "states", .cls "PairWalk", .mkr "PairWalk", .noat "PairWalk" "home", .noat "PairWalk" "layers", .noat "PairWalk" "entry", .noat "PairWalk" "circle", .meth "PairWalk" "layer_at", .meth "PairWalk" "ends_at", .noat "Refused" "at", .exm "Refused" "Refused" true, .keep "Refused"]
def hFa : List He.Fa := hFa0 ++ (hFa1 ++ (hFa2 ++ (hFa3)))
section
variable {K : PySem.W.Frag} {h : Heap} {mg : Str → Option Value}
structure Told1 (K : PySem.W.Frag) (mg : Str → Option Value) : Prop where
  d_is_integer : DefAt K mg "is_integer" sis_integer p_int
  d_is_number : DefAt K mg "is_number" sis_number p_num
  d_is_below : DefAt K mg "is_below" sis_below p_bel
  d_is_sequence : DefAt K mg "is_sequence" sis_sequence p_seq
  d_is_text : DefAt K mg "is_text" sis_text p_txt
  d_is_ascending : DefAt K mg "is_ascending" sis_ascending p_asc
  d_is_table : DefAt K mg "is_table" sis_table p_table
  d_check_tables : DefAt K mg "check_tables" scheck_tables p_ctab
  d_check_starts : DefAt K mg "check_starts" scheck_starts p_starts
  d_behind : DefAt K mg "behind" sbehind p_behind
  d_check_bound : DefAt K mg "check_bound" scheck_bound p_bound
  d_paired : DefAt K mg "paired" spaired p_paired
  d_pair_walks : DefAt K mg "pair_walks" spair_walks p_pwalks
  d_need_modulus : DefAt K mg "need_modulus" sneed_modulus p_nmod
  d_common_divisor : DefAt K mg "common_divisor" scommon_divisor p_cdiv
  d_first_parting : DefAt K mg "first_parting" sfirst_parting p_first
  d_log_back : DefAt K mg "log_back" slog_back p_logback
  d_is_log : DefAt K mg "is_log" sis_log p_islog
  d_is_none_enough : DefAt K mg "is_none_enough" sis_none_enough p_none
  d_round_walk : DefAt K mg "round_walk" sround_walk p_round
  d_rounds_part : DefAt K mg "rounds_part" srounds_part p_part
  d_never_at : DefAt K mg "never_at" snever_at p_nat
  d_law_box : DefAt K mg "_law_box" s_law_box p_lbox
  d_law_take : DefAt K mg "_law_take" s_law_take p_ltake
  d_law_pick : DefAt K mg "_law_pick" s_law_pick p_lpick
  d_law_machine : DefAt K mg "_law_machine" s_law_machine p_lmach
  d_law_parts : DefAt K mg "_law_parts" s_law_parts p_lparts
  d_law_round : DefAt K mg "_law_round" s_law_round p_lround
  d_law_at : DefAt K mg "_law_at" s_law_at p_lat
  d_law_is_enough : DefAt K mg "_law_is_enough" s_law_is_enough p_lenough
  d_law_least : DefAt K mg "_law_least" s_law_least p_lleast
  d_law_heard : DefAt K mg "_law_heard" s_law_heard p_lheard
  d_law_refused_right : DefAt K mg "_law_refused_right" s_law_refused_right p_lref
  d_law : DefAt K mg "law" slaw p_law
  d_wrap_paper : KDefAt K mg "wrap_paper" swrap_paper kwSB
  d_is_enough : KDefAt K mg "is_enough" sis_enough kwSB
  d_wrap_holds : KDefAt K mg "wrap_holds" swrap_holds kwSB
  d_least_wrap : KDefAt K mg "least_wrap" sleast_wrap kwSB
  d_never_paper : KDefAt K mg "never_paper" snever_paper kwS
  d_never_holds : KDefAt K mg "never_holds" snever_holds kwS
  i_mach : IDefAt K (He.ga K "Machine") "Machine.__init__" sMachineInit p_minit
  i_pair : IDefAt K (He.ga K "PairWalk") "PairWalk.__init__" sPairInit p_pinit
  m_at : MDefAt K (He.ga K "PairWalk") "layer_at" "PairWalk.layer_at" sPairAt p_pat
  m_ends : MDefAt K (He.ga K "PairWalk") "ends_at" "PairWalk.ends_at" sPairEnds p_pends
  bu : Bu mg
  cst : Cst mg
  k_mach : Kls K (He.ga K "Machine") mFn
  k_pair : Kls K (He.ga K "PairWalk") wFn
  g_mach : mg "Machine" = some (.ref (He.ga K "Machine"))
  g_pair : mg "PairWalk" = some (.ref (He.ga K "PairWalk"))
  g_ref : mg "Refused" = some (.ref (He.ga K "Refused"))
theorem fun_of {x qual : Str} {st : Stmt} {f : Addr} {fd : FuncData} (F : FunD K x qual (defArgs st) (defBody st) (defScope st) [] [] f fd) : Fun K x qual st f fd := by
  obtain ⟨oc, od, dV, kV, doc, pm, an, cdv, ct, osl, e, lk, hcd, hD, hK⟩ := F.ex
  rcases hD with ⟨_, e2⟩ | ⟨e2, _⟩
  · exact ⟨⟨oc, od, kV, doc, pm, an, cdv, ct, osl, by rw [e, e2], lk, hcd⟩, F.kp⟩
  · exact absurd rfl e2
theorem told1 (X : K.In h) (G : h.Ns mainGlobals mg) (c : He.SaysD hFa hFn K) : Told1 K mg where
  d_is_integer := by
    obtain ⟨fd, F⟩ := c.def_ 0 rfl
    have F : FunD K "is_integer" "is_integer" (defArgs sis_integer) (defBody sis_integer) (defScope sis_integer) [] [] (He.ga K "is_integer") fd := F
    exact ⟨_, fd, fun_of F, (He.glo_ok X G (c.fact 0 (f := .glo "is_integer") rfl)), (fun_of F).binds (ps := p_int) (fun _ _ _ _ _ _ us hl => match us, hl with | [_], _ => rfl)⟩
  d_is_number := by
    obtain ⟨fd, F⟩ := c.def_ 1 rfl
    have F : FunD K "is_number" "is_number" (defArgs sis_number) (defBody sis_number) (defScope sis_number) [] [] (He.ga K "is_number") fd := F
    exact ⟨_, fd, fun_of F, (He.glo_ok X G (c.fact 1 (f := .glo "is_number") rfl)), (fun_of F).binds (ps := p_num) (fun _ _ _ _ _ _ us hl => match us, hl with | [_], _ => rfl)⟩
  d_is_below := by
    obtain ⟨fd, F⟩ := c.def_ 2 rfl
    have F : FunD K "is_below" "is_below" (defArgs sis_below) (defBody sis_below) (defScope sis_below) [] [] (He.ga K "is_below") fd := F
    exact ⟨_, fd, fun_of F, (He.glo_ok X G (c.fact 2 (f := .glo "is_below") rfl)), (fun_of F).binds (ps := p_bel) (fun _ _ _ _ _ _ us hl => match us, hl with | [_, _], _ => rfl)⟩
  d_is_sequence := by
    obtain ⟨fd, F⟩ := c.def_ 3 rfl
    have F : FunD K "is_sequence" "is_sequence" (defArgs sis_sequence) (defBody sis_sequence) (defScope sis_sequence) [] [] (He.ga K "is_sequence") fd := F
    exact ⟨_, fd, fun_of F, (He.glo_ok X G (c.fact 3 (f := .glo "is_sequence") rfl)), (fun_of F).binds (ps := p_seq) (fun _ _ _ _ _ _ us hl => match us, hl with | [_], _ => rfl)⟩
  d_is_text := by
    obtain ⟨fd, F⟩ := c.def_ 4 rfl
    have F : FunD K "is_text" "is_text" (defArgs sis_text) (defBody sis_text) (defScope sis_text) [] [] (He.ga K "is_text") fd := F
    exact ⟨_, fd, fun_of F, (He.glo_ok X G (c.fact 4 (f := .glo "is_text") rfl)), (fun_of F).binds (ps := p_txt) (fun _ _ _ _ _ _ us hl => match us, hl with | [_], _ => rfl)⟩
  d_is_ascending := by
    obtain ⟨fd, F⟩ := c.def_ 5 rfl
    have F : FunD K "is_ascending" "is_ascending" (defArgs sis_ascending) (defBody sis_ascending) (defScope sis_ascending) [] [] (He.ga K "is_ascending") fd := F
    exact ⟨_, fd, fun_of F, (He.glo_ok X G (c.fact 5 (f := .glo "is_ascending") rfl)), (fun_of F).binds (ps := p_asc) (fun _ _ _ _ _ _ us hl => match us, hl with | [_, _], _ => rfl)⟩
  d_is_table := by
    obtain ⟨fd, F⟩ := c.def_ 6 rfl
    have F : FunD K "is_table" "is_table" (defArgs sis_table) (defBody sis_table) (defScope sis_table) [] [] (He.ga K "is_table") fd := F
    exact ⟨_, fd, fun_of F, (He.glo_ok X G (c.fact 6 (f := .glo "is_table") rfl)), (fun_of F).binds (ps := p_table) (fun _ _ _ _ _ _ us hl => match us, hl with | [_, _], _ => rfl)⟩
  d_check_tables := by
    obtain ⟨fd, F⟩ := c.def_ 7 rfl
    have F : FunD K "check_tables" "check_tables" (defArgs scheck_tables) (defBody scheck_tables) (defScope scheck_tables) [] [] (He.ga K "check_tables") fd := F
    exact ⟨_, fd, fun_of F, (He.glo_ok X G (c.fact 7 (f := .glo "check_tables") rfl)), (fun_of F).binds (ps := p_ctab) (fun _ _ _ _ _ _ us hl => match us, hl with | [_], _ => rfl)⟩
  d_check_starts := by
    obtain ⟨fd, F⟩ := c.def_ 8 rfl
    have F : FunD K "check_starts" "check_starts" (defArgs scheck_starts) (defBody scheck_starts) (defScope scheck_starts) [] [] (He.ga K "check_starts") fd := F
    exact ⟨_, fd, fun_of F, (He.glo_ok X G (c.fact 8 (f := .glo "check_starts") rfl)), (fun_of F).binds (ps := p_starts) (fun _ _ _ _ _ _ us hl => match us, hl with | [_, _], _ => rfl)⟩
  d_behind := by
    obtain ⟨fd, F⟩ := c.def_ 9 rfl
    have F : FunD K "behind" "behind" (defArgs sbehind) (defBody sbehind) (defScope sbehind) [] [] (He.ga K "behind") fd := F
    exact ⟨_, fd, fun_of F, (He.glo_ok X G (c.fact 9 (f := .glo "behind") rfl)), (fun_of F).binds (ps := p_behind) (fun _ _ _ _ _ _ us hl => match us, hl with | [_, _, _], _ => rfl)⟩
  d_check_bound := by
    obtain ⟨fd, F⟩ := c.def_ 10 rfl
    have F : FunD K "check_bound" "check_bound" (defArgs scheck_bound) (defBody scheck_bound) (defScope scheck_bound) [] [] (He.ga K "check_bound") fd := F
    exact ⟨_, fd, fun_of F, (He.glo_ok X G (c.fact 10 (f := .glo "check_bound") rfl)), (fun_of F).binds (ps := p_bound) (fun _ _ _ _ _ _ us hl => match us, hl with | [_], _ => rfl)⟩
  d_paired := by
    obtain ⟨fd, F⟩ := c.def_ 11 rfl
    have F : FunD K "paired" "paired" (defArgs spaired) (defBody spaired) (defScope spaired) [] [] (He.ga K "paired") fd := F
    exact ⟨_, fd, fun_of F, (He.glo_ok X G (c.fact 11 (f := .glo "paired") rfl)), (fun_of F).binds (ps := p_paired) (fun _ _ _ _ _ _ us hl => match us, hl with | [_, _], _ => rfl)⟩
  d_pair_walks := by
    obtain ⟨fd, F⟩ := c.def_ 12 rfl
    have F : FunD K "pair_walks" "pair_walks" (defArgs spair_walks) (defBody spair_walks) (defScope spair_walks) [] [] (He.ga K "pair_walks") fd := F
    exact ⟨_, fd, fun_of F, (He.glo_ok X G (c.fact 12 (f := .glo "pair_walks") rfl)), (fun_of F).binds (ps := p_pwalks) (fun _ _ _ _ _ _ us hl => match us, hl with | [_, _], _ => rfl)⟩
  d_need_modulus := by
    obtain ⟨fd, F⟩ := c.def_ 13 rfl
    have F : FunD K "need_modulus" "need_modulus" (defArgs sneed_modulus) (defBody sneed_modulus) (defScope sneed_modulus) [] [] (He.ga K "need_modulus") fd := F
    exact ⟨_, fd, fun_of F, (He.glo_ok X G (c.fact 13 (f := .glo "need_modulus") rfl)), (fun_of F).binds (ps := p_nmod) (fun _ _ _ _ _ _ us hl => match us, hl with | [_], _ => rfl)⟩
  d_common_divisor := by
    obtain ⟨fd, F⟩ := c.def_ 14 rfl
    have F : FunD K "common_divisor" "common_divisor" (defArgs scommon_divisor) (defBody scommon_divisor) (defScope scommon_divisor) [] [] (He.ga K "common_divisor") fd := F
    exact ⟨_, fd, fun_of F, (He.glo_ok X G (c.fact 14 (f := .glo "common_divisor") rfl)), (fun_of F).binds (ps := p_cdiv) (fun _ _ _ _ _ _ us hl => match us, hl with | [_, _], _ => rfl)⟩
  d_first_parting := by
    obtain ⟨fd, F⟩ := c.def_ 15 rfl
    have F : FunD K "first_parting" "first_parting" (defArgs sfirst_parting) (defBody sfirst_parting) (defScope sfirst_parting) [] [] (He.ga K "first_parting") fd := F
    exact ⟨_, fd, fun_of F, (He.glo_ok X G (c.fact 15 (f := .glo "first_parting") rfl)), (fun_of F).binds (ps := p_first) (fun _ _ _ _ _ _ us hl => match us, hl with | [_, _, _], _ => rfl)⟩
  d_log_back := by
    obtain ⟨fd, F⟩ := c.def_ 16 rfl
    have F : FunD K "log_back" "log_back" (defArgs slog_back) (defBody slog_back) (defScope slog_back) [] [] (He.ga K "log_back") fd := F
    exact ⟨_, fd, fun_of F, (He.glo_ok X G (c.fact 16 (f := .glo "log_back") rfl)), (fun_of F).binds (ps := p_logback) (fun _ _ _ _ _ _ us hl => match us, hl with | [_, _, _], _ => rfl)⟩
  d_is_log := by
    obtain ⟨fd, F⟩ := c.def_ 17 rfl
    have F : FunD K "is_log" "is_log" (defArgs sis_log) (defBody sis_log) (defScope sis_log) [] [] (He.ga K "is_log") fd := F
    exact ⟨_, fd, fun_of F, (He.glo_ok X G (c.fact 17 (f := .glo "is_log") rfl)), (fun_of F).binds (ps := p_islog) (fun _ _ _ _ _ _ us hl => match us, hl with | [_, _], _ => rfl)⟩
  d_is_none_enough := by
    obtain ⟨fd, F⟩ := c.def_ 18 rfl
    have F : FunD K "is_none_enough" "is_none_enough" (defArgs sis_none_enough) (defBody sis_none_enough) (defScope sis_none_enough) [] [] (He.ga K "is_none_enough") fd := F
    exact ⟨_, fd, fun_of F, (He.glo_ok X G (c.fact 18 (f := .glo "is_none_enough") rfl)), (fun_of F).binds (ps := p_none) (fun _ _ _ _ _ _ us hl => match us, hl with | [_], _ => rfl)⟩
  d_round_walk := by
    obtain ⟨fd, F⟩ := c.def_ 19 rfl
    have F : FunD K "round_walk" "round_walk" (defArgs sround_walk) (defBody sround_walk) (defScope sround_walk) [] [] (He.ga K "round_walk") fd := F
    exact ⟨_, fd, fun_of F, (He.glo_ok X G (c.fact 19 (f := .glo "round_walk") rfl)), (fun_of F).binds (ps := p_round) (fun _ _ _ _ _ _ us hl => match us, hl with | [_, _, _, _, _, _], _ => rfl)⟩
  d_rounds_part := by
    obtain ⟨fd, F⟩ := c.def_ 20 rfl
    have F : FunD K "rounds_part" "rounds_part" (defArgs srounds_part) (defBody srounds_part) (defScope srounds_part) [] [] (He.ga K "rounds_part") fd := F
    exact ⟨_, fd, fun_of F, (He.glo_ok X G (c.fact 20 (f := .glo "rounds_part") rfl)), (fun_of F).binds (ps := p_part) (fun _ _ _ _ _ _ us hl => match us, hl with | [_, _], _ => rfl)⟩
  d_never_at := by
    obtain ⟨fd, F⟩ := c.def_ 21 rfl
    have F : FunD K "never_at" "never_at" (defArgs snever_at) (defBody snever_at) (defScope snever_at) [] [] (He.ga K "never_at") fd := F
    exact ⟨_, fd, fun_of F, (He.glo_ok X G (c.fact 21 (f := .glo "never_at") rfl)), (fun_of F).binds (ps := p_nat) (fun _ _ _ _ _ _ us hl => match us, hl with | [_, _, _], _ => rfl)⟩
  d_law_box := by
    obtain ⟨fd, F⟩ := c.def_ 22 rfl
    have F : FunD K "_law_box" "_law_box" (defArgs s_law_box) (defBody s_law_box) (defScope s_law_box) [] [] (He.ga K "_law_box") fd := F
    exact ⟨_, fd, fun_of F, (He.glo_ok X G (c.fact 22 (f := .glo "_law_box") rfl)), (fun_of F).binds (ps := p_lbox) (fun _ _ _ _ _ _ us hl => match us, hl with | [_, _], _ => rfl)⟩
  d_law_take := by
    obtain ⟨fd, F⟩ := c.def_ 23 rfl
    have F : FunD K "_law_take" "_law_take" (defArgs s_law_take) (defBody s_law_take) (defScope s_law_take) [] [] (He.ga K "_law_take") fd := F
    exact ⟨_, fd, fun_of F, (He.glo_ok X G (c.fact 23 (f := .glo "_law_take") rfl)), (fun_of F).binds (ps := p_ltake) (fun _ _ _ _ _ _ us hl => match us, hl with | [_, _], _ => rfl)⟩
  d_law_pick := by
    obtain ⟨fd, F⟩ := c.def_ 24 rfl
    have F : FunD K "_law_pick" "_law_pick" (defArgs s_law_pick) (defBody s_law_pick) (defScope s_law_pick) [] [] (He.ga K "_law_pick") fd := F
    exact ⟨_, fd, fun_of F, (He.glo_ok X G (c.fact 24 (f := .glo "_law_pick") rfl)), (fun_of F).binds (ps := p_lpick) (fun _ _ _ _ _ _ us hl => match us, hl with | [_, _], _ => rfl)⟩
  d_law_machine := by
    obtain ⟨fd, F⟩ := c.def_ 25 rfl
    have F : FunD K "_law_machine" "_law_machine" (defArgs s_law_machine) (defBody s_law_machine) (defScope s_law_machine) [] [] (He.ga K "_law_machine") fd := F
    exact ⟨_, fd, fun_of F, (He.glo_ok X G (c.fact 25 (f := .glo "_law_machine") rfl)), (fun_of F).binds (ps := p_lmach) (fun _ _ _ _ _ _ us hl => match us, hl with | [_, _, _], _ => rfl)⟩
  d_law_parts := by
    obtain ⟨fd, F⟩ := c.def_ 26 rfl
    have F : FunD K "_law_parts" "_law_parts" (defArgs s_law_parts) (defBody s_law_parts) (defScope s_law_parts) [] [] (He.ga K "_law_parts") fd := F
    exact ⟨_, fd, fun_of F, (He.glo_ok X G (c.fact 26 (f := .glo "_law_parts") rfl)), (fun_of F).binds (ps := p_lparts) (fun _ _ _ _ _ _ us hl => match us, hl with | [_, _], _ => rfl)⟩
  d_law_round := by
    obtain ⟨fd, F⟩ := c.def_ 27 rfl
    have F : FunD K "_law_round" "_law_round" (defArgs s_law_round) (defBody s_law_round) (defScope s_law_round) [] [] (He.ga K "_law_round") fd := F
    exact ⟨_, fd, fun_of F, (He.glo_ok X G (c.fact 27 (f := .glo "_law_round") rfl)), (fun_of F).binds (ps := p_lround) (fun _ _ _ _ _ _ us hl => match us, hl with | [_, _, _], _ => rfl)⟩
  d_law_at := by
    obtain ⟨fd, F⟩ := c.def_ 28 rfl
    have F : FunD K "_law_at" "_law_at" (defArgs s_law_at) (defBody s_law_at) (defScope s_law_at) [] [] (He.ga K "_law_at") fd := F
    exact ⟨_, fd, fun_of F, (He.glo_ok X G (c.fact 28 (f := .glo "_law_at") rfl)), (fun_of F).binds (ps := p_lat) (fun _ _ _ _ _ _ us hl => match us, hl with | [_, _], _ => rfl)⟩
  d_law_is_enough := by
    obtain ⟨fd, F⟩ := c.def_ 29 rfl
    have F : FunD K "_law_is_enough" "_law_is_enough" (defArgs s_law_is_enough) (defBody s_law_is_enough) (defScope s_law_is_enough) [] [] (He.ga K "_law_is_enough") fd := F
    exact ⟨_, fd, fun_of F, (He.glo_ok X G (c.fact 29 (f := .glo "_law_is_enough") rfl)), (fun_of F).binds (ps := p_lenough) (fun _ _ _ _ _ _ us hl => match us, hl with | [_, _, _], _ => rfl)⟩
  d_law_least := by
    obtain ⟨fd, F⟩ := c.def_ 30 rfl
    have F : FunD K "_law_least" "_law_least" (defArgs s_law_least) (defBody s_law_least) (defScope s_law_least) [] [] (He.ga K "_law_least") fd := F
    exact ⟨_, fd, fun_of F, (He.glo_ok X G (c.fact 30 (f := .glo "_law_least") rfl)), (fun_of F).binds (ps := p_lleast) (fun _ _ _ _ _ _ us hl => match us, hl with | [_, _], _ => rfl)⟩
  d_law_heard := by
    obtain ⟨fd, F⟩ := c.def_ 31 rfl
    have F : FunD K "_law_heard" "_law_heard" (defArgs s_law_heard) (defBody s_law_heard) (defScope s_law_heard) [] [] (He.ga K "_law_heard") fd := F
    exact ⟨_, fd, fun_of F, (He.glo_ok X G (c.fact 31 (f := .glo "_law_heard") rfl)), (fun_of F).binds (ps := p_lheard) (fun _ _ _ _ _ _ us hl => match us, hl with | [_], _ => rfl)⟩
  d_law_refused_right := by
    obtain ⟨fd, F⟩ := c.def_ 32 rfl
    have F : FunD K "_law_refused_right" "_law_refused_right" (defArgs s_law_refused_right) (defBody s_law_refused_right) (defScope s_law_refused_right) [] [] (He.ga K "_law_refused_right") fd := F
    exact ⟨_, fd, fun_of F, (He.glo_ok X G (c.fact 32 (f := .glo "_law_refused_right") rfl)), (fun_of F).binds (ps := p_lref) (fun _ _ _ _ _ _ us hl => match us, hl with | [_, _], _ => rfl)⟩
  d_law := by
    obtain ⟨fd, F⟩ := c.def_ 33 rfl
    have F : FunD K "law" "law" (defArgs slaw) (defBody slaw) (defScope slaw) [] [] (He.ga K "law") fd := F
    exact ⟨_, fd, fun_of F, (He.glo_ok X G (c.fact 33 (f := .glo "law") rfl)), (fun_of F).binds (ps := p_law) (fun _ _ _ _ _ _ us hl => match us, hl with | [_], _ => rfl)⟩
  d_wrap_paper := by
    obtain ⟨fd, F⟩ := c.def_ 34 rfl
    exact ⟨_, fd, F, (He.glo_ok X G (c.fact 34 (f := .glo "wrap_paper") rfl))⟩
  d_is_enough := by
    obtain ⟨fd, F⟩ := c.def_ 35 rfl
    exact ⟨_, fd, F, (He.glo_ok X G (c.fact 35 (f := .glo "is_enough") rfl))⟩
  d_wrap_holds := by
    obtain ⟨fd, F⟩ := c.def_ 36 rfl
    exact ⟨_, fd, F, (He.glo_ok X G (c.fact 36 (f := .glo "wrap_holds") rfl))⟩
  d_least_wrap := by
    obtain ⟨fd, F⟩ := c.def_ 37 rfl
    exact ⟨_, fd, F, (He.glo_ok X G (c.fact 37 (f := .glo "least_wrap") rfl))⟩
  d_never_paper := by
    obtain ⟨fd, F⟩ := c.def_ 38 rfl
    exact ⟨_, fd, F, (He.glo_ok X G (c.fact 38 (f := .glo "never_paper") rfl))⟩
  d_never_holds := by
    obtain ⟨fd, F⟩ := c.def_ 39 rfl
    exact ⟨_, fd, F, (He.glo_ok X G (c.fact 39 (f := .glo "never_holds") rfl))⟩
  i_mach := by
    obtain ⟨fd, F⟩ := c.def_ 40 rfl
    have F : FunD K "__init__" "Machine.__init__" (defArgs sMachineInit) (defBody sMachineInit) (defScope sMachineInit) [] [] (He.ma K (He.ga K "Machine") "__init__") fd := F
    exact ⟨_, fd, fun_of F, (He.mkr_ok (c.fact 65 (f := .mkr "Machine") rfl)), (fun_of F).binds (ps := p_minit) (fun _ _ _ _ _ _ us hl => match us, hl with | [_, _], _ => rfl)⟩
  i_pair := by
    obtain ⟨fd, F⟩ := c.def_ 41 rfl
    have F : FunD K "__init__" "PairWalk.__init__" (defArgs sPairInit) (defBody sPairInit) (defScope sPairInit) [] [] (He.ma K (He.ga K "PairWalk") "__init__") fd := F
    exact ⟨_, fd, fun_of F, (He.mkr_ok (c.fact 70 (f := .mkr "PairWalk") rfl)), (fun_of F).binds (ps := p_pinit) (fun _ _ _ _ _ _ us hl => match us, hl with | [_, _, _], _ => rfl)⟩
  m_at := by
    obtain ⟨fd, F⟩ := c.def_ 42 rfl
    have F : FunD K "layer_at" "PairWalk.layer_at" (defArgs sPairAt) (defBody sPairAt) (defScope sPairAt) [] [] (He.ma K (He.ga K "PairWalk") "layer_at") fd := F
    exact ⟨_, fd, fun_of F, (He.meth_ok (c.fact 75 (f := .meth "PairWalk" "layer_at") rfl)), (fun_of F).binds (ps := p_pat) (fun _ _ _ _ _ _ us hl => match us, hl with | [_, _], _ => rfl)⟩
  m_ends := by
    obtain ⟨fd, F⟩ := c.def_ 43 rfl
    have F : FunD K "ends_at" "PairWalk.ends_at" (defArgs sPairEnds) (defBody sPairEnds) (defScope sPairEnds) [] [] (He.ma K (He.ga K "PairWalk") "ends_at") fd := F
    exact ⟨_, fd, fun_of F, (He.meth_ok (c.fact 76 (f := .meth "PairWalk" "ends_at") rfl)), (fun_of F).binds (ps := p_pends) (fun _ _ _ _ _ _ us hl => match us, hl with | [_, _], _ => rfl)⟩
  bu := ⟨He.free_ok X G (c.fact 43 (f := .free "len") rfl), He.free_ok X G (c.fact 44 (f := .free "range") rfl), He.free_ok X G (c.fact 45 (f := .free "list") rfl), He.free_ok X G (c.fact 46 (f := .free "tuple") rfl), He.free_ok X G (c.fact 47 (f := .free "enumerate") rfl), He.free_ok X G (c.fact 48 (f := .free "isinstance") rfl), He.free_ok X G (c.fact 49 (f := .free "int") rfl), He.free_ok X G (c.fact 50 (f := .free "bool") rfl), He.free_ok X G (c.fact 51 (f := .free "str") rfl), He.free_ok X G (c.fact 52 (f := .free "all") rfl), He.free_ok X G (c.fact 53 (f := .free "any") rfl), He.free_ok X G (c.fact 54 (f := .free "zip") rfl), He.free_ok X G (c.fact 55 (f := .free "sorted") rfl), He.free_ok X G (c.fact 56 (f := .free "min") rfl), He.free_ok X G (c.fact 57 (f := .free "abs") rfl), He.free_ok X G (c.fact 58 (f := .free "reversed") rfl), He.free_ok X G (c.fact 59 (f := .free "repr") rfl), He.free_ok X G (c.fact 60 (f := .free "super") rfl)⟩
  cst := ⟨He.int_ok X G (c.fact 61 (f := .int "MOST_DEEDS" 8) rfl), He.int_ok X G (c.fact 62 (f := .int "MOST_STATES" 12) rfl), He.int_ok X G (c.fact 63 (f := .int "MOST_MODULUS" 200) rfl)⟩
  k_mach := ⟨He.cls_ok (c.fact 64 (f := .cls "Machine") rfl), fun f hf => by
    simp only [List.mem_cons, List.not_mem_nil, or_false] at hf
    rcases hf with e | e | e <;> subst e
    · exact He.noat_ok (c.fact 66 (f := .noat "Machine" "tables") rfl)
    · exact He.noat_ok (c.fact 67 (f := .noat "Machine" "deeds") rfl)
    · exact He.noat_ok (c.fact 68 (f := .noat "Machine" "states") rfl)⟩
  k_pair := ⟨He.cls_ok (c.fact 69 (f := .cls "PairWalk") rfl), fun f hf => by
    simp only [List.mem_cons, List.not_mem_nil, or_false] at hf
    rcases hf with e | e | e | e <;> subst e
    · exact He.noat_ok (c.fact 71 (f := .noat "PairWalk" "home") rfl)
    · exact He.noat_ok (c.fact 72 (f := .noat "PairWalk" "layers") rfl)
    · exact He.noat_ok (c.fact 73 (f := .noat "PairWalk" "entry") rfl)
    · exact He.noat_ok (c.fact 74 (f := .noat "PairWalk" "circle") rfl)⟩
  g_mach := (He.glo_ok X G (c.fact 40 (f := .glo "Machine") rfl))
  g_pair := (He.glo_ok X G (c.fact 41 (f := .glo "PairWalk") rfl))
  g_ref := (He.glo_ok X G (c.fact 42 (f := .glo "Refused") rfl))
end
end K27
/-! ## HRef -/
/-! What the head is to tell of the class Refused, and of the table of code objects that _law_refused_right writes to. -/
namespace K27
open PySem L2 PySem.Spec PyProof.Rows
section
variable (K : PySem.W.Frag)
abbrev cR : Addr := He.ga K "Refused"
abbrev fR : Addr := He.ma K (cR K) "__init__"
/-- the code object of _law_refused_right, its table -/
def tabAd : Addr × Addr := match K.lookup (He.ga K "_law_refused_right") with
  | some ⟨_, _, .func fd, _⟩ => (match fd.code with
    | .ref c => (match K.lookup c with
      | some ⟨_, _, .fields vs, _⟩ => (match (vs[11]? : Option Value) with
        | some (.ref P) => (c, P)
        | _ => (0, 0))
      | _ => (0, 0))
    | _ => (0, 0))
  | _ => (0, 0)
def codB (c : Addr) : Bool := match K.lookup (He.ga K "_law_refused_right") with
  | some ⟨_, _, .func fd, _⟩ => decide (fd.code = .ref c)
  | _ => false
def clsB : Bool := match K.lookup (cR K) with
  | some ⟨.type t, _, .cls cd, sl⟩ => decide (t = "type") && (match cd.mro, sl.toList with
    | .ref C' :: bm, [_, _, _, _, some (.builtin n), _] => decide (C' = cR K) && (PySem.HandSPX.refsVE bm && (cd.hasDict && (!cd.hasDel && decide (n = "ValueError.__new__"))))
    | _, _ => false)
  | _ => false
def fileB (P : Program) (cd : Value) : Bool := match cd with
  | .ref cda => (match K.lookup cda with
    | some ⟨_, _, .fields vs, _⟩ => (match (vs[2]? : Option Value) with
      | some (.str file _) => ((P.main.file : Str) == file)
      | _ => false)
    | _ => false)
  | _ => false
def cellB (cl : List (Str × Addr)) : Bool := match cl with
  | [(y, cc)] => decide (y = "__class__") && (match K.lookup cc with
    | some ⟨_, _, .cell (some (.ref C')), _⟩ => decide (C' = cR K)
    | _ => false)
  | _ => false
def fnB (P : Program) : Bool := match K.lookup (fR K) with
  | some ⟨_, _, .func fd, _⟩ => PySem.W.codeIn K fd.code "Refused.__init__" && (fileB K P fd.code && (cellB K fd.closure && (decide (fd.defaults = .none) && decide (fd.kwdefaults = .none))))
  | _ => false
abbrev RefV : Type := Option (Str × Str × Arguments × FuncBody × Scope × Addr × Addr)
def refV : RefV := match K.lookup (fR K) with
  | some ⟨_, _, .func fd, _⟩ => some (fd.name, fd.qualname, fd.params, fd.body, fd.scope, fd.globals, fd.builtins)
  | _ => none
def refVal : RefV := some ("__init__", "Refused.__init__", defArgs sRefusedInit, .stmts (defBody sRefusedInit), defScope sRefusedInit, mainGlobals, builtinsNs)
def refB (P : Program) : Bool := decide (PySem.W.typeIn K (.ref (fR K)) = some (.type "function")) && (He.eqO (PySem.W.findIn K (.ref (cR K)) "__init__") (some (some (.ref (fR K)))) && (decide (PySem.W.mroIn K (cR K) (.ref (cR K)) = some true) &&
  (He.eqO (PySem.W.ks_superIn K (cR K) (cR K) "__init__") (some (some (.builtin "ValueError.__init__"))) && (decide (PySem.W.subIn K (.ref (cR K)) (.type "ValueError") = some true) && (He.eqO (PySem.W.nsIn K cStatics "thirdparty.any") (some none) && (clsB K &&
  (He.eqO (PySem.W.findIn K (.ref (cR K)) "__setattr__") (some (some (.builtin "object.__setattr__"))) && (decide (PySem.W.subIn K (.ref (cR K)) (.type "BaseException") = some true) && (decide (PySem.W.typeIn K (.ref (cR K)) = some (.type "type")) && (fnB K P && xfB K (cR K)))))))))))
end
section
variable {K : PySem.W.Frag} {h : Heap} {mg : Str → Option Value} {P : Program}
theorem fileB_ok {cd : Value} (e : fileB K P cd = true) : ∃ cda, cd = .ref cda ∧ ∃ (ccl : Value) (cdd : Option Addr) (vs : Array Value) (ccs : Array (Option Value)) (file : Str) (tf : Tok), K.lookup cda = some ⟨ccl, cdd, .fields vs, ccs⟩ ∧ vs[2]? = some (.str file tf) ∧ ((P.main.file : Str) == file) = true := by
  unfold fileB at e
  split at e
  · rename_i cda
    split at e
    · rename_i ccl cdd vs ccs hk
      split at e
      · rename_i file tf hv
        exact ⟨cda, rfl, ccl, cdd, vs, ccs, file, tf, hk, hv, e⟩
      · cases e
    · cases e
  · cases e
theorem cellB_ok {cl : List (Str × Addr)} (e : cellB K cl = true) : ∃ cc, cl = [(("__class__" : Str), cc)] ∧ ∃ (q : Value) (qd : Option Addr) (qs : Array (Option Value)), K.lookup cc = some ⟨q, qd, .cell (some (.ref (cR K))), qs⟩ := by
  unfold cellB at e
  split at e
  · rename_i y cc
    obtain ⟨e1, e2⟩ := Bool.and_eq_true_iff.mp e
    split at e2
    · rename_i q qd C' qs hk
      obtain rfl : C' = cR K := of_decide_eq_true e2
      exact ⟨cc, by rw [of_decide_eq_true e1], q, qd, qs, hk⟩
    · cases e2
  · cases e
theorem clsB_ok (e : clsB K = true) : ∃ nm q N bs bm sn sub ab col dd k0 k1 k2 k3 k5, K.lookup (cR K) = some (excClassObj nm q (cR K) N bs bm true sn sub ab col dd k0 k1 k2 k3 k5 "ValueError.__new__") ∧ PySem.HandSPX.refsVE bm = true := by
  unfold clsB at e
  split at e
  · rename_i t dd cd sl hk
    obtain ⟨e1, e2⟩ := Bool.and_eq_true_iff.mp e
    split at e2
    · rename_i C' bm k0 k1 k2 k3 n k5 hm hs
      obtain ⟨f1, f2⟩ := Bool.and_eq_true_iff.mp e2
      obtain ⟨f3, f4⟩ := Bool.and_eq_true_iff.mp f2
      obtain ⟨f5, f6⟩ := Bool.and_eq_true_iff.mp f4
      obtain ⟨f7, f8⟩ := Bool.and_eq_true_iff.mp f6
      obtain rfl : C' = cR K := of_decide_eq_true f1
      have es : sl = #[k0, k1, k2, k3, some (.builtin n), k5] := Array.toList_inj.mp hs
      obtain rfl : n = "ValueError.__new__" := of_decide_eq_true f8
      obtain rfl : t = "type" := of_decide_eq_true e1
      obtain ⟨nm, bs, mro, N, qn, hd, sn, sub, ab, col, del⟩ := cd
      have hm : mro = .ref (cR K) :: bm := hm
      have hd' : hd = true := f5
      have del' : del = false := by
        have f7 : (!del) = true := f7
        cases del with
        | false => rfl
        | true => cases f7
      subst hm hd' del' es
      exact ⟨nm, qn, N, bs, bm, sn, sub, ab, col, dd, k0, k1, k2, k3, k5, hk, f3⟩
    · cases e2
  · cases e
theorem ref_ok (X : K.In h) (G : h.Ns mainGlobals mg) (c : He.SaysD hFa hFn K) (T : Told1 K mg) (e : refB K P = true) (ev : refV K = refVal) (htop : (P.main.scope.names.lookup ("super" : Str)).isSome = false) : RefTxt P K mg (cR K) (fR K) ∧ XfC K (cR K) := by
  unfold refB at e
  obtain ⟨b1, e⟩ := Bool.and_eq_true_iff.mp e
  obtain ⟨b2, e⟩ := Bool.and_eq_true_iff.mp e
  obtain ⟨b3, e⟩ := Bool.and_eq_true_iff.mp e
  obtain ⟨b4, e⟩ := Bool.and_eq_true_iff.mp e
  obtain ⟨b5, e⟩ := Bool.and_eq_true_iff.mp e
  obtain ⟨b6, e⟩ := Bool.and_eq_true_iff.mp e
  obtain ⟨b7, e⟩ := Bool.and_eq_true_iff.mp e
  obtain ⟨b8, e⟩ := Bool.and_eq_true_iff.mp e
  obtain ⟨b9, e⟩ := Bool.and_eq_true_iff.mp e
  obtain ⟨b10, e⟩ := Bool.and_eq_true_iff.mp e
  obtain ⟨b11, b12⟩ := Bool.and_eq_true_iff.mp e
  refine ⟨⟨T.g_ref, T.bu.super_, ⟨clsB_ok b7, He.eqO_ok b8, of_decide_eq_true b9, of_decide_eq_true b10, He.keep_ok (c.fact 79 (f := .keep "Refused") rfl)⟩, He.noat_ok (c.fact 77 (f := .noat "Refused" "at") rfl), He.eqO_ok b2, of_decide_eq_true b1, He.exm_ok (c.fact 78 (f := .exm "Refused" "Refused" true) rfl), of_decide_eq_true b3, He.eqO_ok b4, of_decide_eq_true b5, He.eqO_ok b6, ?_, htop⟩, xfB_ok b12⟩
  unfold fnB at b11
  unfold refV at ev
  cases q : K.lookup (fR K) with
  | none =>
    rw [q] at b11
    cases b11
  | some o =>
    obtain ⟨oc, od, dt, osl⟩ := o
    rw [q] at b11 ev
    cases dt with
    | func fd =>
      obtain ⟨n1, n2, n3, n4, n5, n6, n7, n8, n9, n10, n11, n12, n13, n14, n15⟩ := fd
      have ev2 : (some (n1, n2, n3, n4, n5, n6, n15) : RefV) = some (("__init__" : Str), ("Refused.__init__" : Str), defArgs sRefusedInit, FuncBody.stmts (defBody sRefusedInit), defScope sRefusedInit, mainGlobals, builtinsNs) := ev
      simp only [Option.some.injEq, Prod.mk.injEq] at ev2
      obtain ⟨h1, h2, h3, h4, h5, h6, h7⟩ := ev2
      subst h1 h2 h3 h4 h5 h6 h7
      have c3 : (PySem.W.codeIn K n13 "Refused.__init__" && (fileB K P n13 && (cellB K n7 && (decide (n8 = .none) && decide (n9 = .none))))) = true := b11
      obtain ⟨k1, k2⟩ := Bool.and_eq_true_iff.mp c3
      obtain ⟨k3, k4⟩ := Bool.and_eq_true_iff.mp k2
      obtain ⟨k5, k6⟩ := Bool.and_eq_true_iff.mp k4
      obtain ⟨k7, k8⟩ := Bool.and_eq_true_iff.mp k6
      obtain rfl : n8 = .none := of_decide_eq_true k7
      obtain rfl : n9 = .none := of_decide_eq_true k8
      obtain ⟨cda, rfl, code⟩ := fileB_ok k3
      obtain ⟨cc, rfl, q1, q2, q3, cell⟩ := cellB_ok k5
      exact ⟨oc, od, n10, n11, n12, cda, n14, cc, osl, rfl, k1, code, q1, q2, q3, cell⟩
    | _ => cases b11
/-- _law_refused_right, its code object known -/
theorem refd_ok (X : K.In h) (G : h.Ns mainGlobals mg) (c : He.SaysD hFa hFn K) {ca : Addr} (e : codB K ca = true) (T : Told1 K mg) : DefAtC K mg "_law_refused_right" s_law_refused_right p_lref ca := by
  obtain ⟨f, fd, F, hm, hb⟩ := T.d_law_refused_right.ex
  refine ⟨f, fd, F, hm, hb, ?_⟩
  obtain ⟨oc, od, kV, doc, pm, an, cdv, ct, osl, rfl, lk, hcd⟩ := F.ex
  have hf : f = He.ga K "_law_refused_right" := by
    have := He.glo_ok X G (c.fact 32 (f := .glo "_law_refused_right") rfl)
    rw [hm] at this
    injection this with this
    injection this
  subst hf
  unfold codB at e
  rw [lk] at e
  exact of_decide_eq_true e
end
end K27
/-! ## HeadRun -/
/-! The head: the top run once. -/
namespace K27
open PySem PySem.Spec PyProof.Rows L2
abbrev RR : PySem.W.OpenRow := PySem.W.OpenLaw.row PySem.Challenge.rw_agedcopy_k27_whole_least_numbers_of_mach
def nm1 : List PySem.Str := ["AgeError", "BadMachine", "Refused", "MOST_DEEDS", "MOST_STATES", "is_integer", "is_number", "is_below", "is_sequence", "is_text", "is_ascending", "is_table", "check_tables", "Machine", "check_starts", "behind", "check_bound", "MOST_MODULUS", "paired", "PairWalk", "pair_walks", "need_modulus", "common_divisor", "first_parting", "log_back", "wrap_paper", "is_enough", "is_log", "wrap_holds", "is_none_enough"]
def nm2 : List PySem.Str := ["least_wrap", "round_walk", "rounds_part", "never_at", "never_paper", "never_holds", "_law_box", "_law_take", "_law_pick", "_law_machine", "_law_behind", "_law_layers", "_law_parts", "_law_round", "_law_at", "_law_is_enough", "_law_least", "_law_heard", "_law_refused_right"]
abbrev nms : List PySem.Str := nm1 ++ nm2
abbrev qv : Program := PySem.W.view RR.prog [55]
theorem run0 (w : World) : HandSHeadRun.RunEq RR qv PySem.W.Hook.none (fun _ => ()) 4000 nms w := by
  intro os
  kernel_rfl
end K27
/-! ## HHook -/
/-! The head with its facts. -/
namespace K27
open PySem PySem.Spec PyProof.Rows L2
def emptyB (g : Addr → Option Obj) (P : Addr) : Bool := match g P with
  | some ⟨.none, none, .fields vs, sl⟩ => vs.toList.isEmpty && sl.toList.isEmpty
  | _ => false
theorem emptyB_ok {g : Addr → Option Obj} {P : Addr} (e : emptyB g P = true) : g P = some tabE := by
  unfold emptyB at e
  split at e
  · rename_i vs sl hg
    obtain ⟨e1, e2⟩ := Bool.and_eq_true_iff.mp e
    have h1 : vs = #[] := Array.toList_eq_nil_iff.mp (List.isEmpty_iff.mp e1)
    have h2 : sl = #[] := Array.toList_eq_nil_iff.mp (List.isEmpty_iff.mp e2)
    rw [hg, h1, h2]
  · cases e
abbrev ObT : Type := Bool × He.AlD × RefV
def obA (g : Addr → Option Obj) (cp : Addr × Addr) (K : PySem.W.Frag) : ObT :=
  (emptyB g cp.2 && ((K.lookup cp.2).isNone && (PySem.W.codeHdIn K cp.1 cp.2 && (codB K cp.1 && refB K RR.prog))), He.obsD hFa hFn K, refV K)
def obB (g : Addr → Option Obj) (as : List Addr) (cp : Addr × Addr) : ObT := obA g cp (He.frG g ((cStatics :: as).filter fun a => !decide (a = cp.2)))
def obK (g : Addr → Option Obj) : ObT := obB g (He.asD g 4) (tabAd (He.frG g (He.asD g 4)))
def obVal : ObT := (true, He.valD hFn, refVal)
structure HeadOk (h : Heap) (K : PySem.W.Frag) (c P : Addr) : Prop where
  kin : K.In h
  tab : h.get? P = some tabE
  nK : K.lookup P = none
  hd : PySem.W.codeHdIn K c P = true
  cod : codB K c = true
  ref : refB K RR.prog = true
  says : He.SaysD hFa hFn K
  refv : refV K = refVal
theorem obK_ok {h : Heap} (e : obK h.get? = obVal) : ∃ K c P, HeadOk h K c P := by
  unfold obK obB at e
  generalize tabAd (He.frG h.get? (He.asD h.get? 4)) = cp at e
  unfold obA obVal at e
  have e1 := congrArg Prod.fst e
  have e2 := congrArg (fun z : ObT => z.2.1) e
  have e3 := congrArg (fun z : ObT => z.2.2) e
  obtain ⟨a1, a⟩ := Bool.and_eq_true_iff.mp e1
  obtain ⟨a2, a⟩ := Bool.and_eq_true_iff.mp a
  obtain ⟨a3, a⟩ := Bool.and_eq_true_iff.mp a
  obtain ⟨a4, a5⟩ := Bool.and_eq_true_iff.mp a
  exact ⟨_, cp.1, cp.2, He.frG_in, emptyB_ok a1, Option.isNone_iff_eq_none.mp a2, a3, a4, a5, e2, e3⟩
def hookK : PySem.W.Hook where
  α := ObT
  obs := fun s => obK s.heap.get?
  val := fun _ => obVal
  says := fun _ h => ∃ K c P, HeadOk h K c P
  of := fun _ _ e => obK_ok e
  keeps := fun _ _ _ ⟨K, c, P, o⟩ k => ⟨K, c, P, PySem.W.Frag.In.keeps o.kin k, k _ _ o.tab, o.nK, o.hd, o.cod, o.ref, o.says, o.refv⟩
def obS (s : PySem.W.SharedT) : hookK.α := obK (HandSHeadRun.getT s)
theorem obS_eq (s : PySem.W.SharedT) : obS s = hookK.obs s.abs := by
  have e : HandSHeadRun.getT s = s.abs.heap.get? := funext fun a => HandSHeadRun.getT_eq s a
  show obK (HandSHeadRun.getT s) = obK s.abs.heap.get?
  rw [e]
theorem runK (w : World) : HandSHeadRun.RunEq RR qv hookK obS 4000 nms w := by
  intro os
  kernel_rfl
end K27
/-! ## Final -/
/-! The chain: from the head's facts to the law. -/
namespace K27
open PySem PySem.Spec PyProof.Rows L2
open LamX (TabB)
section
variable {P : Program} {w : World} {K : PySem.W.Frag} {mg : Str → Option Value} {base : Heap}
theorem chain {c TP : Addr} (T : Told1 K mg) (Dr : DefAtC K mg "_law_refused_right" s_law_refused_right p_lref c) (TR : RefTxt P K mg (cR K) (fR K)) (XF : XfC K (cR K)) (TB : TabB base mg c TP) : CLaw P w K mg base TP := by
  have B := T.bu
  have Z := T.cst
  have KM := T.k_mach
  have KC := T.k_pair
  have CI : CInt P w K mg base := c_int T.d_is_integer B
  have CN : CNum P w K mg base := c_num T.d_is_number CI
  have CBe : CBel P w K mg base := c_bel T.d_is_below CN
  have CS : CSeq P w K mg base := c_seq T.d_is_sequence B
  have CX : CTxt P w K mg base := c_txt T.d_is_text B
  have CA : CAsc P w K mg base := c_asc T.d_is_ascending B CBe CS
  have CTb : CTable P w K mg base := c_table T.d_is_table B CBe CS
  have CTs : CCtab P w K mg base := c_ctab T.d_check_tables B Z CTb CS
  have CMi : CMini P w K mg base (He.ga K "Machine") := c_mini T.i_mach T.g_mach B KM CTs
  have CSt : CStarts P w K mg base (He.ga K "Machine") := c_starts T.d_check_starts B KM CA
  have CBh : CBeh P w K mg base := c_beh T.d_behind
  have CBo : CBound P w K mg base := c_bound T.d_check_bound CN
  have CNm : CNmod P w K mg base := c_nmod T.d_need_modulus Z CN
  have CPa : CPair P w K mg base := c_pair T.d_paired B
  have CPi : CPini P w K mg base (He.ga K "Machine") (He.ga K "PairWalk") := c_pini T.i_pair T.g_pair B KM KC CPa
  have CAt' : CAt P w K mg base (He.ga K "PairWalk") := c_at T.m_at B KC
  have CEn : CEnds P w K mg base (He.ga K "PairWalk") := c_ends T.m_ends B KC CAt'
  have CWa : CWalks P w K mg base (He.ga K "Machine") (He.ga K "PairWalk") := c_walks T.d_pair_walks CSt CPi
  have CCd : CCdiv P w K mg base := c_cdiv T.d_common_divisor
  have CFi : CFirst P w K mg base (He.ga K "PairWalk") := c_first T.d_first_parting B KC CCd CEn
  have CNo : CNone P w K mg base (He.ga K "PairWalk") := c_none T.d_is_none_enough B KC CEn
  have CLe : CLeast P w K mg base (He.ga K "Machine") := c_least T.d_least_wrap B CWa CBo CFi CNo
  have CBa : CBack P w K mg base (He.ga K "Machine") (He.ga K "PairWalk") := c_back T.d_log_back B KM KC CEn CAt'
  have CWp : CWpap P w K mg base (He.ga K "Machine") := c_wpap T.d_wrap_paper B KC CNm CWa CBo CFi CPi CBa
  have CIe : CIsen P w K mg base (He.ga K "Machine") := c_isen T.d_is_enough CWp
  have CRo : CRound P w K mg base := c_round T.d_round_walk B
  have CPt : CPart P w K mg base := c_part T.d_rounds_part B CCd
  have CNa : CNat P w K mg base (He.ga K "Machine") := c_nat T.d_never_at B KM CPt CRo
  have CNp : CNpap P w K mg base (He.ga K "Machine") := c_npap T.d_never_paper B KM CSt CPi CNo CNa
  have CIl : CIslog P w K mg base (He.ga K "Machine") := c_islog T.d_is_log B KM CBe CS
  have CNh : CNhold P w K mg base (He.ga K "Machine") := c_nhold T.d_never_holds B KM CSt CS CX CN CBe CIl CBh
  have XSt : XStarts P w K mg base (He.ga K "Machine") (cR K) := x_starts T.d_check_starts KM CA TR
  have XBo : XBound P w K mg base (cR K) := x_bound T.d_check_bound CN TR
  have XWa : XWalks P w K mg base (He.ga K "Machine") (cR K) := x_walks T.d_pair_walks XSt
  have X1 := x_leastS (P := P) (w := w) (base := base) T.d_least_wrap XWa
  have X2 := x_npap (P := P) (w := w) (base := base) T.d_never_paper XSt
  have X3 := x_nhold (P := P) (w := w) (base := base) T.d_never_holds XSt
  have X4 := x_wholdS (P := P) (w := w) (base := base) T.d_wrap_holds CNm XSt
  have X5 := x_leastB (P := P) (w := w) (base := base) T.d_least_wrap CWa XBo
  have X6 := x_wpapB (P := P) (w := w) (base := base) T.d_wrap_paper CNm CWa XBo
  have X7 := x_wholdB (P := P) (w := w) (base := base) T.d_wrap_holds CNm CSt XBo
  have LT : CTake P w K mg base := c_take B T.d_law_take
  have LK : CPick P w K mg base := c_pick B T.d_law_pick LT
  have LR : CRef P w K mg base (He.ga K "Machine") TP := c_ref B Dr T.d_law_heard KM LK TR XF TB X1 X2 X3 X4 X5 X6 X7
  have LA : CLat P w K mg base := c_lat B T.d_law_at
  have LE : CLenough P w K mg base := c_lenough B T.d_law_is_enough LA
  exact c_law B T.d_law (c_box B T.d_law_box) LK LT (c_machine B T.d_law_machine LT) CMi LR (c_lround B T.d_law_round (c_lparts T.d_law_parts)) (c_lleast B T.d_law_least LA LE) LE CLe CNp CNh CIe
end
abbrev spLaw (K : PySem.W.Frag) (TP : Addr) : Sp := fun vs H Q _ => ∃ (ns : List Int) (w0 : Wd) (ps : Array Value), w0.H = H ∧ ns.length ≤ 1000 ∧ Tys [dat K (.list (ns.map .int))] vs w0.G ∧ Own w0 TP (.tbl ps) ∧ TblOk qRef w0.G ps ∧ ∀ H', Q (.bl true) H'
/-- the script's list, the table at TP: the law may be called -/
theorem sp_start {K : PySem.W.Frag} {H : Hp} {TP a : Addr} {ns : List Int} (hl : ns.length ≤ 63) (hP : H TP = some (.tbl #[])) (ha : a ≠ TP) (hS : SqL K H a (ns.map V.int)) : spLaw K TP [.ref a] H (fun v _ => v = .bl true) fun _ _ _ => False := by
  let G : Hp := fun b => if b = TP then none else H b
  have sub : Same G H := fun b u e => by
    by_cases hb : b = TP
    · have e : (if b = TP then none else H b) = some u := e
      rw [if_pos hb] at e
      cases e
    · have e : (if b = TP then none else H b) = some u := e
      rw [if_neg hb] at e
      exact e
  have at_ : G a = H a := if_neg ha
  have sq : SqL K G a (ns.map V.int) := by
    rcases hS with (e | ⟨o, e⟩) | e
    · exact .inl (.inl (at_.trans e))
    · exact .inl (.inr ⟨o, at_.trans e⟩)
    · exact .inr e
  have its : ∀ l : List Int, Tys ((l.map PyData.int).map (dat K)) (l.map V.int) G := fun l => by
    induction l with
    | nil => exact .nil
    | cons x l ih => exact .cons (.int x) ih
  exact ⟨ns, ⟨G, H, sub⟩, #[], rfl, Nat.le_trans hl (by decide), .cons (dat_list.mpr ⟨a, _, rfl, sq, its ns⟩) .nil, ⟨hP, if_pos rfl⟩, TblOk.nil _ _, fun _ => rfl⟩
/-- what the head tells is enough for the law -/
theorem law_of {w : World} {mg : Str → Option Value} {h : Heap} (Y : hookK.says w h) (G : h.Ns mainGlobals mg) : ∃ (K : PySem.W.Frag) (c TP : Addr) (sp : Sp), K.In h ∧ h.get? TP = some tabE ∧ K.lookup TP = none ∧ PySem.W.CodeHd h c TP ∧
    (∀ (H : Hp) (a : Addr) (ns : List Int), ns.length ≤ 63 → H TP = some (.tbl #[]) → a ≠ TP → SqL K H a (ns.map V.int) → sp [.ref a] H (fun v _ => v = .bl true) fun _ _ _ => False) ∧
    ∀ base : Heap, K.In base → base.Ns mainGlobals mg → TabB base mg c TP → GCal RR.prog w K mg base 11 "law" ["_law_script"] sp := by
  obtain ⟨K, c, TP, o⟩ := Y
  have T : Told1 K mg := told1 o.kin G o.says
  obtain ⟨TR, XF⟩ := ref_ok o.kin G o.says T o.ref o.refv (by rfl)
  have Dr := refd_ok o.kin G o.says o.cod T
  exact ⟨K, c, TP, spLaw K TP, o.kin, o.tab, o.nK, PySem.W.codeHd_of_K o.kin o.hd, fun H a ns hl hP ha hS => sp_start hl hP ha hS, fun base kin G2 tb => chain T Dr TR XF tb⟩
end K27
open PySem PySem.W PySem.Calls PyProof.Rows
theorem PySem.Challenge.cw_agedcopy_k27_whole_least_numbers_of_mach_holds : PySem.Challenge.rw_agedcopy_k27_whole_least_numbers_of_mach.Holds := by
  w_on; o_law
  refine HandSHeadRun.head_any (r := OpenLaw.row PySem.Challenge.rw_agedcopy_k27_whole_least_numbers_of_mach) (q := K27.qv) (H := K27.hookK) (ob := K27.obS) (M := 4000) (loose := K27.nms) (d := HandSHeadRun.topDef (OpenLaw.row PySem.Challenge.rw_agedcopy_k27_whole_least_numbers_of_mach).prog 55) (kwd := []) K27.obS_eq
    (by kernel_rfl) (fun s => by kernel_rfl) K27.runK (by kernel_rfl) (by kernel_rfl) (by kernel_rfl) (by rfl) (by first | assumption | decide +kernel) (by decide +kernel) ⟨rfl, rfl, rfl, rfl, rfl, by decide +kernel⟩ ?hw ?hc
  case hw => w_witness2
  case hc =>
    refine K27.law_walks (l := PySem.Challenge.rw_agedcopy_k27_whole_least_numbers_of_mach) (n := 63) (k := 11) (x := "_law_script") rfl (by decide) (by kernel_rfl) ⟨rfl, by decide, by decide⟩ ?F
    intro w mg f h Y G hmg
    have e : (HandSHeadRun.topDef (OpenLaw.row PySem.Challenge.rw_agedcopy_k27_whole_least_numbers_of_mach).prog 55).name = ("law" : PySem.Str) := by kernel_rfl
    rw [e]
    exact K27.law_of Y G
