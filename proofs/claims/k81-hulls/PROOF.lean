import PyProof.Rows.All
import Wide.All
import OpenK.AllK
import Wide.FinOn
import HandS.ForMost
import HandS.Deep
import HandS.Wide
import HandS.Style
import HandS.TupSets
import HandS.SortOrd
import HandS.SortRule
import HandS.Exc
import HandS.ExcOwn
import HandS.TryOnly
import HandS.WordsExc
import HandS.IsInst
import KE.DatumOrd
import PySem.Challenge.RW_portolan_k81_whole_hulls_and_halves
set_option Elab.async false
set_option linter.all false
set_option maxRecDepth 100000
/-! A logic over plain data on top of the hand layer: what an expression, a test, a statement does to a list of slots that hold data. -/
namespace Dt
open PySem PySem.Spec PyProof.Rows L2

/-! ### data in a heap: lists stand in the heap by themselves -/
mutual
inductive Rp (K : PySem.W.Frag) (H : Hp) : V → PyData → Prop
  | non : Rp K H .non .none
  | bl (b : Bool) : Rp K H (.bl b) (.bool b)
  | int (i : Int) : Rp K H (.int i) (.int i)
  | str (x : Str) : Rp K H (.str x) (.str x)
  | lst {a : Addr} {xs : List V} {ds : List PyData} : H a = some (.lst xs) → RpAll K H xs ds → Rp K H (.ref a) (.list ds)
  | tup {a : Addr} {xs : List V} {ds : List PyData} : SqT K H a xs → RpAll K H xs ds → Rp K H (.ref a) (.tuple ds)
inductive RpAll (K : PySem.W.Frag) (H : Hp) : List V → List PyData → Prop
  | nil : RpAll K H [] []
  | cons {v : V} {vs : List V} {d : PyData} {ds : List PyData} : Rp K H v d → RpAll K H vs ds → RpAll K H (v :: vs) (d :: ds)
end
theorem sqT_same {K : PySem.W.Frag} {H H' : Hp} {a : Addr} {xs : List V} (e : Same H H') (h : SqT K H a xs) : SqT K H' a xs := by
  rcases h with (h | ⟨o, h⟩) | h
  · exact .inl (.inl (e _ _ h))
  · exact .inl (.inr ⟨o, e _ _ h⟩)
  · exact .inr h
mutual
theorem dp_same {K : PySem.W.Frag} {H H' : Hp} (e : Same H H') : ∀ {v : V} {d : PyData}, Rp K H v d → Rp K H' v d
  | _, _, .non => .non
  | _, _, .bl b => .bl b
  | _, _, .int i => .int i
  | _, _, .str x => .str x
  | _, _, .lst hs ha => .lst (e _ _ hs) (dpAll_same e ha)
  | _, _, .tup hs ha => .tup (sqT_same e hs) (dpAll_same e ha)
theorem dpAll_same {K : PySem.W.Frag} {H H' : Hp} (e : Same H H') : ∀ {vs : List V} {ds : List PyData}, RpAll K H vs ds → RpAll K H' vs ds
  | _, _, .nil => .nil
  | _, _, .cons h1 h2 => .cons (dp_same e h1) (dpAll_same e h2)
end
mutual
theorem Rp.dp {K : PySem.W.Frag} {H : Hp} : ∀ {v : V} {d : PyData}, Rp K H v d → Dp K H v d
  | _, _, .non => .non
  | _, _, .bl b => .bl b
  | _, _, .int i => .int i
  | _, _, .str x => .str x
  | _, _, .lst hs ha => .lst (SqL.of hs) (RpAll.dp ha)
  | _, _, .tup hs ha => .tup hs (RpAll.dp ha)
theorem RpAll.dp {K : PySem.W.Frag} {H : Hp} : ∀ {vs : List V} {ds : List PyData}, RpAll K H vs ds → DpAll K H vs ds
  | _, _, .nil => .nil
  | _, _, .cons h1 h2 => .cons (Rp.dp h1) (RpAll.dp h2)
end
theorem dpAll_len {K : PySem.W.Frag} {H : Hp} : ∀ {vs : List V} {ds : List PyData}, RpAll K H vs ds → vs.length = ds.length
  | _, _, .nil => rfl
  | _, _, .cons _ h => by rw [List.length_cons, List.length_cons, dpAll_len h]
theorem dpAll_get {K : PySem.W.Frag} {H : Hp} : ∀ {vs : List V} {ds : List PyData} {i : Nat} {d : PyData}, RpAll K H vs ds → ds[i]? = some d → ∃ v, vs[i]? = some v ∧ Rp K H v d
  | _, _, _, _, .nil, h => by simp at h
  | _, _, 0, d, .cons (v := v) h1 _, h => by
    have e := Option.some.inj h
    subst e
    exact ⟨v, rfl, h1⟩
  | _, _, i + 1, d, .cons _ h2, h => dpAll_get (i := i) h2 h
theorem dpAll_getV {K : PySem.W.Frag} {H : Hp} : ∀ {vs : List V} {ds : List PyData} {i : Nat} {v : V}, RpAll K H vs ds → vs[i]? = some v → ∃ d, ds[i]? = some d ∧ Rp K H v d
  | _, _, _, _, .nil, h => by simp at h
  | _, _, 0, v, .cons (d := d) h1 _, h => by
    have e := Option.some.inj h
    subst e
    exact ⟨d, rfl, h1⟩
  | _, _, i + 1, v, .cons _ h2, h => dpAll_getV (i := i) h2 h
theorem dpAll_app {K : PySem.W.Frag} {H : Hp} : ∀ {vs ws : List V} {ds es : List PyData}, RpAll K H vs ds → RpAll K H ws es → RpAll K H (vs ++ ws) (ds ++ es)
  | _, _, _, _, .nil, h => h
  | _, _, _, _, .cons h1 h2, h => .cons h1 (dpAll_app h2 h)
theorem dpAll_take {K : PySem.W.Frag} {H : Hp} : ∀ {vs : List V} {ds : List PyData} (n : Nat), RpAll K H vs ds → RpAll K H (vs.take n) (ds.take n)
  | _, _, 0, _ => .nil
  | _, _, _ + 1, .nil => .nil
  | _, _, n + 1, .cons h1 h2 => .cons h1 (dpAll_take n h2)
theorem dpAll_drop {K : PySem.W.Frag} {H : Hp} : ∀ {vs : List V} {ds : List PyData} (n : Nat), RpAll K H vs ds → RpAll K H (vs.drop n) (ds.drop n)
  | _, _, 0, h => h
  | _, _, _ + 1, .nil => .nil
  | _, _, n + 1, .cons _ h2 => dpAll_drop n h2
theorem dpAll_rev {K : PySem.W.Frag} {H : Hp} : ∀ {vs : List V} {ds : List PyData}, RpAll K H vs ds → RpAll K H vs.reverse ds.reverse
  | _, _, .nil => .nil
  | _, _, .cons h1 h2 => by
    rw [List.reverse_cons, List.reverse_cons]
    exact dpAll_app (dpAll_rev h2) (.cons h1 .nil)
theorem dpAll_ints {K : PySem.W.Frag} {H : Hp} : ∀ {vs : List V} {ns : List Int}, RpAll K H vs (ns.map PyData.int) → vs = ns.map V.int
  | _, [], h => by cases h; rfl
  | _, n :: ns, h => by
    cases h with
    | cons h1 h2 =>
      cases h1
      rw [dpAll_ints h2]
      rfl
theorem ints_dpAll {K : PySem.W.Frag} {H : Hp} : ∀ (ns : List Int), RpAll K H (ns.map V.int) (ns.map PyData.int)
  | [] => .nil
  | n :: ns => .cons (.int n) (ints_dpAll ns)
theorem dp_lst {K : PySem.W.Frag} {H : Hp} {v : V} {ds : List PyData} (h : Rp K H v (.list ds)) : ∃ a xs, v = .ref a ∧ H a = some (.lst xs) ∧ RpAll K H xs ds := by
  cases h with
  | lst h1 h2 => exact ⟨_, _, rfl, h1, h2⟩
theorem dp_tup {K : PySem.W.Frag} {H : Hp} {v : V} {ds : List PyData} (h : Rp K H v (.tuple ds)) : ∃ a xs, v = .ref a ∧ SqT K H a xs ∧ RpAll K H xs ds := by
  cases h with
  | tup h1 h2 => exact ⟨_, _, rfl, h1, h2⟩
theorem dp_int {K : PySem.W.Frag} {H : Hp} {v : V} {i : Int} (h : Rp K H v (.int i)) : v = .int i := by cases h; rfl
theorem dp_bool {K : PySem.W.Frag} {H : Hp} {v : V} {i : Bool} (h : Rp K H v (.bool i)) : v = .bl i := by cases h; rfl
theorem dp_str {K : PySem.W.Frag} {H : Hp} {v : V} {i : Str} (h : Rp K H v (.str i)) : v = .str i := by cases h; rfl
theorem dp_none {K : PySem.W.Frag} {H : Hp} {v : V} (h : Rp K H v .none) : v = .non := by cases h; rfl

/-! ### slots -/
/-- what a slot holds: data that never changes any more; a list of its own, still changed; the pool of draws -/
inductive Sl where
  | d (x : PyData)
  | own (xs : List PyData)
  | pool (rows : List Int) (pos : Int)
  | scr (ns : List Int)
abbrev Ds := List (Option Sl)
/-- what stood at the entry: the heap, what of it is data, what may be changed -/
structure Ctx where
  H0 : Hp
  F0 : Hp
  M : Addr → Prop
  G : Hp

def SlOk (K : PySem.W.Frag) (c : Ctx) (F H : Hp) (s : Sl) (v : V) (A : Addr → Prop) : Prop := match s with
  | .d x => Rp K F v x
  | .own xs => ∃ l vs, v = .ref l ∧ H l = some (.lst vs) ∧ RpAll K F vs xs ∧ A l ∧ ¬ c.M l
  | .pool rows pos => ∃ p r q, v = .ref p ∧ F p = some (.lst [.ref r, .ref q]) ∧ F r = some (.lst (rows.map V.int)) ∧ H q = some (.lst [.int pos]) ∧ A q ∧ (c.M q ∨ ∀ a, ¬ c.M a)
  | .scr ns => ∃ a, v = .ref a ∧ SqL K c.H0 a (ns.map V.int) ∧ ¬ c.M a

structure EnvB (c : Ctx) (F H : Hp) : Prop where
  sub : Same F H
  f0 : Same c.F0 F
  base : ∀ a o, ¬ c.M a → c.H0 a = some o → H a = some o
  mt : ∀ a, c.M a → H a ≠ none
  cln : ∀ a, c.H0 a ≠ none → F a ≠ none → c.F0 a ≠ none
  gd : ∀ a o, c.G a = some o → H a = some o
  gf : ∀ a, c.G a ≠ none → F a = none
structure EnvD (K : PySem.W.Frag) (c : Ctx) (F : Hp) (ds : Ds) (σ : L2.St) (H : Hp) : Prop extends EnvB c F H where
  own : ∃ A : Nat → Addr → Prop, (∀ i j a, A i a → A j a → i = j) ∧ (∀ i a, A i a → F a = none ∧ H a ≠ none ∧ (c.H0 a = none ∨ c.M a) ∧ c.G a = none) ∧
    ∀ i s, ds[i]? = some (some s) → ∃ v, σ[i]? = some (some v) ∧ SlOk K c F H s v (A i)
  len : σ.length = ds.length

/-- new things laid, data all of them; nothing that was there is taken -/
structure Nx (F H F' H' : Hp) : Prop where
  f : Same F F'
  h : Same H H'
  fh : Same F' H'
  cl : ∀ a, H a ≠ none → F' a ≠ none → F a ≠ none
theorem Nx.refl {F H : Hp} (s : Same F H) : Nx F H F H := ⟨Same.refl F, Same.refl H, s, fun _ _ h => h⟩
theorem same_new {H : Hp} {p : Addr} {o : HO} (h : H p = none) : Same H (upd H p o) := fun b x e => by
  rw [upd_ne (ne_of_none e h)]
  exact e
theorem Nx.new {F H : Hp} (s : Same F H) {p : Addr} {o : HO} (h : H p = none) : Nx F H (upd F p o) (upd H p o) := by
  refine ⟨same_new (s.free h), same_new h, fun b x e => ?_, fun a ha hf => ?_⟩
  · by_cases hb : b = p
    · subst hb
      rw [upd_same] at e ⊢
      exact e
    · rw [upd_ne hb] at e ⊢
      exact s b x e
  · by_cases hb : a = p
    · subst hb
      exact absurd h ha
    · rw [upd_ne hb] at hf
      exact hf
theorem none_same {F F' : Hp} {a : Addr} (s : Same F F') (h : F' a = none) : F a = none := s.free h
theorem Nx.trans {F H F1 H1 F2 H2 : Hp} (a : Nx F H F1 H1) (b : Nx F1 H1 F2 H2) : Nx F H F2 H2 := by
  refine ⟨a.f.trans b.f, a.h.trans b.h, b.fh, fun x hx hf => a.cl x hx (b.cl x (fun e => hx ?_) hf)⟩
  exact none_same a.h e
theorem EnvB.nx {c : Ctx} {F H F' H' : Hp} (e : EnvB c F H) (n : Nx F H F' H') : EnvB c F' H' := by
  refine ⟨n.fh, e.f0.trans n.f, fun a o hm h0 => n.h a o (e.base a o hm h0), fun a hm z => e.mt a hm (none_same n.h z), fun a h0 hf => ?_, fun a o g => n.h a o (e.gd a o g), fun a g => ?_⟩
  · refine e.cln a h0 (n.cl a (fun z => ?_) hf)
    by_cases hm : c.M a
    · exact e.mt a hm z
    · cases q : c.H0 a with
      | none => exact h0 q
      | some o =>
        rw [e.base a o hm q] at z
        cases z
  · cases q : F' a with
    | none => rfl
    | some o =>
      refine absurd (e.gf a g) (n.cl a (fun z => ?_) (by rw [q]; intro z; cases z))
      cases r : c.G a with
      | none => exact g r
      | some u =>
        rw [e.gd a u r] at z
        cases z
theorem SlOk.nx {K : PySem.W.Frag} {c : Ctx} {F H F' H' : Hp} {s : Sl} {v : V} {A : Addr → Prop} (n : Nx F H F' H') (h : SlOk K c F H s v A) : SlOk K c F' H' s v A := by
  cases s with
  | d x => exact dp_same n.f h
  | own xs =>
    obtain ⟨l, vs, e, h1, h2, h3⟩ := h
    exact ⟨l, vs, e, n.h _ _ h1, dpAll_same n.f h2, h3⟩
  | pool rows pos =>
    obtain ⟨p, r, q, e, h1, h2, h3, h4⟩ := h
    exact ⟨p, r, q, e, n.f _ _ h1, n.f _ _ h2, n.h _ _ h3, h4⟩
  | scr ns => exact h
theorem EnvD.nx {K : PySem.W.Frag} {c : Ctx} {F H F' H' : Hp} {ds : Ds} {σ : L2.St} (e : EnvD K c F ds σ H) (n : Nx F H F' H') : EnvD K c F' ds σ H' := by
  obtain ⟨A, a1, a2, a3⟩ := e.own
  refine ⟨e.toEnvB.nx n, ⟨A, a1, fun i a h => ?_, fun i s h => ?_⟩, e.len⟩
  · obtain ⟨h1, h2, h3⟩ := a2 i a h
    refine ⟨?_, fun z => h2 (none_same n.h z), h3⟩
    cases q : F' a with
    | none => rfl
    | some o => exact absurd h1 (n.cl a h2 (by rw [q]; intro z; cases z))
  · obtain ⟨v, h1, h2⟩ := a3 i s h
    exact ⟨v, h1, h2.nx n⟩

/-! ### the weakest readings -/
section
variable (X : Cx)
def tE (e : Expr) : TE := fun σ H Q => ∀ pins s, Inv X pins σ H s → wpAny (model X.prog X.w) X.A (eval e X.env) (EP X pins σ Q) X.xe s
def tT (e : Expr) : TT := fun σ H Q => ∀ pins s, Inv X pins σ H s → wpAny (model X.prog X.w) X.A (isTrue e X.env (eval e X.env)) (TP X pins σ Q) X.xe s
def tW (e : Expr) : TT := fun σ H Q => ∀ (whole : Sem Value) pins s, Inv X pins σ H s → wpAny (model X.prog X.w) X.A (isTrue e X.env whole) (TP X pins σ Q) X.xe s
def tA (es : List Expr) : TA := fun σ H Q => ∀ (pos : Pos) pins s, Inv X pins σ H s → wpAny (model X.prog X.w) X.A (spliced (backTo pos (starEach es X.env))) (AP X pins σ Q) X.xe s
def tS (st : Stmt) : TS := fun D σ H => ∀ pins s, Inv X pins σ H s → wpAny (model X.prog X.w) X.A (exec st X.env) (SP X pins D) X.xe s
def tB' (st : List Stmt) : TS := fun D σ H => ∀ pins s, Inv X pins σ H s → wpAny (model X.prog X.w) X.A (execs st X.env) (SP X pins D) X.xe s
def tG (target : Expr) : TG := fun v σ H Q => ∀ pins s u, Inv X pins σ H s → RelV v u →
    wpAny (model X.prog X.w) X.A (assign target X.env u) (fun _ s' => ∃ σ' H', Inv X pins σ' H' s' ∧ Q σ' H') X.xe s
def tGs (ts : List Expr) : TGs := fun vs σ H Q => ∀ pins s us, Inv X pins σ H s → Vals vs us →
    wpAny (model X.prog X.w) X.A (assignInOrder ((assignEach ts X.env).map (·.2)) us) (fun _ s' => ∃ σ' H', Inv X pins σ' H' s' ∧ Q σ' H') X.xe s
def tIfs (ifs : List Expr) : TT := fun σ H Q => ∀ pins s, Inv X pins σ H s →
    wpAny (model X.prog X.w) X.A (forIn ifs true fun c r => if r = true then do let ok ← isTrue c X.env (eval c X.env); pure (ForInStep.yield ok) else pure (ForInStep.yield r)) (TP X pins σ Q) X.xe s
end
section
variable {X : Cx}
theorem pe_self (e : Expr) : PE X e (tE X e) := ⟨fun pins s _ _ _ I h => h pins s I⟩
theorem pt_self (e : Expr) : PT X e (tT X e) := ⟨fun pins s _ _ _ I h => h pins s I⟩
theorem pw_self (e : Expr) : PW X e (tW X e) := ⟨fun w pins s _ _ _ I h => h w pins s I⟩
theorem pa_self (es : List Expr) : PA X es (tA X es) := ⟨fun pos pins s _ _ _ I h => h pos pins s I⟩
theorem ps_self (st : Stmt) : PS X st (tS X st) := ⟨fun pins s _ _ _ I h => h pins s I⟩
theorem pss_self (st : List Stmt) : PSs X st (tB' X st) := ⟨fun pins s _ _ _ I h => h pins s I⟩
theorem pg_self (e : Expr) : PG X e (tG X e) := ⟨fun pins s _ _ _ u _ I r h => h pins s u I r⟩
theorem pgs_self (es : List Expr) : PGs X es (tGs X es) := ⟨fun pins s _ _ _ us _ I r h => h pins s us I r⟩
theorem pts_self (es : List Expr) : PTs X es (tIfs X es) := ⟨fun pins s _ _ _ I h => h pins s I⟩
end

/-! ### the judgements -/
section
variable (K : PySem.W.Frag) (c : Ctx)
def ED (t : TE) (ds : Ds) (d : PyData) (ds' : Ds) : Prop := ∀ F σ H, EnvD K c F ds σ H → ∀ Q : VK, (∀ v F' H', Same F F' → EnvD K c F' ds' σ H' → Rp K F' v d → Q v H') → t σ H Q
def AD (t : TA) (ds : Ds) (xs : List PyData) (ds' : Ds) : Prop := ∀ F σ H, EnvD K c F ds σ H → ∀ Q : List V → Hp → Prop, (∀ vs F' H', Same F F' → EnvD K c F' ds' σ H' → RpAll K F' vs xs → Q vs H') → t σ H Q
def TD (t : TT) (ds : Ds) (b : Bool) (ds' : Ds) : Prop := ∀ F σ H, EnvD K c F ds σ H → ∀ Q : Bool → Hp → Prop, (∀ F' H', Same F F' → EnvD K c F' ds' σ H' → Q b H') → t σ H Q
structure Post where
  nx : Ds → Prop
  rt : PyData → Ds → Prop
  bk : Ds → Prop := fun _ => False
  ct : Ds → Prop := fun _ => False
structure Mts (F : Hp) (P : Post) (D : Ends) : Prop where
  nx : ∀ F' σ H ds, Same F F' → EnvD K c F' ds σ H → P.nx ds → D.nx σ H
  rt : ∀ F' σ H ds v d, Same F F' → EnvD K c F' ds σ H → Rp K F' v d → P.rt d ds → D.rt v H
  bk : ∀ F' σ H ds, Same F F' → EnvD K c F' ds σ H → P.bk ds → D.bk σ H
  ct : ∀ F' σ H ds, Same F F' → EnvD K c F' ds σ H → P.ct ds → D.ct σ H
def SD (t : TS) (ds : Ds) (P : Post) : Prop := ∀ F σ H D, EnvD K c F ds σ H → Mts K c F P D → t D σ H
/-- a value given to a target: the slots js are stored -/
def GD (js : List Nat) (g : TG) (x : PyData) (ds ds' : Ds) : Prop := ∀ F σ H v, EnvD K c F ds σ H → Rp K F v x → ∀ Q : L2.St → Hp → Prop, (∀ σ', σ'.length = σ.length → (∀ j, j ∉ js → σ'[j]? = σ[j]?) → EnvD K c F ds' σ' H → Q σ' H) → g v σ H Q
def GDs (js : List Nat) (g : TGs) (xs : List PyData) (ds ds' : Ds) : Prop := ∀ F σ H vs, EnvD K c F ds σ H → RpAll K F vs xs → ∀ Q : L2.St → Hp → Prop, (∀ σ', σ'.length = σ.length → (∀ j, j ∉ js → σ'[j]? = σ[j]?) → EnvD K c F ds' σ' H → Q σ' H) → g vs σ H Q
end
section
variable (X : Cx) (c : Ctx)
structure XE (e : Expr) (ds : Ds) (d : PyData) (ds' : Ds) : Prop where
  run : ED X.K c (tE X e) ds d ds'
structure XA (es : List Expr) (ds : Ds) (xs : List PyData) (ds' : Ds) : Prop where
  run : AD X.K c (tA X es) ds xs ds'
structure XT (e : Expr) (ds : Ds) (b : Bool) (ds' : Ds) : Prop where
  run : TD X.K c (tT X e) ds b ds'
structure XW (e : Expr) (ds : Ds) (b : Bool) (ds' : Ds) : Prop where
  run : TD X.K c (tW X e) ds b ds'
structure XIfs (es : List Expr) (ds : Ds) (b : Bool) (ds' : Ds) : Prop where
  run : TD X.K c (tIfs X es) ds b ds'
structure XS (st : Stmt) (ds : Ds) (P : Post) : Prop where
  run : SD X.K c (tS X st) ds P
structure XB (st : List Stmt) (ds : Ds) (P : Post) : Prop where
  run : SD X.K c (tB' X st) ds P
structure XG (js : List Nat) (e : Expr) (x : PyData) (ds ds' : Ds) : Prop where
  run : GD X.K c js (tG X e) x ds ds'
structure XGs (js : List Nat) (es : List Expr) (xs : List PyData) (ds ds' : Ds) : Prop where
  run : GDs X.K c js (tGs X es) xs ds ds'
end
section
variable {X : Cx} {c : Ctx} {ds ds1 ds2 ds' : Ds}
theorem xe_of {e : Expr} {t : TE} {d : PyData} (h : PE X e t) (h2 : ED X.K c t ds d ds') : XE X c e ds d ds' := ⟨fun F σ H E Q q pins s I => h.run pins s σ H Q I (h2 F σ H E Q q)⟩
theorem xa_of {es : List Expr} {t : TA} {xs : List PyData} (h : PA X es t) (h2 : AD X.K c t ds xs ds') : XA X c es ds xs ds' := ⟨fun F σ H E Q q pos pins s I => h.run pos pins s σ H Q I (h2 F σ H E Q q)⟩
theorem xt_of {e : Expr} {t : TT} {b : Bool} (h : PT X e t) (h2 : TD X.K c t ds b ds') : XT X c e ds b ds' := ⟨fun F σ H E Q q pins s I => h.run pins s σ H Q I (h2 F σ H E Q q)⟩
theorem xw_of {e : Expr} {t : TT} {b : Bool} (h : PW X e t) (h2 : TD X.K c t ds b ds') : XW X c e ds b ds' := ⟨fun F σ H E Q q w pins s I => h.run w pins s σ H Q I (h2 F σ H E Q q)⟩
theorem xs_of {st : Stmt} {t : TS} {P : Post} (h : PS X st t) (h2 : SD X.K c t ds P) : XS X c st ds P := ⟨fun F σ H D E m pins s I => h.run pins s σ H D I (h2 F σ H D E m)⟩
theorem xb_of {st : List Stmt} {t : TS} {P : Post} (h : PSs X st t) (h2 : SD X.K c t ds P) : XB X c st ds P := ⟨fun F σ H D E m pins s I => h.run pins s σ H D I (h2 F σ H D E m)⟩
theorem xg_of {js : List Nat} {e : Expr} {g : TG} {x : PyData} (h : PG X e g) (h2 : GD X.K c js g x ds ds') : XG X c js e x ds ds' := ⟨fun F σ H v E r Q q pins s u I rv => h.run pins s σ H v u Q I rv (h2 F σ H v E r Q q)⟩
theorem xgs_of {js : List Nat} {es : List Expr} {g : TGs} {xs : List PyData} (h : PGs X es g) (h2 : GDs X.K c js g xs ds ds') : XGs X c js es xs ds ds' := ⟨fun F σ H v E r Q q pins s u I rv => h.run pins s σ H v u Q I rv (h2 F σ H v E r Q q)⟩
theorem xifs_of {es : List Expr} {t : TT} {b : Bool} (h : PTs X es t) (h2 : TD X.K c t ds b ds') : XIfs X c es ds b ds' := ⟨fun F σ H E Q q pins s I => h.run pins s σ H Q I (h2 F σ H E Q q)⟩
end
theorem Mts.mono {K : PySem.W.Frag} {c : Ctx} {F F1 : Hp} {P : Post} {D : Ends} (m : Mts K c F P D) (s : Same F F1) : Mts K c F1 P D :=
  ⟨fun F' σ H ds h => m.nx F' σ H ds (s.trans h), fun F' σ H ds v d h => m.rt F' σ H ds v d (s.trans h), fun F' σ H ds h => m.bk F' σ H ds (s.trans h), fun F' σ H ds h => m.ct F' σ H ds (s.trans h)⟩
end Dt
set_option maxRecDepth 100000
namespace Dt
open PySem PySem.Spec PyProof.Rows L2
section
variable {X : Cx} {c : Ctx} {ds ds1 ds2 ds3 ds' : Ds} {a b e e1 e2 e3 : Expr} {pos : Pos} {x y z : PyData}
/-! ### names and constants -/
theorem xe_var (i : Nat) {n : Str} (hd : ds[i]? = some (some (.d x))) (hN : X.N[i]? = some n) (hv : Vis X.env.scope n) (h1 : (n == ("__debug__" : Str)) = false := by decide) (h2 : (n == ("__classdict__" : Str)) = false := by decide) : XE X c (.Name n pos) ds x ds :=
  xe_of (pe_var hN hv h1 h2) fun F σ H E Q q => by
    obtain ⟨A, a1, a2, a3⟩ := E.own
    obtain ⟨v, h3, h4⟩ := a3 i _ hd
    exact ⟨v, h3, q v F H (Same.refl F) E h4⟩
theorem ed_const {v : V} (h : ∀ F, Rp X.K F v x) : ED X.K c (tC v) ds x ds := fun F σ H E Q q => q v F H (Same.refl F) E (h F)
theorem xe_int {i j} : XE X c (.Constant (.int i) j pos) ds (.int i) ds := xe_of pe_int (ed_const fun _ => .int i)
theorem xe_bl {i j} : XE X c (.Constant (.bool i) j pos) ds (.bool i) ds := xe_of pe_bl (ed_const fun _ => .bl i)
theorem xe_non {j} : XE X c (.Constant .none j pos) ds .none ds := xe_of pe_non (ed_const fun _ => .non)
theorem xe_str {s j} : XE X c (.Constant (.str s) j pos) ds (.str s) ds := xe_of pe_str (ed_const fun _ => .str s)
/-- the name of a list of its own, read as a whole: from then on it is data -/
theorem xe_frz (i : Nat) {n : Str} {xs : List PyData} (hd : ds[i]? = some (some (.own xs))) (hs : ds' = ds.set i (some (.d (.list xs)))) (hN : X.N[i]? = some n) (hv : Vis X.env.scope n) (h1 : (n == ("__debug__" : Str)) = false := by decide) (h2 : (n == ("__classdict__" : Str)) = false := by decide) :
    XE X c (.Name n pos) ds (.list xs) ds' :=
  xe_of (pe_var hN hv h1 h2) fun F σ H E Q q => by
    obtain ⟨A, a1, a2, a3⟩ := E.own
    obtain ⟨v, h3, l, vs, rfl, h4, h5, h6, h7⟩ := a3 i _ hd
    obtain ⟨f1, f2, f3, f4⟩ := a2 i l h6
    have sF : Same F (upd F l (.lst vs)) := same_new f1
    have dl : Rp X.K (upd F l (.lst vs)) (.ref l) (.list xs) := .lst upd_same (dpAll_same sF h5)
    refine ⟨_, h3, q (.ref l) (upd F l (.lst vs)) H sF ⟨⟨fun p o e => ?_, E.f0.trans sF, E.base, E.mt, fun p h0 hf => ?_, E.gd, fun p g => ?_⟩, ⟨fun j p => A j p ∧ p ≠ l, fun i j p h h' => a1 i j p h.1 h'.1, fun j p h => ?_, fun j s h => ?_⟩, ?_⟩ dl⟩
    · by_cases hp : p = l
      · subst hp
        rw [upd_same] at e
        cases e
        exact h4
      · rw [upd_ne hp] at e
        exact E.sub p o e
    · by_cases hp : p = l
      · subst hp
        rcases f3 with f3 | f3
        · exact absurd f3 h0
        · exact absurd f3 h7
      · rw [upd_ne hp] at hf
        exact E.cln p h0 hf
    · rw [upd_ne (fun z => g (by rw [z]; exact f4))]
      exact E.gf p g
    · obtain ⟨g1, g2, g3⟩ := a2 j p h.1
      exact ⟨by rw [upd_ne h.2]; exact g1, g2, g3⟩
    · subst hs
      by_cases hj : j = i
      · subst hj
        rw [List.getElem?_set_self (List.getElem?_eq_some_iff.mp hd).1] at h
        cases h
        exact ⟨_, h3, dl⟩
      · rw [List.getElem?_set_ne (Ne.symm hj)] at h
        obtain ⟨w, g1, g2⟩ := a3 j s h
        refine ⟨w, g1, ?_⟩
        cases s with
        | d z => exact dp_same sF g2
        | own ys =>
          obtain ⟨l', ws, e, k1, k2, k3, k5⟩ := g2
          exact ⟨l', ws, e, k1, dpAll_same sF k2, ⟨k3, fun z => hj (a1 j i l' k3 (by rw [z]; exact h6))⟩, k5⟩
        | pool rows po =>
          obtain ⟨p, r, cc, e, k1, k2, k3, k4, k6⟩ := g2
          exact ⟨p, r, cc, e, sF _ _ k1, sF _ _ k2, k3, ⟨k4, fun z => hj (a1 j i cc k4 (by rw [z]; exact h6))⟩, k6⟩
        | scr ns => exact g2
    · subst hs
      rw [List.length_set]
      exact E.len
end
end Dt
set_option maxRecDepth 100000
namespace Dt
open PySem PySem.Spec PyProof.Rows L2
/-! ### operators by data -/
section
variable (X : Cx)
structure OpD (f : Value → Value → Sem Value) (x y z : PyData) : Prop where
  ex : ∃ r : R2, OpR X f r ∧ ∀ F H v w, Same F H → Rp X.K F v x → Rp X.K F w y → ∀ Q : VK, (∀ u F' H', Nx F H F' H' → Rp X.K F' u z → Q u H') → r v w H Q
structure UnD (f : Value → Sem Value) (x z : PyData) : Prop where
  ex : ∃ r, UnR X f r ∧ ∀ F H v, Same F H → Rp X.K F v x → ∀ Q : VK, (∀ u F' H', Nx F H F' H' → Rp X.K F' u z → Q u H') → r v H Q
structure IxD (x y z : PyData) : Prop where
  ex : ∃ r : R2, IxR X r ∧ ∀ F H v w, Same F H → Rp X.K F v x → Rp X.K F w y → ∀ Q : VK, (∀ u F' H', Nx F H F' H' → Rp X.K F' u z → Q u H') → r v w H Q
structure CallD (f : Value) (xs : List PyData) (z : PyData) : Prop where
  ex : ∃ r, CallR X f r ∧ ∀ F H vs, Same F H → RpAll X.K F vs xs → ∀ Q : VK, (∀ u F' H', Nx F H F' H' → Rp X.K F' u z → Q u H') → r vs H Q
end
section
variable {X : Cx} {c : Ctx} {ds ds1 ds2 ds3 ds' : Ds} {a b e e1 e2 e3 : Expr} {es : List Expr} {pos p : Pos} {x y z d : PyData} {xs : List PyData}
theorem xe_op {op : Operator} (ha : XE X c a ds x ds1) (hb : XE X c b ds1 y ds2) (ho : OpD X (binaryOp op) x y z) : XE X c (.BinOp a op b pos) ds z ds2 := by
  obtain ⟨r, h1, h2⟩ := ho.ex
  refine xe_of (pe_op h1 (pe_self a) (pe_self b)) fun F σ H E Q q => ?_
  refine ha.run F σ H E _ fun v F1 H1 s1 E1 d1 => hb.run F1 σ H1 E1 _ fun w F2 H2 s2 E2 d2 => ?_
  exact h2 F2 H2 v w E2.sub (dp_same s2 d1) d2 Q fun u F3 H3 n d3 => q u F3 H3 ((s1.trans s2).trans n.f) (E2.nx n) d3
theorem xe_un {op : UnaryOp} (ha : XE X c a ds x ds1) (ho : UnD X (unaryOp op) x z) : XE X c (.UnaryOp op a pos) ds z ds1 := by
  obtain ⟨r, h1, h2⟩ := ho.ex
  refine xe_of (pe_un h1 (pe_self a)) fun F σ H E Q q => ?_
  refine ha.run F σ H E _ fun v F1 H1 s1 E1 d1 => ?_
  exact h2 F1 H1 v E1.sub d1 Q fun u F3 H3 n d3 => q u F3 H3 (s1.trans n.f) (E1.nx n) d3
theorem xe_ix (ha : XE X c a ds x ds1) (hb : XE X c b ds1 y ds2) (ho : IxD X x y z) (hs : PlainIx b := by exact fun _ _ => rfl) : XE X c (.Subscript a b pos) ds z ds2 := by
  obtain ⟨r, h1, h2⟩ := ho.ex
  refine xe_of (pe_ix h1 (pe_self a) (pe_self b) hs) fun F σ H E Q q => ?_
  refine ha.run F σ H E _ fun v F1 H1 s1 E1 d1 => hb.run F1 σ H1 E1 _ fun w F2 H2 s2 E2 d2 => ?_
  exact h2 F2 H2 v w E2.sub (dp_same s2 d1) d2 Q fun u F3 H3 n d3 => q u F3 H3 ((s1.trans s2).trans n.f) (E2.nx n) d3
theorem xe_cmp {op : CmpOp} (ha : XE X c a ds x ds1) (hb : XE X c b ds1 y ds2) (ho : OpD X (compareOp op) x y z) (hm : behindInMarks op b = false) : XE X c (.Compare a [op] [b] pos) ds z ds2 := by
  obtain ⟨r, h1, h2⟩ := ho.ex
  refine xe_of (pe_cmpR h1 (pe_self a) (pe_self b) hm) fun F σ H E Q q => ?_
  refine ha.run F σ H E _ fun v F1 H1 s1 E1 d1 => hb.run F1 σ H1 E1 _ fun w F2 H2 s2 E2 d2 => ?_
  exact h2 F2 H2 v w E2.sub (dp_same s2 d1) d2 Q fun u F3 H3 n d3 => q u F3 H3 ((s1.trans s2).trans n.f) (E2.nx n) d3
theorem xt_cmp {op : CmpOp} {k : Bool} (ha : XE X c a ds x ds1) (hb : XE X c b ds1 y ds2) (ho : OpD X (compareOp op) x y (.bool k)) (hm : behindInMarks op b = false) : XT X c (.Compare a [op] [b] pos) ds k ds2 := by
  obtain ⟨r, h1, h2⟩ := ho.ex
  refine xt_of (pt_cmpR h1 (pe_self a) (pe_self b) hm) fun F σ H E Q q => ?_
  refine ha.run F σ H E _ fun v F1 H1 s1 E1 d1 => hb.run F1 σ H1 E1 _ fun w F2 H2 s2 E2 d2 => ?_
  exact h2 F2 H2 v w E2.sub (dp_same s2 d1) d2 _ fun u F3 H3 n d3 => ⟨k, dp_bool d3, q F3 H3 ((s1.trans s2).trans n.f) (E2.nx n)⟩
/-- a op b op' d, both asked -/
theorem xe_chain {op op' : CmpOp} {w : PyData} {k m : Bool} (ha : XE X c a ds x ds1) (hb : XE X c b ds1 y ds2) (ho : OpD X (compareOp op) x y (.bool k)) (hd : k = true → XE X c e ds2 z ds3) (ho' : k = true → OpD X (compareOp op') y z (.bool m)) (hk : k = false → m = false ∧ ds3 = ds2)
    (hm : lastMarks [op, op'] [b, e] = false := by with_unfolding_all rfl) : XE X c (.Compare a [op, op'] [b, e] pos) ds (.bool m) ds3 := by
  obtain ⟨r, h1, h2⟩ := ho.ex
  cases k with
  | true =>
    obtain ⟨r', h1', h2'⟩ := (ho' rfl).ex
    refine xe_of (pe_chain h1 h1' (pe_self a) (pe_self b) (pe_self e) hm) fun F σ H E Q q => ?_
    refine ha.run F σ H E _ fun v F1 H1 s1 E1 d1 => hb.run F1 σ H1 E1 _ fun w F2 H2 s2 E2 d2 => ?_
    refine h2 F2 H2 v w E2.sub (dp_same s2 d1) d2 _ fun u F3 H3 n d3 => ⟨true, dp_bool d3, iteT ?_⟩
    refine (hd rfl).run F3 σ H3 (E2.nx n) _ fun t F4 H4 s4 E4 d4 => ?_
    exact h2' F4 H4 w t E4.sub (dp_same (n.f.trans s4) d2) d4 Q fun u F5 H5 n5 d5 => q u F5 H5 ((((s1.trans s2).trans n.f).trans s4).trans n5.f) (E4.nx n5) d5
  | false =>
    obtain ⟨rfl, rfl⟩ := hk rfl
    -- the second comparison is never asked: any rule serves
    have hr : OpR X (compareOp op') (fun _ _ _ _ => False) := fun _ _ _ _ _ _ _ _ _ _ _ _ h => h.elim
    refine xe_of (pe_chain h1 hr (pe_self a) (pe_self b) (pe_self e) hm) fun F σ H E Q q => ?_
    refine ha.run F σ H E _ fun v F1 H1 s1 E1 d1 => hb.run F1 σ H1 E1 _ fun w F2 H2 s2 E2 d2 => ?_
    exact h2 F2 H2 v w E2.sub (dp_same s2 d1) d2 _ fun u F3 H3 n d3 => ⟨false, dp_bool d3, iteF (q (.bl false) F3 H3 ((s1.trans s2).trans n.f) (E2.nx n) (.bl false))⟩
/-! ### several -/
theorem xa_nil : XA X c [] ds [] ds := xa_of pa_nil fun F σ H E Q q => q [] F H (Same.refl F) E .nil
theorem xa_cons (h : XE X c e ds x ds1) (hr : XA X c es ds1 xs ds2) (hs : starEach (e :: es) X.env = (false, eval e X.env) :: starEach es X.env := by rfl) : XA X c (e :: es) ds (x :: xs) ds2 :=
  xa_of (pa_cons (pe_self e) (pa_self es) hs) fun F σ H E Q q => h.run F σ H E _ fun v F1 H1 s1 E1 d1 => hr.run F1 σ H1 E1 _ fun vs F2 H2 s2 E2 d2 => q (v :: vs) F2 H2 (s1.trans s2) E2 (.cons (dp_same s2 d1) d2)
theorem xe_tup {k} (h : XA X c es ds xs ds1) (hl : xs.length ≤ sizeLine) : XE X c (.Tuple es k pos) ds (.tuple xs) ds1 :=
  xe_of (pe_tup (pa_self es)) fun F σ H E Q q => h.run F σ H E _ fun vs F1 H1 s1 E1 d1 => ⟨by rw [dpAll_len d1]; exact hl, fun p hp =>
    q (.ref p) (upd F1 p (.tup vs)) _ (s1.trans (Nx.new E1.sub hp).f) (E1.nx (Nx.new E1.sub hp)) (.tup (.inl (.inl upd_same)) (dpAll_same (Nx.new E1.sub hp).f d1))⟩
theorem xe_lst (h : XA X c es ds xs ds1) (hl : xs.length ≤ sizeLine) : XE X c (.List es pos) ds (.list xs) ds1 :=
  xe_of (pe_lst (pa_self es)) fun F σ H E Q q => h.run F σ H E _ fun vs F1 H1 s1 E1 d1 => ⟨by rw [dpAll_len d1]; exact hl, fun p hp =>
    q (.ref p) (upd F1 p (.lst vs)) _ (s1.trans (Nx.new E1.sub hp).f) (E1.nx (Nx.new E1.sub hp)) (.lst upd_same (dpAll_same (Nx.new E1.sub hp).f d1))⟩
/-! ### tests -/
theorem xt_val {k : Bool} (h : XE X c e ds (.bool k) ds1) (he : ∀ whole, isTrue e X.env whole = (do let v ← whole; standAt e.pos; holding [v] (truthy v)) := by intro _; rfl) : XT X c e ds k ds1 :=
  xt_of (pt_val (pe_self e) he) fun F σ H E Q q => h.run F σ H E _ fun v F1 H1 s1 E1 d1 => ⟨k, dp_bool d1, q F1 H1 s1 E1⟩
theorem xt_w {k : Bool} (h : XW X c e ds k ds1) : XT X c e ds k ds1 := xt_of (PW.pt (pw_self e)) fun F σ H E Q q => h.run F σ H E Q q
theorem xw_and1 {k : Bool} (h : XT X c a ds k ds1) : XW X c (.BoolOp .And [a] pos) ds k ds1 := xw_of (pw_and1 (pt_self a)) fun F σ H E Q q => h.run F σ H E Q q
theorem xw_or1 {k : Bool} (h : XT X c a ds k ds1) : XW X c (.BoolOp .Or [a] pos) ds k ds1 := xw_of (pw_or1 (pt_self a)) fun F σ H E Q q => h.run F σ H E Q q
theorem xw_and {k m : Bool} (h : XT X c a ds k ds1) (hr : k = true → XW X c (.BoolOp .And (b :: es) pos) ds1 m ds2) (hk : k = false → ds2 = ds1) : XW X c (.BoolOp .And (a :: b :: es) pos) ds (k && m) ds2 :=
  xw_of (pw_and (pt_self a) (pw_self _)) fun F σ H E Q q => h.run F σ H E _ fun F1 H1 s1 E1 => by
    cases k with
    | true => exact iteT ((hr rfl).run F1 σ H1 E1 Q fun F2 H2 s2 E2 => q F2 H2 (s1.trans s2) E2)
    | false =>
      obtain rfl := hk rfl
      exact iteF (q F1 H1 s1 E1)
theorem xw_or {k m : Bool} (h : XT X c a ds k ds1) (hr : k = false → XW X c (.BoolOp .Or (b :: es) pos) ds1 m ds2) (hk : k = true → ds2 = ds1) : XW X c (.BoolOp .Or (a :: b :: es) pos) ds (k || m) ds2 :=
  xw_of (pw_or (pt_self a) (pw_self _)) fun F σ H E Q q => h.run F σ H E _ fun F1 H1 s1 E1 => by
    cases k with
    | true =>
      obtain rfl := hk rfl
      exact iteT (q F1 H1 s1 E1)
    | false => exact iteF ((hr rfl).run F1 σ H1 E1 Q fun F2 H2 s2 E2 => q F2 H2 (s1.trans s2) E2)
theorem xt_not {k : Bool} (h : XT X c a ds k ds1) : XT X c (.UnaryOp .Not a pos) ds (!k) ds1 := xt_of (pt_not (pt_self a)) fun F σ H E Q q => h.run F σ H E _ fun F1 H1 s1 E1 => q F1 H1 s1 E1
theorem xe_one {op} (h : XE X c a ds x ds1) : XE X c (.BoolOp op [a] pos) ds x ds1 := xe_of (pe_one (pe_self a)) fun F σ H E Q q => h.run F σ H E Q q
theorem xe_and {k m : Bool} (h : XE X c a ds (.bool k) ds1) (hr : k = true → XE X c (.BoolOp .And (b :: es) pos) ds1 (.bool m) ds2) (hk : k = false → ds2 = ds1) : XE X c (.BoolOp .And (a :: b :: es) pos) ds (.bool (k && m)) ds2 :=
  xe_of (pe_and (pe_self a) (pe_self _)) fun F σ H E Q q => h.run F σ H E _ fun v F1 H1 s1 E1 d1 => ⟨k, dp_bool d1, by
    cases k with
    | true => exact iteT ((hr rfl).run F1 σ H1 E1 Q fun v F2 H2 s2 E2 d2 => q v F2 H2 (s1.trans s2) E2 d2)
    | false =>
      obtain rfl := hk rfl
      exact iteF (q (.bl false) F1 H1 s1 E1 (.bl false))⟩
theorem xe_or {k m : Bool} (h : XE X c a ds (.bool k) ds1) (hr : k = false → XE X c (.BoolOp .Or (b :: es) pos) ds1 (.bool m) ds2) (hk : k = true → ds2 = ds1) : XE X c (.BoolOp .Or (a :: b :: es) pos) ds (.bool (k || m)) ds2 :=
  xe_of (pe_or (pe_self a) (pe_self _)) fun F σ H E Q q => h.run F σ H E _ fun v F1 H1 s1 E1 d1 => ⟨k, dp_bool d1, by
    cases k with
    | true =>
      obtain rfl := hk rfl
      exact iteT (q (.bl true) F1 H1 s1 E1 (.bl true))
    | false => exact iteF ((hr rfl).run F1 σ H1 E1 Q fun v F2 H2 s2 E2 d2 => q v F2 H2 (s1.trans s2) E2 d2)⟩
theorem xe_not {k : Bool} (h : XE X c a ds (.bool k) ds1) : XE X c (.UnaryOp .Not a pos) ds (.bool (!k)) ds1 :=
  xe_of (pe_not (pe_self a)) fun F σ H E Q q => h.run F σ H E _ fun v F1 H1 s1 E1 d1 => ⟨k, dp_bool d1, q _ F1 H1 s1 E1 (.bl _)⟩
theorem xe_if {k : Bool} (h : XT X c e ds k ds1) (h1 : k = true → XE X c a ds1 x ds2) (h2 : k = false → XE X c b ds1 x ds2) : XE X c (.IfExp e a b pos) ds x ds2 :=
  xe_of (pe_ifExp (pt_self e) (pe_self a) (pe_self b)) fun F σ H E Q q => h.run F σ H E _ fun F1 H1 s1 E1 => by
    cases k with
    | true => exact iteT ((h1 rfl).run F1 σ H1 E1 Q fun v F2 H2 s2 E2 d2 => q v F2 H2 (s1.trans s2) E2 d2)
    | false => exact iteF ((h2 rfl).run F1 σ H1 E1 Q fun v F2 H2 s2 E2 d2 => q v F2 H2 (s1.trans s2) E2 d2)
/-! ### calls of built-ins -/
theorem xe_callB {id : String} {n : Str} (hc : CallD X (.builtin id) xs z) (hg : Gl X n) (hm : X.mg n = none) (hv : bootBuiltins n = some (.builtin id)) (ha : XA X c (e :: es) ds xs ds1) (hn : n ≠ "__name__" := by decide) (hdb : (n == ("__debug__" : Str)) = false := by decide)
    (he : starEach (e :: es) X.env = (false, eval e X.env) :: starEach es X.env := by rfl) (hpl : (backTo pos (starEach es X.env)).any (·.1) = false := by rfl) : XE X c (.Call (.Name n p) (e :: es) [] pos) ds z ds1 := by
  obtain ⟨r, h1, h2⟩ := hc.ex
  refine xe_of (pe_callB h1 hg hm hv (pa_self _) hn hdb he hpl) fun F σ H E Q q => ?_
  refine ha.run F σ H E _ fun vs F1 H1 s1 E1 d1 => ?_
  exact h2 F1 H1 vs E1.sub d1 Q fun u F2 H2 n2 d2 => q u F2 H2 (s1.trans n2.f) (E1.nx n2) d2
theorem xe_callTy {T : String} {n : Str} (hc : CallD X (.type T) xs z) (hg : Gl X n) (hm : X.mg n = none) (hv : bootBuiltins n = some (.type T)) (ha : XA X c (e :: es) ds xs ds1) (hn : n ≠ "__name__" := by decide) (hdb : (n == ("__debug__" : Str)) = false := by decide)
    (he : starEach (e :: es) X.env = (false, eval e X.env) :: starEach es X.env := by rfl) (hpl : (backTo pos (starEach es X.env)).any (·.1) = false := by rfl) : XE X c (.Call (.Name n p) (e :: es) [] pos) ds z ds1 := by
  obtain ⟨r, h1, h2⟩ := hc.ex
  refine xe_of (pe_callTy h1 hg hm hv (pa_self _) hn hdb he hpl) fun F σ H E Q q => ?_
  refine ha.run F σ H E _ fun vs F1 H1 s1 E1 d1 => ?_
  exact h2 F1 H1 vs E1.sub d1 Q fun u F2 H2 n2 d2 => q u F2 H2 (s1.trans n2.f) (E1.nx n2) d2
/-! ### the operators -/
theorem opd_ii {f : Value → Value → Sem Value} {C : Int → Int → Prop} {g : Int → Int → Int} {i j : Int} (h : OpR X f (rI C fun i j => .int (g i j))) (hc : C i j) : OpD X f (.int i) (.int j) (.int (g i j)) :=
  ⟨_, h, fun F H v w s d1 d2 Q q => ⟨i, j, dp_int d1, dp_int d2, hc, q _ F H (Nx.refl s) (.int _)⟩⟩
theorem opd_ii0 {f : Value → Value → Sem Value} {g : Int → Int → Int} {i j : Int} (h : OpR X f (rI0 fun i j => .int (g i j))) : OpD X f (.int i) (.int j) (.int (g i j)) :=
  ⟨_, h, fun F H v w s d1 d2 Q q => ⟨i, j, dp_int d1, dp_int d2, q _ F H (Nx.refl s) (.int _)⟩⟩
theorem opd_ib0 {f : Value → Value → Sem Value} {g : Int → Int → Bool} {i j : Int} (h : OpR X f (rI0 fun i j => .bl (g i j))) : OpD X f (.int i) (.int j) (.bool (g i j)) :=
  ⟨_, h, fun F H v w s d1 d2 Q q => ⟨i, j, dp_int d1, dp_int d2, q _ F H (Nx.refl s) (.bl _)⟩⟩
theorem opd_add {i j : Int} : OpD X (binaryOp .Add) (.int i) (.int j) (.int (i + j)) := opd_ii0 op_add
theorem opd_sub {i j : Int} : OpD X (binaryOp .Sub) (.int i) (.int j) (.int (i - j)) := opd_ii0 op_sub
theorem opd_mul {i j : Int} (h : CMulW i j) : OpD X (binaryOp .Mult) (.int i) (.int j) (.int (i * j)) := opd_ii op_mulW h
theorem opd_div {i j : Int} (h : CDivW i j) : OpD X (binaryOp .FloorDiv) (.int i) (.int j) (.int (i / j)) := opd_ii op_fdivW h
theorem opd_mod {i j : Int} (h : 0 < j) : OpD X (binaryOp .Mod) (.int i) (.int j) (.int (i % j)) := opd_ii op_mod h
theorem opd_pow {i j : Int} (h : CPow i j) : OpD X (binaryOp .Pow) (.int i) (.int j) (.int (i ^ j.toNat)) := opd_ii op_pow h
theorem op_sub_bb : OpR X (binaryOp .Sub) (fun x y H Q => ∃ i k, x = .bl i ∧ y = .bl k ∧ Q (.int (b2i i - b2i k)) H) := by
  intro pins s σ H x y v u Q I rx ry h
  obtain ⟨i, k, rfl, rfl, q⟩ := h
  cases rx
  cases ry
  exact sub_bool ⟨.int (b2i i - b2i k), H, I.tok _, ⟨_, rfl⟩, q⟩
theorem opd_sub_bb {i j : Bool} : OpD X (binaryOp .Sub) (.bool i) (.bool j) (.int (b2i i - b2i j)) :=
  ⟨_, op_sub_bb, fun F H v w s d1 d2 Q q => ⟨i, j, dp_bool d1, dp_bool d2, q _ F H (Nx.refl s) (.int _)⟩⟩
theorem und_neg {i : Int} : UnD X (unaryOp .USub) (.int i) (.int (-i)) := ⟨_, un_neg, fun F H v s d1 Q q => ⟨i, dp_int d1, q _ F H (Nx.refl s) (.int _)⟩⟩
theorem opd_lt {i j : Int} : OpD X (compareOp .Lt) (.int i) (.int j) (.bool (decide (i < j))) := opd_ib0 op_lt
theorem opd_le {i j : Int} : OpD X (compareOp .LtE) (.int i) (.int j) (.bool (decide (i ≤ j))) := opd_ib0 op_le
theorem opd_gt {i j : Int} : OpD X (compareOp .Gt) (.int i) (.int j) (.bool (decide (j < i))) := opd_ib0 op_gt
theorem opd_ge {i j : Int} : OpD X (compareOp .GtE) (.int i) (.int j) (.bool (decide (j ≤ i))) := opd_ib0 op_ge
theorem opd_eqI {i j : Int} : OpD X (compareOp .Eq) (.int i) (.int j) (.bool (decide (i = j))) :=
  ⟨_, op_eq, fun F H v w s d1 d2 Q q => by
    rw [dp_int d1, dp_int d2]
    refine ⟨rfl, ?_⟩
    have e : decide (V.int i = V.int j) = decide (i = j) := by rw [dec_int, Bool.beq_eq_decide_eq]
    rw [e]
    exact q _ F H (Nx.refl s) (.bl _)⟩
theorem opd_neI {i j : Int} : OpD X (compareOp .NotEq) (.int i) (.int j) (.bool (!decide (i = j))) :=
  ⟨_, op_ne, fun F H v w s d1 d2 Q q => by
    rw [dp_int d1, dp_int d2]
    refine ⟨rfl, ?_⟩
    have e : decide (V.int i = V.int j) = decide (i = j) := by rw [dec_int, Bool.beq_eq_decide_eq]
    rw [e]
    exact q _ F H (Nx.refl s) (.bl _)⟩
theorem opd_eqB {i j : Bool} : OpD X (compareOp .Eq) (.bool i) (.bool j) (.bool (i == j)) :=
  ⟨_, op_eq, fun F H v w s d1 d2 Q q => by
    rw [dp_bool d1, dp_bool d2]
    refine ⟨rfl, ?_⟩
    rw [dec_bl]
    exact q _ F H (Nx.refl s) (.bl _)⟩
theorem opd_neB {i j : Bool} : OpD X (compareOp .NotEq) (.bool i) (.bool j) (.bool (!(i == j))) :=
  ⟨_, op_ne, fun F H v w s d1 d2 Q q => by
    rw [dp_bool d1, dp_bool d2]
    refine ⟨rfl, ?_⟩
    rw [dec_bl]
    exact q _ F H (Nx.refl s) (.bl _)⟩
theorem opd_eqS {i j : Str} : OpD X (compareOp .Eq) (.str i) (.str j) (.bool (i == j)) :=
  ⟨_, op_eq, fun F H v w s d1 d2 Q q => by
    rw [dp_str d1, dp_str d2]
    refine ⟨rfl, ?_⟩
    rw [dec_str]
    exact q _ F H (Nx.refl s) (.bl _)⟩
theorem opd_neS {i j : Str} : OpD X (compareOp .NotEq) (.str i) (.str j) (.bool (!(i == j))) :=
  ⟨_, op_ne, fun F H v w s d1 d2 Q q => by
    rw [dp_str d1, dp_str d2]
    refine ⟨rfl, ?_⟩
    rw [dec_str]
    exact q _ F H (Nx.refl s) (.bl _)⟩
theorem opd_eqD (hu : X.A.units + 64 < cLine) (h1 : SeqAt.shaped x = true) (h2 : SeqAt.shaped y = true) : OpD X (compareOp .Eq) x y (.bool (PyData.eqv x y)) :=
  ⟨_, op_eqD hu, fun F H v w s d1 d2 Q q => ⟨x, y, (dp_same s d1).dp, (dp_same s d2).dp, h1, h2, q _ F H (Nx.refl s) (.bl _)⟩⟩
theorem opd_neD (hu : X.A.units + 64 < cLine) (h1 : SeqAt.shaped x = true) (h2 : SeqAt.shaped y = true) : OpD X (compareOp .NotEq) x y (.bool (!PyData.eqv x y)) :=
  ⟨_, op_neD hu, fun F H v w s d1 d2 Q q => ⟨x, y, (dp_same s d1).dp, (dp_same s d2).dp, h1, h2, q _ F H (Nx.refl s) (.bl _)⟩⟩
theorem opd_inD (hu : X.A.units + 65 < cLine) (h1 : SeqAt.shaped x = true) (h2 : SeqAt.shaped (.list xs) = true) : OpD X (compareOp .In) x (.list xs) (.bool (xs.any fun z => PyData.eqv z x)) :=
  ⟨_, op_inD hu, fun F H v w s d1 d2 Q q => ⟨x, xs, (dp_same s d1).dp, (dp_same s d2).dp, h1, h2, q _ F H (Nx.refl s) (.bl _)⟩⟩
theorem opd_notInD (hu : X.A.units + 65 < cLine) (h1 : SeqAt.shaped x = true) (h2 : SeqAt.shaped (.list xs) = true) : OpD X (compareOp .NotIn) x (.list xs) (.bool (!xs.any fun z => PyData.eqv z x)) :=
  ⟨_, op_notInD hu, fun F H v w s d1 d2 Q q => ⟨x, xs, (dp_same s d1).dp, (dp_same s d2).dp, h1, h2, q _ F H (Nx.refl s) (.bl _)⟩⟩
def flatD : PyData → Bool
  | .none | .bool _ | .int _ | .str _ => true
  | _ => false
theorem flat_rp {K : PySem.W.Frag} {F : Hp} {v : V} {d : PyData} (h : Rp K F v d) (f : flatD d = true) : flatV v = true := by
  cases h <;> first | rfl | cases f
theorem eqV_rp {K : PySem.W.Frag} {F : Hp} {v w : V} {d e : PyData} (h : Rp K F v d) (g : Rp K F w e) (f : flatD d = true) (f' : flatD e = true) : eqV v w = PyData.eqv d e := by
  cases h <;> cases g <;> first
    | (cases f; done)
    | (cases f'; done)
    | (simp only [eqV, PyData.eqv]; done)
    | rfl
    | skip
theorem all_flat {K : PySem.W.Frag} {F : Hp} : ∀ {vs : List V} {ds : List PyData}, RpAll K F vs ds → ds.all flatD = true → vs.all flatV = true
  | _, _, .nil, _ => rfl
  | _, _, .cons h1 h2, f => by
    rw [List.all_cons, Bool.and_eq_true] at f ⊢
    exact ⟨flat_rp h1 f.1, all_flat h2 f.2⟩
theorem inV_rp {K : PySem.W.Frag} {F : Hp} {v : V} {d : PyData} (h : Rp K F v d) (f : flatD d = true) : ∀ {vs : List V} {ds : List PyData}, RpAll K F vs ds → ds.all flatD = true → inV v vs = ds.any fun z => PyData.eqv z d
  | _, _, .nil, _ => rfl
  | _, _, .cons h1 h2, g => by
    rw [List.all_cons, Bool.and_eq_true] at g
    have ih := inV_rp h f h2 g.2
    unfold inV at ih ⊢
    rw [List.any_cons, List.any_cons, eqV_rp h1 h g.1 f, ih]
/-- x in (a, b, ..), all of them plain -/
theorem opd_inT (h1 : flatD x = true) (h2 : xs.all flatD = true) : OpD X (compareOp .In) x (.tuple xs) (.bool (xs.any fun z => PyData.eqv z x)) :=
  ⟨_, op_in_seq, fun F H v w s d1 d2 Q q => by
    obtain ⟨a, vs, rfl, t1, t2⟩ := dp_tup d2
    refine ⟨a, vs, rfl, .inr (sqT_same s t1), flat_rp d1 h1, all_flat t2 h2, ?_⟩
    rw [if_neg Bool.false_ne_true, inV_rp d1 h1 t2 h2]
    exact q _ F H (Nx.refl s) (.bl _)⟩
theorem opd_inL (h1 : flatD x = true) (h2 : xs.all flatD = true) : OpD X (compareOp .In) x (.list xs) (.bool (xs.any fun z => PyData.eqv z x)) :=
  ⟨_, op_in_seq, fun F H v w s d1 d2 Q q => by
    obtain ⟨a, vs, rfl, t1, t2⟩ := dp_lst d2
    refine ⟨a, vs, rfl, .inl (SqL.of (s _ _ t1)), flat_rp d1 h1, all_flat t2 h2, ?_⟩
    rw [if_neg Bool.false_ne_true, inV_rp d1 h1 t2 h2]
    exact q _ F H (Nx.refl s) (.bl _)⟩
def isNone : PyData → Bool
  | .none => true
  | _ => false
theorem isNone_rp {K : PySem.W.Frag} {F : Hp} {v : V} {d : PyData} (h : Rp K F v d) : decide (v = .non) = isNone d := by
  cases h <;> first | rfl | exact decide_eq_false (fun z => nomatch z)
theorem opd_isN : OpD X (compareOp .Is) x .none (.bool (isNone x)) :=
  ⟨_, op_isN, fun F H v w s d1 d2 Q q => by
    refine ⟨dp_none d2, ?_⟩
    rw [isNone_rp d1]
    exact q _ F H (Nx.refl s) (.bl _)⟩
theorem opd_notN : OpD X (compareOp .IsNot) x .none (.bool (!isNone x)) :=
  ⟨_, op_notN, fun F H v w s d1 d2 Q q => by
    refine ⟨dp_none d2, ?_⟩
    rw [isNone_rp d1]
    exact q _ F H (Nx.refl s) (.bl _)⟩
theorem opd_cat {ys : List PyData} (h : xs.length + ys.length ≤ sizeLine) : OpD X (binaryOp .Add) (.list xs) (.list ys) (.list (xs ++ ys)) :=
  ⟨_, op_cat, fun F H v w s d1 d2 Q q => by
    obtain ⟨l, vs, rfl, t1, t2⟩ := dp_lst d1
    obtain ⟨m, ws, rfl, u1, u2⟩ := dp_lst d2
    refine ⟨l, m, vs, ws, rfl, rfl, s _ _ t1, s _ _ u1, by rw [dpAll_len t2, dpAll_len u2]; exact h, fun p hp => ?_⟩
    have n := Nx.new (o := .lst (vs ++ ws)) s hp
    exact q _ _ _ n (.lst upd_same (dpAll_app (dpAll_same n.f t2) (dpAll_same n.f u2)))⟩
theorem ixd_lst {i : Int} (h : atI xs i = some z) : IxD X (.list xs) (.int i) z :=
  ⟨_, ix_list, fun F H v w s d1 d2 Q q => by
    obtain ⟨l, vs, rfl, t1, t2⟩ := dp_lst d1
    unfold atI at h
    rw [← dpAll_len t2] at h
    cases e : ixN vs.length i with
    | none => rw [e] at h; cases h
    | some j =>
      rw [e] at h
      obtain ⟨v', g1, g2⟩ := dpAll_get t2 h
      refine ⟨l, vs, i, v', rfl, dp_int d2, SqL.of (s _ _ t1), by unfold atI; rw [e]; exact g1, q _ F H (Nx.refl s) g2⟩⟩
theorem ixd_tup {i : Int} (h : atI xs i = some z) : IxD X (.tuple xs) (.int i) z :=
  ⟨_, ix_tup, fun F H v w s d1 d2 Q q => by
    obtain ⟨l, vs, rfl, t1, t2⟩ := dp_tup d1
    unfold atI at h
    rw [← dpAll_len t2] at h
    cases e : ixN vs.length i with
    | none => rw [e] at h; cases h
    | some j =>
      rw [e] at h
      obtain ⟨v', g1, g2⟩ := dpAll_get t2 h
      refine ⟨l, vs, i, v', rfl, dp_int d2, sqT_same s t1, by unfold atI; rw [e]; exact g1, q _ F H (Nx.refl s) g2⟩⟩
theorem cd_len : CallD X (.builtin "len") [.list xs] (.int xs.length) :=
  ⟨_, call_len_seq, fun F H vs s d1 Q q => by
    cases d1 with
    | cons d1 d2 =>
      cases d2
      obtain ⟨l, ws, rfl, t1, t2⟩ := dp_lst d1
      exact ⟨l, ws, rfl, .inl (SqL.of (s _ _ t1)), by rw [dpAll_len t2]; exact q _ F H (Nx.refl s) (.int _)⟩⟩
theorem cd_lenT : CallD X (.builtin "len") [.tuple xs] (.int xs.length) :=
  ⟨_, call_len_seq, fun F H vs s d1 Q q => by
    cases d1 with
    | cons d1 d2 =>
      cases d2
      obtain ⟨l, ws, rfl, t1, t2⟩ := dp_tup d1
      exact ⟨l, ws, rfl, .inr (sqT_same s t1), by rw [dpAll_len t2]; exact q _ F H (Nx.refl s) (.int _)⟩⟩
theorem cd_min2 (hc : X.calm = true) {i j : Int} : CallD X (.builtin "min") [.int i, .int j] (.int (if j < i then j else i)) :=
  ⟨_, call_min2 hc, fun F H vs s d1 Q q => by
    cases d1 with
    | cons d1 d2 => cases d2 with
      | cons d2 d3 =>
        cases d3
        exact ⟨i, j, by rw [dp_int d1, dp_int d2], q _ F H (Nx.refl s) (.int _)⟩⟩
theorem cd_max2 (hc : X.calm = true) {i j : Int} : CallD X (.builtin "max") [.int i, .int j] (.int (if j > i then j else i)) :=
  ⟨_, call_max2 hc, fun F H vs s d1 Q q => by
    cases d1 with
    | cons d1 d2 => cases d2 with
      | cons d2 d3 =>
        cases d3
        exact ⟨i, j, by rw [dp_int d1, dp_int d2], q _ F H (Nx.refl s) (.int _)⟩⟩
theorem cd_abs {i : Int} : CallD X (.builtin "abs") [.int i] (.int (if i < 0 then -i else i)) :=
  ⟨_, call_abs, fun F H vs s d1 Q q => by
    cases d1 with
    | cons d1 d2 =>
      cases d2
      exact ⟨i, by rw [dp_int d1], q _ F H (Nx.refl s) (.int _)⟩⟩
theorem cd_int {i : Int} : CallD X (.type "int") [.int i] (.int i) :=
  ⟨_, call_int1, fun F H vs s d1 Q q => by
    cases d1 with
    | cons d1 d2 =>
      cases d2
      exact .inl ⟨i, by rw [dp_int d1], q _ F H (Nx.refl s) (.int _)⟩⟩
theorem cd_list : CallD X (.type "list") [.list xs] (.list xs) :=
  ⟨_, call_list_of, fun F H vs s d1 Q q => by
    cases d1 with
    | cons d1 d2 =>
      cases d2
      obtain ⟨l, ws, rfl, t1, t2⟩ := dp_lst d1
      refine ⟨l, ws, rfl, .inl (SqL.of (s _ _ t1)), fun p hp => ?_⟩
      have n := Nx.new (o := .lst ws) s hp
      exact q _ _ _ n (.lst upd_same (dpAll_same n.f t2))⟩
theorem cd_sum (hc : X.calm = true) {ns : List Int} : CallD X (.builtin "sum") [.list (ns.map PyData.int)] (.int ns.sum) :=
  ⟨_, cr_sum hc, fun F H vs s d1 Q q => by
    cases d1 with
    | cons d1 d2 =>
      cases d2
      obtain ⟨l, ws, rfl, t1, t2⟩ := dp_lst d1
      rw [dpAll_ints t2] at t1
      exact ⟨l, ns, rfl, SqL.of (s _ _ t1), q _ F H (Nx.refl s) (.int _)⟩⟩
/-- a list read backwards -/
theorem xe_rev {k : Nat} {p1 p2 p3 : Pos} (h : XE X c e ds (.list xs) ds1) : XE X c (.Subscript e (.Slice none none (some (.UnaryOp .USub (.Constant (.int 1) k p1) p2)) p3) pos) ds (.list xs.reverse) ds1 :=
  xe_of (pe_revL (pe_self e)) fun F σ H E Q q => h.run F σ H E _ fun v F1 H1 s1 E1 d1 => by
    obtain ⟨l, ws, rfl, t1, t2⟩ := dp_lst d1
    refine ⟨l, ws, rfl, SqL.of (E1.sub _ _ t1), fun p hp => ?_⟩
    have n := Nx.new (o := .lst ws.reverse) E1.sub hp
    exact q _ _ _ (s1.trans n.f) (E1.nx n) (.lst upd_same (dpAll_rev (dpAll_same n.f t2)))
def cutD (xs : List PyData) (lo hi : Option Int) : List PyData := (xs.drop (HT.sIx xs.length 0 lo)).take (HT.sIx xs.length xs.length hi - HT.sIx xs.length 0 lo)
/-- xs[lo:hi] with written ends (or none) -/
theorem xe_cut {lo hi : Option Expr} {tl th : TO} {l u : Option Int} {p2 : Pos} (h : XE X c e ds (.list xs) ds1) (hl : PO X lo tl) (hu : PO X hi th) (gl : ∀ σ H Q, Q l H → tl σ H Q) (gu : ∀ σ H Q, Q u H → th σ H Q) :
    XE X c (.Subscript e (.Slice lo hi none p2) pos) ds (.list (cutD xs l u)) ds1 :=
  xe_of (pe_slice sl_list (pe_self e) hl hu) fun F σ H E Q q => h.run F σ H E _ fun v F1 H1 s1 E1 d1 => by
    obtain ⟨a, ws, rfl, t1, t2⟩ := dp_lst d1
    refine gl _ _ _ (gu _ _ _ ⟨a, ws, rfl, SqL.of (E1.sub _ _ t1), fun p hp => ?_⟩)
    have n := Nx.new (o := .lst (cutV ws l u)) E1.sub hp
    refine q _ _ _ (s1.trans n.f) (E1.nx n) (.lst upd_same ?_)
    have t3 := dpAll_same n.f t2
    have e : cutV ws l u = (ws.drop (HT.sIx xs.length 0 l)).take (HT.sIx xs.length xs.length u - HT.sIx xs.length 0 l) := by
      unfold cutV
      rw [dpAll_len t2]
    generalize upd F1 p (HO.lst (cutV ws l u)) = F2 at t3 ⊢
    rw [e]
    exact dpAll_take _ (dpAll_drop _ t3)
theorem po_none_g {σ : L2.St} {H : Hp} {Q : Option Int → Hp → Prop} (q : Q none H) : tNoPart σ H Q := q
theorem po_neg1 {k : Nat} {p1 p2 : Pos} : PO X (some (.UnaryOp .USub (.Constant (.int 1) k p1) p2)) (tPart (tUn (rU fun i => .int (-i)) (tC (.int 1)))) := po_some (pe_un un_neg pe_int)
theorem po_neg1_g {σ : L2.St} {H : Hp} {Q : Option Int → Hp → Prop} (q : Q (some (-1)) H) : tPart (tUn (rU fun i => .int (-i)) (tC (.int 1))) σ H Q := ⟨1, rfl, -1, rfl, q⟩
end
end Dt
set_option maxRecDepth 100000
namespace Dt
open PySem PySem.Spec PyProof.Rows L2
/-! ### stores into slots -/
section
variable {K : PySem.W.Frag} {c : Ctx} {F H : Hp} {ds : Ds} {σ : L2.St}
theorem EnvD.put (E : EnvD K c F ds σ H) {i : Nat} {x : PyData} {v : V} (h : Rp K F v x) : EnvD K c F (ds.set i (some (.d x))) (σ.set i (some v)) H := by
  obtain ⟨A, a1, a2, a3⟩ := E.own
  refine ⟨E.toEnvB, ⟨A, a1, a2, fun j s hj => ?_⟩, by rw [List.length_set, List.length_set]; exact E.len⟩
  by_cases hji : j = i
  · subst hji
    by_cases hl : j < ds.length
    · rw [List.getElem?_set_self hl] at hj
      cases hj
      exact ⟨v, List.getElem?_set_self (by rw [E.len]; exact hl), h⟩
    · rw [List.getElem?_eq_none (by rw [List.length_set]; omega)] at hj
      cases hj
  · rw [List.getElem?_set_ne (Ne.symm hji)] at hj
    obtain ⟨w, g1, g2⟩ := a3 j s hj
    exact ⟨w, (List.getElem?_set_ne (Ne.symm hji)).trans g1, g2⟩
/-- a new list of its own -/
theorem EnvD.putOwn (E : EnvD K c F ds σ H) {i : Nat} {xs : List PyData} {vs : List V} {p : Addr} (h : RpAll K F vs xs) (hp : H p = none) : EnvD K c F (ds.set i (some (.own xs))) (σ.set i (some (.ref p))) (upd H p (.lst vs)) := by
  obtain ⟨A, a1, a2, a3⟩ := E.own
  have hF : F p = none := E.sub.free hp
  have nM : ¬ c.M p := fun m => E.mt p m hp
  have h0 : c.H0 p = none := by
    cases q : c.H0 p with
    | none => rfl
    | some o =>
      have z := E.base p o nM q
      rw [hp] at z
      cases z
  have nA : ∀ j a, A j a → a ≠ p := fun j a ha z => (a2 j a ha).2.1 (by rw [z]; exact hp)
  have hG : c.G p = none := by
    cases q : c.G p with
    | none => rfl
    | some o =>
      have z := E.gd p o q
      rw [hp] at z
      cases z
  refine ⟨⟨fun b o e => ?_, E.f0, fun a o m e => ?_, fun a m z => ?_, E.cln, fun a o g => ?_, E.gf⟩, ⟨fun j a => (j = i ∧ a = p) ∨ (j ≠ i ∧ A j a), fun j k a ha hb => ?_, fun j a ha => ?_, fun j s hj => ?_⟩, by rw [List.length_set, List.length_set]; exact E.len⟩
  · rw [upd_ne (ne_of_none e hF)]
    exact E.sub b o e
  · rw [upd_ne (ne_of_none e h0)]
    exact E.base a o m e
  · by_cases hb : a = p
    · subst hb
      exact nM m
    · rw [upd_ne hb] at z
      exact E.mt a m z
  · rw [upd_ne (ne_of_none g hG)]
    exact E.gd a o g
  · rcases ha with ⟨e1, e2⟩ | ⟨e1, e2⟩ <;> rcases hb with ⟨f1, f2⟩ | ⟨f1, f2⟩
    · rw [e1, f1]
    · exact absurd e2 (nA k a f2)
    · exact absurd f2 (nA j a e2)
    · exact a1 j k a e2 f2
  · rcases ha with ⟨e1, e2⟩ | ⟨e1, e2⟩
    · subst e2
      exact ⟨hF, (by rw [upd_same]; intro z; cases z), .inl h0, hG⟩
    · obtain ⟨g1, g2, g3⟩ := a2 j a e2
      exact ⟨g1, by rw [upd_ne (nA j a e2)]; exact g2, g3⟩
  · by_cases hji : j = i
    · subst hji
      by_cases hl : j < ds.length
      · rw [List.getElem?_set_self hl] at hj
        cases hj
        exact ⟨.ref p, List.getElem?_set_self (by rw [E.len]; exact hl), p, vs, rfl, upd_same, h, .inl ⟨rfl, rfl⟩, nM⟩
      · rw [List.getElem?_eq_none (by rw [List.length_set]; omega)] at hj
        cases hj
    · rw [List.getElem?_set_ne (Ne.symm hji)] at hj
      obtain ⟨w, g1, g2⟩ := a3 j s hj
      refine ⟨w, (List.getElem?_set_ne (Ne.symm hji)).trans g1, ?_⟩
      cases s with
      | d z => exact g2
      | own ys =>
        obtain ⟨l', ws, e, k1, k2, k3, k4⟩ := g2
        exact ⟨l', ws, e, by rw [upd_ne (nA j l' k3)]; exact k1, k2, .inr ⟨hji, k3⟩, k4⟩
      | pool rows po =>
        obtain ⟨q, r, cc, e, k1, k2, k3, k4, k6⟩ := g2
        exact ⟨q, r, cc, e, k1, k2, (by rw [upd_ne (nA j cc k4)]; exact k3), .inr ⟨hji, k4⟩, k6⟩
      | scr ns => exact g2
/-- an own list is changed -/
theorem EnvD.turnOwn (E : EnvD K c F ds σ H) {i : Nat} {xs ys : List PyData} {ws : List V} {l : Addr} (hd : ds[i]? = some (some (.own xs))) (hl : σ[i]? = some (some (.ref l))) (h : RpAll K F ws ys) : EnvD K c F (ds.set i (some (.own ys))) σ (upd H l (.lst ws)) := by
  obtain ⟨A, a1, a2, a3⟩ := E.own
  obtain ⟨v, h1, l', vs, rfl, h2, h3, h4, h5⟩ := a3 i _ hd
  rw [hl] at h1
  cases h1
  obtain ⟨f1, f2, f3, f4⟩ := a2 i l h4
  have h0 : c.H0 l = none := f3.elim id fun m => absurd m h5
  refine ⟨⟨fun b o e => ?_, E.f0, fun a o m e => ?_, fun a m z => ?_, E.cln, fun a o g => ?_, E.gf⟩, ⟨A, a1, fun j a ha => ?_, fun j s hj => ?_⟩, by rw [List.length_set]; exact E.len⟩
  · rw [upd_ne (ne_of_none e f1)]
    exact E.sub b o e
  · rw [upd_ne (ne_of_none e h0)]
    exact E.base a o m e
  · by_cases hb : a = l
    · subst hb
      exact h5 m
    · rw [upd_ne hb] at z
      exact E.mt a m z
  · rw [upd_ne (ne_of_none g f4)]
    exact E.gd a o g
  · obtain ⟨g1, g2, g3⟩ := a2 j a ha
    refine ⟨g1, ?_, g3⟩
    by_cases hb : a = l
    · subst hb
      rw [upd_same]
      intro z
      cases z
    · rw [upd_ne hb]
      exact g2
  · by_cases hji : j = i
    · subst hji
      rw [List.getElem?_set_self (List.getElem?_eq_some_iff.mp hd).1] at hj
      cases hj
      exact ⟨.ref l, hl, l, ws, rfl, upd_same, h, h4, h5⟩
    · rw [List.getElem?_set_ne (Ne.symm hji)] at hj
      obtain ⟨w, g1, g2⟩ := a3 j s hj
      refine ⟨w, g1, ?_⟩
      have nl : ∀ a, A j a → a ≠ l := fun a ha z => hji (a1 j i a ha (by rw [z]; exact h4))
      cases s with
      | d z => exact g2
      | own zs =>
        obtain ⟨l', us, e, k1, k2, k3, k4⟩ := g2
        exact ⟨l', us, e, by rw [upd_ne (nl l' k3)]; exact k1, k2, k3, k4⟩
      | pool rows po =>
        obtain ⟨q, r, cc, e, k1, k2, k3, k4, k6⟩ := g2
        exact ⟨q, r, cc, e, k1, k2, (by rw [upd_ne (nl cc k4)]; exact k3), k4, k6⟩
      | scr ns => exact g2
theorem EnvD.ownAt (E : EnvD K c F ds σ H) {i : Nat} {xs : List PyData} (hd : ds[i]? = some (some (.own xs))) : ∃ l vs, σ[i]? = some (some (.ref l)) ∧ H l = some (.lst vs) ∧ RpAll K F vs xs := by
  obtain ⟨A, a1, a2, a3⟩ := E.own
  obtain ⟨v, h1, l', vs, rfl, h2, h3, h4, h5⟩ := a3 i _ hd
  exact ⟨l', vs, h1, h2, h3⟩
theorem EnvD.dAt (E : EnvD K c F ds σ H) {i : Nat} {x : PyData} (hd : ds[i]? = some (some (.d x))) : ∃ v, σ[i]? = some (some v) ∧ Rp K F v x := by
  obtain ⟨A, a1, a2, a3⟩ := E.own
  exact a3 i _ hd
/-- forgetting -/
theorem EnvD.weak (E : EnvD K c F ds σ H) {ds' : Ds} {σ' : L2.St} (hl : σ'.length = ds'.length) (hw : ∀ (i : Nat) (s : Sl), ds'[i]? = some (some s) → ds[i]? = some (some s) ∧ ∀ v : V, σ[i]? = some (some v) → σ'[i]? = some (some v)) : EnvD K c F ds' σ' H := by
  obtain ⟨A, a1, a2, a3⟩ := E.own
  refine ⟨E.toEnvB, ⟨A, a1, a2, fun i s h => ?_⟩, hl⟩
  obtain ⟨h1, h2⟩ := hw i s h
  obtain ⟨v, g1, g2⟩ := a3 i s h1
  exact ⟨v, h2 v g1, g2⟩
end
section
variable {X : Cx} {c : Ctx} {ds ds1 ds2 ds3 ds' : Ds} {a b e e1 e2 e3 : Expr} {es : List Expr} {pos p q : Pos} {x y z d : PyData} {xs : List PyData} {P : Post} {st : Stmt} {sts body : List Stmt} {n : Str}
/-! ### targets -/
theorem xg_name (i : Nat) (hN : X.N.Nodup) (hi : X.N[i]? = some n) (hx : Loc X.env.scope n) (hf : X.fn n = true ∨ X.env.scope.names.lookup n = some .local := by first | exact .inl rfl | exact .inr rfl | assumption) : XG X c [i] (.Name n pos) x ds (ds.set i (some (.d x))) :=
  xg_of (pg_name hN hi hx hf) fun F σ H v E r Q k => k (σ.set i (some v)) (by rw [List.length_set]) (fun j hj => List.getElem?_set_ne fun z => hj (by rw [z]; exact List.mem_cons_self)) (E.put r)
theorem xgs_nil : XGs X c [] [] [] ds ds := xgs_of pgs_nil fun F σ H vs E r Q k => by
  cases r
  exact ⟨rfl, k σ rfl (fun _ _ => rfl) E⟩
theorem xgs_cons {js ks : List Nat} (h1 : XG X c js e x ds ds1) (h2 : XGs X c ks es xs ds1 ds2) (hs : (assignEach (e :: es) X.env).map (·.2) = assign e X.env :: (assignEach es X.env).map (·.2) := by rfl) : XGs X c (js ++ ks) (e :: es) (x :: xs) ds ds2 :=
  xgs_of (pgs_cons (pg_self e) (pgs_self es) hs) fun F σ H vs E r Q k => by
    cases r with
    | cons r1 r2 =>
      refine ⟨_, _, rfl, h1.run F σ H _ E r1 _ fun σ1 l1 g1 E1 => h2.run F σ1 H _ E1 r2 _ fun σ2 l2 g2 E2 => k σ2 (l2.trans l1) (fun j hj => ?_) E2⟩
      rw [List.mem_append, not_or] at hj
      exact (g2 j hj.2).trans (g1 j hj.1)
theorem xg_tup {js : List Nat} {k m : Nat} (hc : X.calm = true) (h : XGs X c js es xs ds ds1) (hl : xs.length = m) (hn : (assignEach es X.env).length = m := by rfl) (hst : (assignEach es X.env).findIdx? (·.1) = none := by rfl) : XG X c js (.Tuple es k pos) (.tuple xs) ds ds1 :=
  xg_of (pg_tup hc (pgs_self es) hn hst) fun F σ H v E r Q q => by
    obtain ⟨t, vs, rfl, r1, r2⟩ := dp_tup r
    exact ⟨t, vs, rfl, sqT_same E.sub r1, by rw [dpAll_len r2]; exact hl, h.run F σ H vs E r2 Q q⟩
/-! ### statements -/
theorem xb_nil (h : P.nx ds) : XB X c [] ds P := xb_of pss_nil fun F σ H D E m => m.nx F σ H ds (Same.refl F) E h
theorem xb_cons (h : XS X c st ds { P with nx := fun ds1 => XB X c sts ds1 P }) : XB X c (st :: sts) ds P :=
  xb_of (pss_cons (ps_self st) (pss_self sts)) fun F σ H D E m => h.run F σ H _ E ⟨fun F1 σ1 H1 ds1 s1 E1 h1 => h1.run F1 σ1 H1 D E1 (m.mono s1), m.rt, m.bk, m.ct⟩
theorem xb_one (h : XS X c st ds P) : XB X c [st] ds P := xb_of (pss_one (ps_self st)) fun F σ H D E m => h.run F σ H D E m
theorem xs_set (i : Nat) {pos' : Pos} (hN : X.N.Nodup) (hi : X.N[i]? = some n) (hx : Loc X.env.scope n) (he : XE X c e ds x ds1) (h : P.nx (ds1.set i (some (.d x)))) (hs : swapsWith e (some (.Name n pos')) pos.line X.env = pure false := by rfl)
    (hf : X.fn n = true ∨ X.env.scope.names.lookup n = some .local := by first | exact .inl rfl | exact .inr rfl | assumption) : XS X c (.Assign [.Name n pos'] e pos) ds P :=
  xs_of (ps_set hN hi hx (pe_self e) hs hf) fun F σ H D E m => he.run F σ H E _ fun v F1 H1 s1 E1 d1 => m.nx F1 _ H1 _ s1 (E1.put d1) h
/-- name = [..]: a list of its own -/
theorem xs_setOwn (i : Nat) {pos' pos'' : Pos} (hN : X.N.Nodup) (hi : X.N[i]? = some n) (hx : Loc X.env.scope n) (he : XA X c es ds xs ds1) (hl : xs.length ≤ sizeLine) (h : P.nx (ds1.set i (some (.own xs)))) (hs : swapsWith (.List es pos'') (some (.Name n pos')) pos.line X.env = pure false := by rfl)
    (hf : X.fn n = true ∨ X.env.scope.names.lookup n = some .local := by first | exact .inl rfl | exact .inr rfl | assumption) : XS X c (.Assign [.Name n pos'] (.List es pos'') pos) ds P :=
  xs_of (ps_set hN hi hx (pe_lst (pa_self es)) hs hf) fun F σ H D E m => he.run F σ H E _ fun vs F1 H1 s1 E1 d1 => ⟨by rw [dpAll_len d1]; exact hl, fun p hp => m.nx F1 _ _ _ s1 (E1.putOwn d1 hp) h⟩
/-- a target of any form -/
theorem xs_asg {js : List Nat} {tg : Expr} (he : XE X c e ds x ds1) (hg : XG X c js tg x ds1 ds2) (h : P.nx ds2) (hs : swapsWithSole [tg] e pos.line X.env = pure false := by rfl) (hw : swappedStores [tg] e X.env = pure none := by rfl) (h1 : (assignEach [tg] X.env).map (·.2) = [assign tg X.env] := by rfl) : XS X c (.Assign [tg] e pos) ds P :=
  xs_of (ps_asg (pe_self e) (pg_self tg) hs hw h1) fun F σ H D E m => he.run F σ H E _ fun v F1 H1 s1 E1 d1 => hg.run F1 σ H1 v E1 d1 _ fun σ2 _ _ E2 => m.nx F1 σ2 H1 _ s1 E2 h
/-- a, b = x, y, local names -/
theorem xs_par {i j : Nat} {nx ny : Str} {px py pt : Pos} {kt k2 pt2} (hc : X.calm = true) (hN : X.N.Nodup) (hi : X.N[i]? = some nx) (hj : X.N[j]? = some ny) (hij : i ≠ j)
    (hx : X.env.scope.names.lookup nx = some .local) (hy : X.env.scope.names.lookup ny = some .local) (ha : XA X c [a, b] ds [x, y] ds1)
    (h : P.nx ((ds1.set i (some (.d x))).set j (some (.d y))))
    (hw : swappedStores [.Tuple [.Name nx px, .Name ny py] kt pt] (.Tuple [a, b] k2 pt2) X.env = pure (some [nx, ny]))
    (hs : swapsWithSole [.Tuple [.Name nx px, .Name ny py] kt pt] (.Tuple [a, b] k2 pt2) pos.line X.env = pure false := by rfl) :
    XS X c (.Assign [.Tuple [.Name nx px, .Name ny py] kt pt] (.Tuple [a, b] k2 pt2) pos) ds P :=
  xs_of (ps_par hc hN hi hj hij hx hy (pa_self _) hw hs) fun F σ H D E m => ha.run F σ H E _ fun vs F1 H1 s1 E1 d1 => by
    cases d1 with
    | cons d1 d2 => cases d2 with
      | cons d2 d3 =>
        cases d3
        exact ⟨_, _, rfl, m.nx F1 _ H1 _ s1 ((E1.put d1).put d2) h⟩
theorem xs_expr (he : XE X c e ds x ds1) (h : P.nx ds1) (hs : swapsWith e none pos.line X.env = pure false := by rfl) : XS X c (.Expr e pos) ds P :=
  xs_of (ps_expr (pe_self e) hs) fun F σ H D E m => he.run F σ H E _ fun v F1 H1 s1 E1 d1 => m.nx F1 σ H1 _ s1 E1 h
theorem xs_ret (he : XE X c e ds x ds1) (h : P.rt x ds1) : XS X c (.Return (some e) pos) ds P :=
  xs_of (ps_ret (pe_self e)) fun F σ H D E m => he.run F σ H E _ fun v F1 H1 s1 E1 d1 => m.rt F1 σ H1 _ v x s1 E1 d1 h
theorem xs_retN (h : P.rt .none ds) : XS X c (.Return none pos) ds P := xs_of ps_retN fun F σ H D E m => m.rt F σ H ds .non .none (Same.refl F) E .non h
theorem xs_pass (h : P.nx ds) : XS X c (.Pass pos) ds P := xs_of ps_pass fun F σ H D E m => m.nx F σ H ds (Same.refl F) E h
theorem xs_break (h : P.bk ds) : XS X c (.Break pos) ds P := xs_of ps_break fun F σ H D E m => m.bk F σ H ds (Same.refl F) E h
theorem xs_continue (h : P.ct ds) : XS X c (.Continue pos) ds P := xs_of ps_continue fun F σ H D E m => m.ct F σ H ds (Same.refl F) E h
theorem xs_if {k : Bool} {t u : List Stmt} (hc : XT X c e ds k ds1) (h1 : k = true → XB X c t ds1 P) (h2 : k = false → XB X c u ds1 P) : XS X c (.If e t u pos) ds P :=
  xs_of (ps_if (pt_self e) (pss_self t) (pss_self u)) fun F σ H D E m => hc.run F σ H E _ fun F1 H1 s1 E1 => by
    cases k with
    | true => exact iteT ((h1 rfl).run F1 σ H1 D E1 (m.mono s1))
    | false => exact iteF ((h2 rfl).run F1 σ H1 D E1 (m.mono s1))
theorem tyV_lst {H : Hp} {l : Addr} {vs : List V} (h : H l = some (.lst vs)) : tyV X.K "list" (.ref l) H := Or.inl ⟨rfl, _, SqL.of h⟩
/-- found.append(e) -/
theorem xs_append (i : Nat) {apos npos : Pos} (hd : ds1[i]? = some (some (.own xs))) (hd0 : ∃ ys, ds[i]? = some (some (.own ys))) (hN : X.N[i]? = some n) (hv : Vis X.env.scope n) (he : XE X c e ds x ds1) (hlen : xs.length < sizeLine) (h : P.nx (ds1.set i (some (.own (xs ++ [x])))))
    (h1 : (n == ("__debug__" : Str)) = false := by decide) (h2 : (n == ("__classdict__" : Str)) = false := by decide)
    (hbase : attributeBase (.Name n npos) "append" X.env (eval (.Name n npos) X.env) = eval (.Name n npos) X.env := by rfl)
    (hfew : ((backTo q (starEach [e] X.env)).all (fun x => !x.1) && (backToKw q (keywordEach [] X.env)).all (fun x => x.1.isSome)
      && decide ([e].length + ([] : List Keyword).length + (if ([] : List Keyword).isEmpty then 0 else 1) < 30)) = true := by rfl)
    (hline : (apos.endLine == q.line) = true := by rfl) (hs : starEach [e] X.env = (false, eval e X.env) :: starEach [] X.env := by rfl)
    (hsw : swapsWith (.Call (.Attribute (.Name n npos) "append" apos) [e] [] q) none pos.line X.env = pure false := by rfl) :
    XS X c (.Expr (.Call (.Attribute (.Name n npos) "append" apos) [e] [] q) pos) ds P :=
  xs_of (ps_expr (pe_bm PySem.F.plainAttrs_list PySem.F.slot_list_append PySem.F.type_list_append mt_append (pe_var hN hv h1 h2) (pa_cons (pe_self e) pa_nil hs) hbase hfew hline hs rfl) hsw) fun F σ H D E m => by
    obtain ⟨ys, hd0⟩ := hd0
    obtain ⟨l, vs, g1, g2, g3⟩ := E.ownAt hd0
    refine ⟨_, g1, tyV_lst g2, he.run F σ H E _ fun v F1 H1 s1 E1 d1 => ?_⟩
    obtain ⟨l', ws, k1, k2, k3⟩ := E1.ownAt hd
    rw [g1] at k1
    cases k1
    refine ⟨l, ws, v, rfl, rfl, k2, by rw [dpAll_len k3]; exact hlen, m.nx F1 σ _ _ s1 (E1.turnOwn hd g1 (dpAll_app k3 (.cons d1 .nil))) h⟩
/-- found.pop() -/
theorem dpAll_dropLast {K : PySem.W.Frag} {H : Hp} {vs : List V} {ds : List PyData} (h : RpAll K H vs ds) : RpAll K H vs.dropLast ds.dropLast := by
  rw [List.dropLast_eq_take, List.dropLast_eq_take, dpAll_len h]
  exact dpAll_take _ h
theorem xs_pop (i : Nat) {apos npos : Pos} (hd : ds[i]? = some (some (.own xs))) (hN : X.N[i]? = some n) (hv : Vis X.env.scope n) (hne : 0 < xs.length) (h : P.nx (ds.set i (some (.own xs.dropLast))))
    (h1 : (n == ("__debug__" : Str)) = false := by decide) (h2 : (n == ("__classdict__" : Str)) = false := by decide)
    (hbase : attributeBase (.Name n npos) "pop" X.env (eval (.Name n npos) X.env) = eval (.Name n npos) X.env := by rfl)
    (hline : (apos.endLine == q.line) = true := by rfl)
    (hsw : swapsWith (.Call (.Attribute (.Name n npos) "pop" apos) [] [] q) none pos.line X.env = pure false := by rfl) :
    XS X c (.Expr (.Call (.Attribute (.Name n npos) "pop" apos) [] [] q) pos) ds P :=
  xs_of (ps_expr (pe_bm0 PySem.F.plainAttrs_list PySem.F.slot_list_pop PySem.F.type_list_pop mt_pop (pe_var hN hv h1 h2) hbase hline) hsw) fun F σ H D E m => by
    obtain ⟨l, vs, g1, g2, g3⟩ := E.ownAt hd
    have hl := dpAll_len g3
    have hlt : vs.length - 1 < vs.length := by omega
    refine ⟨_, g1, tyV_lst g2, l, vs, vs[vs.length - 1], rfl, rfl, g2, List.getElem?_eq_getElem hlt, ?_⟩
    exact m.nx F σ _ _ (Same.refl F) (E.turnOwn hd g1 (dpAll_dropLast g3)) h
/-! ### reading a list of its own -/
theorem xe_lenOwn (i : Nat) {npos : Pos} (hd : ds[i]? = some (some (.own xs))) (hN : X.N[i]? = some n) (hv : Vis X.env.scope n) (hm : X.mg "len" = none) (hg : Gl X "len")
    (h1 : (n == ("__debug__" : Str)) = false := by decide) (h2 : (n == ("__classdict__" : Str)) = false := by decide)
    (he : starEach [.Name n npos] X.env = (false, eval (.Name n npos) X.env) :: starEach [] X.env := by rfl) :
    XE X c (.Call (.Name "len" p) [.Name n npos] [] pos) ds (.int xs.length) ds :=
  xe_of (pe_callB call_len_seq hg hm boot_len (pa_cons (pe_var hN hv h1 h2) pa_nil he) (by decide) (by decide) he rfl) fun F σ H E Q k => by
    obtain ⟨l, vs, g1, g2, g3⟩ := E.ownAt hd
    refine ⟨_, g1, l, vs, rfl, .inl (SqL.of g2), ?_⟩
    rw [dpAll_len g3]
    exact k _ F H (Same.refl F) E (.int _)
theorem xe_ixOwn (i : Nat) {npos : Pos} {j : Int} (hd : ds[i]? = some (some (.own xs))) (hd1 : ds1[i]? = some (some (.own xs))) (hN : X.N[i]? = some n) (hv : Vis X.env.scope n) (hi : XE X c e ds (.int j) ds1) (ha : atI xs j = some z) (hs : PlainIx e := by exact fun _ _ => rfl)
    (h1 : (n == ("__debug__" : Str)) = false := by decide) (h2 : (n == ("__classdict__" : Str)) = false := by decide) :
    XE X c (.Subscript (.Name n npos) e pos) ds z ds1 :=
  xe_of (pe_ix ix_list (pe_var hN hv h1 h2) (pe_self e) hs) fun F σ H E Q k => by
    obtain ⟨l, vs, g1, g2, g3⟩ := E.ownAt hd
    refine ⟨_, g1, hi.run F σ H E _ fun v F1 H1 s1 E1 d1 => ?_⟩
    obtain ⟨l', ws, k1, k2, k3⟩ := E1.ownAt hd1
    rw [g1] at k1
    cases k1
    unfold atI at ha
    rw [← dpAll_len k3] at ha
    cases q : ixN ws.length j with
    | none => rw [q] at ha; cases ha
    | some jj =>
      rw [q] at ha
      obtain ⟨v', m1, m2⟩ := dpAll_get k3 ha
      exact ⟨l, ws, j, v', rfl, dp_int d1, SqL.of k2, by unfold atI; rw [q]; exact m1, k _ F1 H1 s1 E1 m2⟩
/-- x not in found -/
theorem xt_notInOwn (i : Nat) {npos : Pos} (hu : X.A.units + 65 < cLine) (hd : ds1[i]? = some (some (.own xs))) (hN : X.N[i]? = some n) (hv : Vis X.env.scope n) (he : XE X c e ds x ds1) (sx : SeqAt.shaped x = true) (sl : SeqAt.shaped (.list xs) = true)
    (h1 : (n == ("__debug__" : Str)) = false := by decide) (h2 : (n == ("__classdict__" : Str)) = false := by decide) (hm : behindInMarks .NotIn (.Name n npos) = false := by rfl) :
    XT X c (.Compare e [.NotIn] [.Name n npos] pos) ds (!xs.any fun z => PyData.eqv z x) ds1 :=
  xt_of (pt_cmpR (op_notInD hu) (pe_self e) (pe_var hN hv h1 h2) hm) fun F σ H E Q k => he.run F σ H E _ fun v F1 H1 s1 E1 d1 => by
    obtain ⟨l, vs, g1, g2, g3⟩ := E1.ownAt hd
    exact ⟨_, g1, x, xs, (dp_same E1.sub d1).dp, .lst (SqL.of g2) (dpAll_same E1.sub g3).dp, sx, sl, _, rfl, k F1 H1 s1 E1⟩
end
end Dt
set_option maxRecDepth 100000
namespace Dt
open PySem PySem.Spec PyProof.Rows L2
/-! ### what is walked -/
structure WalksD (K : PySem.W.Frag) (J : It) (F : Hp) (xs : List PyData) : Prop where
  go : ∀ F2 H2 (i : Nat), Same F F2 → Same F2 H2 → i < xs.length → J.go i H2
  stop : ∀ F2 H2, Same F F2 → Same F2 H2 → J.stop xs.length H2
  yld : ∀ F2 H2 (i : Nat) v H3 x, Same F F2 → Same F2 H2 → xs[i]? = some x → J.yld i H2 v H3 → ∃ F3, Nx F2 H2 F3 H3 ∧ Rp K F3 v x
section
variable (X : Cx) (c : Ctx)
structure XI (tg iter : Expr) (ds : Ds) (xs : List PyData) (ds1 : Ds) : Prop where
  ex : ∃ wi : TI, PI X tg iter wi ∧ ∀ F σ H, EnvD X.K c F ds σ H → ∀ R : It → Hp → Prop, (∀ J F' H', Same F F' → EnvD X.K c F' ds1 σ H' → WalksD X.K J F' xs → R J H') → wi σ H R
end
section
variable {X : Cx} {c : Ctx} {ds ds1 ds2 ds3 ds' : Ds} {a b e e1 e2 e3 tg iter elt : Expr} {es : List Expr} {pos p q : Pos} {x y z d : PyData} {xs : List PyData} {P : Post} {st : Stmt} {sts body : List Stmt} {n : Str}
theorem xi_list (h : XE X c e ds (.list xs) ds1) : XI X c tg e ds xs ds1 := by
  refine ⟨_, pi_list (pe_self e), fun F σ H E R k => h.run F σ H E _ fun v F1 H1 s1 E1 d1 => ?_⟩
  obtain ⟨l, vs, rfl, t1, t2⟩ := dp_lst d1
  refine ⟨l, rfl, ⟨vs, SqL.of (E1.sub _ _ t1)⟩, k _ F1 H1 s1 E1 ⟨fun F2 H2 i s s' hi => ?_, fun F2 H2 s s' => ?_, fun F2 H2 i v H3 x s s' hx hy => ?_⟩⟩
  · have hi' : i < vs.length := by rw [dpAll_len t2]; exact hi
    exact ⟨vs, vs[i], SqL.of (s' _ _ (s _ _ t1)), List.getElem?_eq_getElem hi'⟩
  · exact ⟨vs, SqL.of (s' _ _ (s _ _ t1)), by rw [dpAll_len t2]; exact Nat.le_refl _⟩
  · obtain ⟨rfl, hy⟩ := hy
    have g := hy vs (SqL.of (s' _ _ (s _ _ t1)))
    obtain ⟨w, g1, g2⟩ := dpAll_get t2 hx
    rw [g] at g1
    cases g1
    exact ⟨F2, Nx.refl s', dp_same s g2⟩
theorem xi_tup (h : XE X c e ds (.tuple xs) ds1) : XI X c tg e ds xs ds1 := by
  refine ⟨_, pi_tup (pe_self e), fun F σ H E R k => h.run F σ H E _ fun v F1 H1 s1 E1 d1 => ?_⟩
  obtain ⟨l, vs, rfl, t1, t2⟩ := dp_tup d1
  refine ⟨l, rfl, ⟨vs, sqT_same E1.sub t1⟩, k _ F1 H1 s1 E1 ⟨fun F2 H2 i s s' hi => ?_, fun F2 H2 s s' => ?_, fun F2 H2 i v H3 x s s' hx hy => ?_⟩⟩
  · have hi' : i < vs.length := by rw [dpAll_len t2]; exact hi
    exact ⟨vs, vs[i], sqT_same (s.trans s') t1, List.getElem?_eq_getElem hi'⟩
  · exact ⟨vs, sqT_same (s.trans s') t1, by rw [dpAll_len t2]; exact Nat.le_refl _⟩
  · obtain ⟨rfl, hy⟩ := hy
    have g := hy vs (sqT_same (s.trans s') t1)
    obtain ⟨w, g1, g2⟩ := dpAll_get t2 hx
    rw [g] at g1
    cases g1
    exact ⟨F2, Nx.refl s', dp_same s g2⟩
def rngD (lo : Int) (n : Nat) : List PyData := (List.range n).map fun i => .int (lo + (i : Nat))
theorem rngD_len (lo : Int) (n : Nat) : (rngD lo n).length = n := by unfold rngD; rw [List.length_map, List.length_range]
theorem rngD_at {lo : Int} {n i : Nat} {x : PyData} (h : (rngD lo n)[i]? = some x) : i < n ∧ x = .int (lo + (i : Nat)) := by
  unfold rngD at h
  rw [List.getElem?_map] at h
  by_cases hi : i < n
  · rw [List.getElem?_range hi] at h
    exact ⟨hi, (Option.some.inj h).symm⟩
  · rw [List.getElem?_eq_none (by rw [List.length_range]; omega)] at h
    cases h
theorem walks_range {K : PySem.W.Frag} {F : Hp} (lo : Int) (n : Nat) : WalksD K (Itr lo n) F (rngD lo n) := by
  refine ⟨fun F2 H2 i s s' hi => ?_, fun F2 H2 s s' => ?_, fun F2 H2 i v H3 x s s' hx hy => ?_⟩
  · rw [rngD_len] at hi
    exact hi
  · rw [rngD_len]
    exact Nat.le_refl _
  · obtain ⟨rfl, rfl⟩ := hy
    obtain ⟨_, rfl⟩ := rngD_at hx
    exact ⟨F2, Nx.refl s', .int _⟩
theorem xi_range1 {j : Int} (hg : Gl X "range") (hm : X.mg "range" = none) (h : XE X c a ds (.int j) ds1) (h1 : -(2 ^ 62) ≤ j) (h2 : j < 2 ^ 62) (hs : starEach [a] X.env = [(false, eval a X.env)] := by rfl) : XI X c tg (.Call (.Name "range" p) [a] [] pos) ds (rngD 0 j.toNat) ds1 :=
  ⟨_, pi_range1 hg hm (pa_cons (pe_self a) pa_nil hs) hs, fun F σ H E R k => h.run F σ H E _ fun v F1 H1 s1 E1 d1 => ⟨j, by rw [dp_int d1], h1, h2, k _ F1 H1 s1 E1 (walks_range _ _)⟩⟩
theorem xi_range2 {i j : Int} (hg : Gl X "range") (hm : X.mg "range" = none) (h : XE X c a ds (.int i) ds1) (h' : XE X c b ds1 (.int j) ds2) (hb : -(2 ^ 62) ≤ i ∧ i < 2 ^ 62 ∧ -(2 ^ 62) ≤ j ∧ j < 2 ^ 62)
    (hs : starEach [a, b] X.env = [(false, eval a X.env), (false, eval b X.env)] := by rfl) (hs2 : starEach [b] X.env = [(false, eval b X.env)] := by rfl) : XI X c tg (.Call (.Name "range" p) [a, b] [] pos) ds (rngD i (j - i).toNat) ds2 :=
  ⟨_, pi_range2 hg hm (pa_cons (pe_self a) (pa_cons (pe_self b) pa_nil hs2) (hs.trans (by rw [hs2]))) hs hs2, fun F σ H E R k => h.run F σ H E _ fun v F1 H1 s1 E1 d1 => h'.run F1 σ H1 E1 _ fun w F2 H2 s2 E2 d2 => ⟨i, j, by rw [dp_int d1, dp_int d2], hb, k _ F2 H2 (s1.trans s2) E2 (walks_range _ _)⟩⟩
def enumD (xs : List PyData) : List PyData := xs.mapIdx fun i x => .tuple [.int (i : Nat), x]
theorem enumD_at {xs : List PyData} {i : Nat} {x : PyData} (h : (enumD xs)[i]? = some x) : ∃ y, xs[i]? = some y ∧ x = .tuple [.int (i : Nat), y] := by
  unfold enumD at h
  rw [List.getElem?_mapIdx] at h
  cases e : xs[i]? with
  | none => rw [e] at h; cases h
  | some y =>
    rw [e] at h
    exact ⟨y, rfl, (Option.some.inj h).symm⟩
theorem xi_enum {elts : List Expr} {kk : Nat} {tpos : Pos} (hg : Gl X "enumerate") (hm : X.mg "enumerate" = none) (h : XE X c e ds (.list xs) ds1) (hs : starEach [e] X.env = [(false, eval e X.env)] := by rfl) :
    XI X c (.Tuple elts kk tpos) (.Call (.Name "enumerate" p) [e] [] pos) ds (enumD xs) ds1 := by
  refine ⟨_, pi_enum hg hm (pa_cons (pe_self e) pa_nil hs) hs, fun F σ H E R k => h.run F σ H E _ fun v F1 H1 s1 E1 d1 => ?_⟩
  obtain ⟨l, vs, rfl, t1, t2⟩ := dp_lst d1
  have hlen : (enumD xs).length = vs.length := by unfold enumD; rw [List.length_mapIdx, dpAll_len t2]
  refine ⟨l, vs, rfl, SqL.of (E1.sub _ _ t1), k _ F1 H1 s1 E1 ⟨fun F2 H2 i s s' hi => ?_, fun F2 H2 s s' => ?_, fun F2 H2 i v H3 x s s' hx hy => ?_⟩⟩
  · have hi' : i < vs.length := by rw [← hlen]; exact hi
    exact ⟨vs, vs[i], SqL.of (s' _ _ (s _ _ t1)), List.getElem?_eq_getElem hi'⟩
  · exact ⟨vs, SqL.of (s' _ _ (s _ _ t1)), by rw [hlen]; exact Nat.le_refl _⟩
  · obtain ⟨T, w, rfl, hT, rfl, hy⟩ := hy
    have g := hy vs (SqL.of (s' _ _ (s _ _ t1)))
    obtain ⟨y, hy1, rfl⟩ := enumD_at hx
    obtain ⟨w', g1, g2⟩ := dpAll_get t2 hy1
    rw [g] at g1
    cases g1
    have nx := Nx.new (o := .tup [.int (i : Nat), w]) s' hT
    exact ⟨_, nx, .tup (.inl (.inl upd_same)) (.cons (.int _) (.cons (dp_same nx.f (dp_same s g2)) .nil))⟩
/-! ### loops -/
theorem xs_for (hp : PassesOwn (model X.prog X.w) X.A X.env X.xe) (hc : X.calm = true) (hi : XI X c tg iter ds xs ds1) (J : Nat → Ds → Prop) (h0 : J 0 ds1)
    (hs : ∀ i x ds, xs[i]? = some x → J i ds → ∃ js ds2, XG X c js tg x ds ds2 ∧ XB X c body ds2 { nx := J (i + 1), rt := P.rt, bk := P.nx, ct := J (i + 1) })
    (hd : ∀ ds, J xs.length ds → P.nx ds) (hf : ∀ x, foldedSetIterable iter X.env x = pure x := by intro _; rfl) : XS X c (.For tg iter body [] pos) ds P := by
  obtain ⟨wi, h1, h2⟩ := hi.ex
  refine xs_of (ps_for hp hc h1 (pg_self tg) (pss_self body) hf) fun F σ H D E m => h2 F σ H E _ fun It F1 H1 s1 E1 W => ?_
  refine ⟨fun i k σ' H' => k = xs.length - i ∧ i ≤ xs.length ∧ ∃ F' ds', Same F1 F' ∧ EnvD X.K c F' ds' σ' H' ∧ J i ds', ⟨xs.length, rfl, Nat.zero_le _, F1, ds1, Same.refl _, E1, h0⟩, ?_⟩
  rintro i k σ' H' ⟨rfl, hle, F', ds', sF, E', hJ⟩
  by_cases hlt : i < xs.length
  · have hx : xs[i]? = some xs[i] := List.getElem?_eq_getElem hlt
    obtain ⟨js, ds2, hG, hB⟩ := hs i xs[i] ds' hx hJ
    refine .inr ⟨W.go F' H' i sF E'.sub hlt, fun σ2 H2 => ∃ F2 ds3, Same F1 F2 ∧ EnvD X.K c F2 ds3 σ2 H2 ∧ J (i + 1) ds3, fun σ2 H2 ⟨F2, ds3, g1, g2, g3⟩ => ⟨xs.length - (i + 1), by omega, rfl, hlt, F2, ds3, g1, g2, g3⟩, fun v H2 hy => ?_⟩
    obtain ⟨F3, nx, r⟩ := W.yld F' H' i v H2 _ sF E'.sub hx hy
    refine hG.run F3 σ' H2 v (E'.nx nx) r _ fun σ3 _ _ E3 => ?_
    have sF3 : Same F1 F3 := sF.trans nx.f
    have sO : Same F F3 := s1.trans sF3
    exact hB.run F3 σ3 H2 _ E3 ⟨fun F4 σ4 H4 ds4 s4 E4 h4 => ⟨F4, ds4, sF3.trans s4, E4, h4⟩, fun F4 σ4 H4 ds4 v4 d4 s4 E4 r4 h4 => m.rt F4 σ4 H4 ds4 v4 d4 (sO.trans s4) E4 r4 h4, fun F4 σ4 H4 ds4 s4 E4 h4 => m.nx F4 σ4 H4 ds4 (sO.trans s4) E4 h4, fun F4 σ4 H4 ds4 s4 E4 h4 => ⟨F4, ds4, sF3.trans s4, E4, h4⟩⟩
  · have e : i = xs.length := by omega
    subst e
    exact .inl ⟨W.stop F' H' sF E'.sub, m.nx F' σ' H' ds' (s1.trans sF) E' (hd ds' hJ)⟩
theorem xs_while (hp : PassesOwn (model X.prog X.w) X.A X.env X.xe) (J : Nat → Ds → Prop) {m0 : Nat} (h0 : J m0 ds)
    (hs : ∀ k ds, J k ds → ∃ b ds', XT X c e ds b ds' ∧ (b = true → XB X c body ds' { nx := fun ds2 => ∃ k', k' < k ∧ J k' ds2, rt := P.rt, bk := P.nx, ct := fun ds2 => ∃ k', k' < k ∧ J k' ds2 }) ∧ (b = false → P.nx ds')) : XS X c (.While e body [] pos) ds P := by
  refine xs_of (ps_while hp (pt_self e) (pss_self body)) fun F σ H D E m => ?_
  refine ⟨fun k σ' H' => ∃ F' ds', Same F F' ∧ EnvD X.K c F' ds' σ' H' ∧ J k ds', ⟨m0, F, ds, Same.refl F, E, h0⟩, ?_⟩
  rintro k σ' H' ⟨F', ds', sF, E', hJ⟩
  obtain ⟨b, ds1, hT, hB, hN⟩ := hs k ds' hJ
  refine hT.run F' σ' H' E' _ fun F1 H1 s1 E1 => ?_
  have sO : Same F F1 := sF.trans s1
  cases b with
  | true =>
    refine iteT ⟨fun σ2 H2 => ∃ F2 ds3 k', Same F F2 ∧ EnvD X.K c F2 ds3 σ2 H2 ∧ k' < k ∧ J k' ds3, fun σ2 H2 ⟨F2, ds3, k', g1, g2, g3, g4⟩ => ⟨k', g3, F2, ds3, g1, g2, g4⟩, ?_⟩
    exact (hB rfl).run F1 σ' H1 _ E1 ⟨fun F4 σ4 H4 ds4 s4 E4 ⟨k', l, h4⟩ => ⟨F4, ds4, k', sO.trans s4, E4, l, h4⟩, fun F4 σ4 H4 ds4 v4 d4 s4 E4 r4 h4 => m.rt F4 σ4 H4 ds4 v4 d4 (sO.trans s4) E4 r4 h4, fun F4 σ4 H4 ds4 s4 E4 h4 => m.nx F4 σ4 H4 ds4 (sO.trans s4) E4 h4, fun F4 σ4 H4 ds4 s4 E4 ⟨k', l, h4⟩ => ⟨F4, ds4, k', sO.trans s4, E4, l, h4⟩⟩
  | false => exact iteF (m.nx F1 σ' H1 ds1 sO E1 (hN rfl))
/-! ### comprehensions -/
/-- the slots of a block's own names, forgotten -/
def dwipe (ds : Ds) : List Nat → Ds
  | [] => ds
  | v :: vs => (dwipe ds vs).set v none
theorem dwipe_len (ds : Ds) : ∀ vs, (dwipe ds vs).length = ds.length
  | [] => rfl
  | v :: vs => by unfold dwipe; rw [List.length_set, dwipe_len ds vs]
theorem dwipe_some {ds : Ds} {i : Nat} {s : Sl} : ∀ {vs : List Nat}, (dwipe ds vs)[i]? = some (some s) → ds[i]? = some (some s) ∧ i ∉ vs
  | [], h => ⟨h, by simp⟩
  | v :: vs, h => by
    unfold dwipe at h
    by_cases hi : v = i
    · subst hi
      by_cases hv : v < (dwipe ds vs).length
      · rw [List.getElem?_set_self hv] at h; cases h
      · rw [List.getElem?_eq_none (by simpa using hv)] at h; cases h
    · rw [List.getElem?_set_ne hi] at h
      obtain ⟨h1, h2⟩ := dwipe_some h
      exact ⟨h1, by simp only [List.mem_cons, not_or]; exact ⟨fun e => hi e.symm, h2⟩⟩
theorem wipe_out' {σ : L2.St} {i : Nat} : ∀ {vs : List Nat}, i ∉ vs → (wipe σ vs)[i]? = σ[i]?
  | [], _ => rfl
  | v :: vs, h => by
    simp only [List.mem_cons, not_or] at h
    unfold wipe
    rw [List.getElem?_set_ne (Ne.symm h.1)]
    exact wipe_out' h.2
theorem wipe_in {σ : L2.St} {i : Nat} : ∀ {vs : List Nat}, i ∈ vs → i < σ.length → (wipe σ vs)[i]? = some none
  | v :: vs, h, hl => by
    unfold wipe
    by_cases hv : v = i
    · subst hv
      rw [List.getElem?_set_self (by rw [wipe_length]; exact hl)]
    · rw [List.getElem?_set_ne hv]
      exact wipe_in ((List.mem_cons.mp h).resolve_left fun z => hv z.symm) hl
theorem wipe_eq {σ σ' : L2.St} {vs js : List Nat} (hl : σ'.length = σ.length) (h : ∀ j, j ∉ js → σ'[j]? = (wipe σ vs)[j]?) (hj : ∀ j ∈ js, j ∈ vs) : wipe σ' vs = wipe σ vs := by
  apply List.ext_getElem?
  intro i
  by_cases hi : i ∈ vs
  · by_cases hl' : i < σ.length
    · rw [wipe_in hi hl', wipe_in hi (by rw [hl]; exact hl')]
    · rw [List.getElem?_eq_none (by rw [wipe_length]; omega), List.getElem?_eq_none (by rw [wipe_length]; omega)]
  · rw [wipe_out' hi, h i (fun z => hi (hj i z))]
theorem EnvD.wiped {K : PySem.W.Frag} {F H : Hp} {σ : L2.St} {vs : List Nat} (E : EnvD K c F ds σ H) : EnvD K c F (dwipe ds vs) (wipe σ vs) H := by
  refine E.weak (by rw [wipe_length, dwipe_len]; exact E.len) fun i s h => ?_
  obtain ⟨h1, h2⟩ := dwipe_some h
  exact ⟨h1, fun v hv => by rw [wipe_out' h2]; exact hv⟩
/-- behind a turn: the block's own names forgotten, the slots of the def around as they were -/
theorem EnvD.back {K : PySem.W.Frag} {F H : Hp} {σ σ2 : L2.St} {vs js : List Nat} (E : EnvD K c F ds σ2 H) (hl : σ.length = σ2.length) (h : ∀ j, j ∉ js → σ2[j]? = (wipe σ vs)[j]?) (hj : ∀ j ∈ js, j ∈ vs) : EnvD K c F (dwipe ds vs) σ H := by
  refine E.weak (by rw [dwipe_len, hl]; exact E.len) fun i s hi => ?_
  obtain ⟨h1, h2⟩ := dwipe_some hi
  refine ⟨h1, fun v hv => ?_⟩
  rw [h i (fun z => h2 (hj i z)), wipe_out' h2] at hv
  exact hv
/-- the list that is being made is guarded -/
def Ctx.guard (c : Ctx) (D : Addr) (vs : List V) : Ctx := { c with G := upd c.G D (.lst vs) }
theorem EnvD.guard {K : PySem.W.Frag} {F H : Hp} {σ : L2.St} (E : EnvD K c F ds σ H) {D : Addr} {vs : List V} (hD : H D = none) : EnvD K (c.guard D vs) F ds σ (upd H D (.lst vs)) := by
  obtain ⟨A, a1, a2, a3⟩ := E.own
  have hF : F D = none := E.sub.free hD
  have nM : ¬ c.M D := fun m => E.mt D m hD
  have h0 : c.H0 D = none := by
    cases q : c.H0 D with
    | none => rfl
    | some o =>
      have z := E.base D o nM q
      rw [hD] at z
      cases z
  have nA : ∀ j a, A j a → a ≠ D := fun j a ha z => (a2 j a ha).2.1 (by rw [z]; exact hD)
  refine ⟨⟨fun b o e => ?_, E.f0, fun a o m e => ?_, fun a m z => ?_, E.cln, fun a o g => ?_, fun a g => ?_⟩, ⟨A, a1, fun j a ha => ?_, fun j s hj => ?_⟩, E.len⟩
  · rw [upd_ne (ne_of_none e hF)]
    exact E.sub b o e
  · rw [upd_ne (ne_of_none (show c.H0 a = some o from e) h0)]
    exact E.base a o m e
  · have hb : a ≠ D := fun q => nM (by rw [← q]; exact m)
    rw [upd_ne hb] at z
    exact E.mt a m z
  · have g' : upd c.G D (.lst vs) a = some o := g
    by_cases hb : a = D
    · subst hb
      rw [upd_same] at g' ⊢
      exact g'
    · rw [upd_ne hb] at g' ⊢
      exact E.gd a o g'
  · have g' : upd c.G D (.lst vs) a ≠ none := g
    by_cases hb : a = D
    · subst hb
      exact hF
    · rw [upd_ne hb] at g'
      exact E.gf a g'
  · obtain ⟨g1, g2, g3, g4⟩ := a2 j a ha
    refine ⟨g1, by rw [upd_ne (nA j a ha)]; exact g2, g3, ?_⟩
    show upd c.G D (.lst vs) a = none
    rw [upd_ne (nA j a ha)]
    exact g4
  · obtain ⟨w, g1, g2⟩ := a3 j s hj
    refine ⟨w, g1, ?_⟩
    cases s with
    | d z => exact g2
    | own zs =>
      obtain ⟨l', us, e, k1, k2, k3, k4⟩ := g2
      exact ⟨l', us, e, by rw [upd_ne (nA j l' k3)]; exact k1, k2, k3, k4⟩
    | pool rows po =>
      obtain ⟨q, r, cc, e, k1, k2, k3, k4, k6⟩ := g2
      exact ⟨q, r, cc, e, k1, k2, (by rw [upd_ne (nA j cc k4)]; exact k3), k4, k6⟩
    | scr ns => exact g2
/-- the guarded list grows -/
theorem EnvD.reguard {K : PySem.W.Frag} {F H : Hp} {σ : L2.St} {D : Addr} {vs ws : List V} (E : EnvD K (c.guard D vs) F ds σ H) (h0 : c.H0 D = none) (nM : ¬ c.M D) : EnvD K (c.guard D ws) F ds σ (upd H D (.lst ws)) := by
  obtain ⟨A, a1, a2, a3⟩ := E.own
  have gD : (c.guard D vs).G D = some (.lst vs) := upd_same
  have hF : F D = none := E.gf D (by rw [gD]; intro z; cases z)
  have nA : ∀ j a, A j a → a ≠ D := fun j a ha z => by
    have q := (a2 j a ha).2.2.2
    rw [z, gD] at q
    cases q
  refine ⟨⟨fun b o e => ?_, E.f0, fun a o m e => ?_, fun a m z => ?_, E.cln, fun a o g => ?_, fun a g => ?_⟩, ⟨A, a1, fun j a ha => ?_, fun j s hj => ?_⟩, E.len⟩
  · rw [upd_ne (ne_of_none e hF)]
    exact E.sub b o e
  · rw [upd_ne (ne_of_none (show c.H0 a = some o from e) h0)]
    exact E.base a o m e
  · have hb : a ≠ D := fun q => nM (by rw [← q]; exact m)
    rw [upd_ne hb] at z
    exact E.mt a m z
  · have g' : upd c.G D (.lst ws) a = some o := g
    by_cases hb : a = D
    · subst hb
      rw [upd_same] at g' ⊢
      exact g'
    · rw [upd_ne hb] at g' ⊢
      refine E.gd a o ?_
      show upd c.G D (.lst vs) a = some o
      rw [upd_ne hb]
      exact g'
  · have g' : upd c.G D (.lst ws) a ≠ none := g
    by_cases hb : a = D
    · subst hb
      exact hF
    · rw [upd_ne hb] at g'
      refine E.gf a ?_
      show upd c.G D (.lst vs) a ≠ none
      rw [upd_ne hb]
      exact g'
  · obtain ⟨g1, g2, g3, g4⟩ := a2 j a ha
    refine ⟨g1, by rw [upd_ne (nA j a ha)]; exact g2, g3, ?_⟩
    have g5 : upd c.G D (.lst vs) a = none := g4
    show upd c.G D (.lst ws) a = none
    rw [upd_ne (nA j a ha)] at g5 ⊢
    exact g5
  · obtain ⟨w, g1, g2⟩ := a3 j s hj
    refine ⟨w, g1, ?_⟩
    cases s with
    | d z => exact g2
    | own zs =>
      obtain ⟨l', us, e, k1, k2, k3, k4⟩ := g2
      exact ⟨l', us, e, by rw [upd_ne (nA j l' k3)]; exact k1, k2, k3, k4⟩
    | pool rows po =>
      obtain ⟨q, r, cc, e, k1, k2, k3, k4, k6⟩ := g2
      exact ⟨q, r, cc, e, k1, k2, (by rw [upd_ne (nA j cc k4)]; exact k3), k4, k6⟩
    | scr ns => exact g2
/-- it is made: from now on it is data -/
theorem EnvD.unguard {K : PySem.W.Frag} {F H : Hp} {σ : L2.St} {D : Addr} {vs : List V} (E : EnvD K (c.guard D vs) F ds σ H) (h0 : c.H0 D = none) (nM : ¬ c.M D) (hG : c.G D = none) : EnvD K c (upd F D (.lst vs)) ds σ H := by
  obtain ⟨A, a1, a2, a3⟩ := E.own
  have gD : (c.guard D vs).G D = some (.lst vs) := upd_same
  have hF : F D = none := E.gf D (by rw [gD]; intro z; cases z)
  have hH : H D = some (.lst vs) := E.gd D _ gD
  have nA : ∀ j a, A j a → a ≠ D := fun j a ha z => by
    have q := (a2 j a ha).2.2.2
    rw [z, gD] at q
    cases q
  have sF : Same F (upd F D (.lst vs)) := same_new hF
  have up : ∀ a, c.G a ≠ none → a ≠ D := fun a g z => g (by rw [z]; exact hG)
  refine ⟨⟨fun b o e => ?_, E.f0.trans sF, E.base, E.mt, fun a g hf => ?_, fun a o g => ?_, fun a g => ?_⟩, ⟨A, a1, fun j a ha => ?_, fun j s hj => ?_⟩, E.len⟩
  · by_cases hb : b = D
    · subst hb
      rw [upd_same] at e
      cases e
      exact hH
    · rw [upd_ne hb] at e
      exact E.sub b o e
  · have hb : a ≠ D := fun z => g (by rw [z]; exact h0)
    rw [upd_ne hb] at hf
    exact E.cln a g hf
  · refine E.gd a o ?_
    show upd c.G D (.lst vs) a = some o
    rw [upd_ne (up a (by rw [g]; intro z; cases z))]
    exact g
  · rw [upd_ne (up a g)]
    refine E.gf a ?_
    show upd c.G D (.lst vs) a ≠ none
    rw [upd_ne (up a g)]
    exact g
  · obtain ⟨g1, g2, g3, g4⟩ := a2 j a ha
    refine ⟨by rw [upd_ne (nA j a ha)]; exact g1, g2, g3, ?_⟩
    have g5 : upd c.G D (.lst vs) a = none := g4
    rw [upd_ne (nA j a ha)] at g5
    exact g5
  · obtain ⟨w, g1, g2⟩ := a3 j s hj
    refine ⟨w, g1, ?_⟩
    cases s with
    | d z => exact dp_same sF g2
    | own zs =>
      obtain ⟨l', us, e, k1, k2, k3, k4⟩ := g2
      exact ⟨l', us, e, k1, dpAll_same sF k2, k3, k4⟩
    | pool rows po =>
      obtain ⟨q, r, cc, e, k1, k2, k3, k4, k6⟩ := g2
      exact ⟨q, r, cc, e, sF _ _ k1, sF _ _ k2, k3, k4, k6⟩
    | scr ns => exact g2
/-- the reading of a comprehension: J by the turn, what is made so far, the slots -/
theorem ed_lc {wi : TI} {g : TG} {tt : TT} {te : TE} {vs : List Nat} (hwi : ∀ F σ H, EnvD X.K c F ds σ H → ∀ R : It → Hp → Prop, (∀ J F' H', Same F F' → EnvD X.K c F' ds1 σ H' → WalksD X.K J F' xs → R J H') → wi σ H R)
    (J : Nat → List PyData → Ds → Prop) (h0 : J 0 [] (dwipe ds1 vs)) (hlen : xs.length ≤ sizeLine)
    (hs : ∀ (c' : Ctx), c'.M = c.M → ∀ i x acc ds, xs[i]? = some x → acc.length ≤ i → J i acc ds → ∃ js ds2, GD X.K c' js g x ds ds2 ∧ (∀ j ∈ js, j ∈ vs) ∧ ∃ b ds3, TD X.K c' tt ds2 b ds3 ∧ (b = true → ∃ y ds4, ED X.K c' te ds3 y ds4 ∧ J (i + 1) (acc ++ [y]) (dwipe ds4 vs)) ∧ (b = false → J (i + 1) acc (dwipe ds3 vs)))
    {Q0 : PyData} (hd : ∀ acc ds, acc.length ≤ xs.length → J xs.length acc ds → ds = ds' ∧ Q0 = .list acc) : ED X.K c (tLc wi g tt te vs) ds Q0 ds' := by
  intro F σ H E Q k
  refine hwi F σ H E _ fun It F1 H1 s1 E1 W => fun D hD => ?_
  have hF1 : F1 D = none := E1.sub.free hD
  have nM : ¬ c.M D := fun m => E1.mt D m hD
  have hH0 : c.H0 D = none := by
    cases q : c.H0 D with
    | none => rfl
    | some o =>
      have z := E1.base D o nM q
      rw [hD] at z
      cases z
  have hG : c.G D = none := by
    cases q : c.G D with
    | none => rfl
    | some o =>
      have z := E1.gd D o q
      rw [hD] at z
      cases z
  have ew : EnvD X.K c F1 (dwipe ds1 vs) σ H1 := by
    refine E1.weak (by rw [dwipe_len]; exact E1.len) fun i s h => ?_
    exact ⟨(dwipe_some h).1, fun v hv => hv⟩
  refine ⟨fun i m H' => m = xs.length - i ∧ i ≤ xs.length ∧ ∃ F' ds' acc us, Same F1 F' ∧ EnvD X.K (c.guard D us) F' ds' σ H' ∧ RpAll X.K F' us acc ∧ acc.length ≤ i ∧ J i acc ds' ∧ ∃ d0, ds' = dwipe d0 vs, ⟨xs.length, rfl, Nat.zero_le _, F1, _, [], [], Same.refl _, ew.guard hD, .nil, Nat.le_refl _, h0, ds1, rfl⟩, ?_⟩
  rintro i m H' ⟨rfl, hle, F', ds', acc, us, sF, E', hr, hal, hJ, d0, hd0⟩
  by_cases hlt : i < xs.length
  · have hx : xs[i]? = some xs[i] := List.getElem?_eq_getElem hlt
    obtain ⟨js, ds2, hg, hjs, b, ds3, hT, hB, hN⟩ := hs (c.guard D us) rfl i xs[i] acc ds' hx hal hJ
    refine .inr ⟨W.go F' H' i sF E'.sub hlt, fun H2 => ∃ F2 ds3 acc2 us2, Same F1 F2 ∧ EnvD X.K (c.guard D us2) F2 ds3 σ H2 ∧ RpAll X.K F2 us2 acc2 ∧ acc2.length ≤ i + 1 ∧ J (i + 1) acc2 ds3 ∧ ∃ d0, ds3 = dwipe d0 vs, fun H2 ⟨F2, ds3, acc2, us2, g1, g2, g3, g4, g5, g6⟩ => ⟨xs.length - (i + 1), by omega, rfl, hlt, F2, ds3, acc2, us2, g1, g2, g3, g4, g5, g6⟩, fun v H2 hy => ?_⟩
    obtain ⟨F3, nx, r⟩ := W.yld F' H' i v H2 _ sF E'.sub hx hy
    have E3 : EnvD X.K (c.guard D us) F3 ds' (wipe σ vs) H2 := by
      refine (E'.nx nx).weak (by rw [wipe_length]; exact E'.len) fun j s h => ⟨h, fun v hv => ?_⟩
      rw [hd0] at h
      rw [wipe_out' (dwipe_some h).2]
      exact hv
    have hlσ : (wipe σ vs).length = σ.length := wipe_length _ _
    refine hg F3 _ H2 v E3 r _ fun σ2 hl2 hσ E4 => ⟨wipe_eq (by rw [hl2, hlσ]) hσ hjs, hT F3 σ2 H2 E4 _ fun F4 H4 s4 E5 => ?_⟩
    have hl3 : σ.length = σ2.length := by rw [hl2, hlσ]
    have sF4 : Same F1 F4 := (sF.trans nx.f).trans s4
    cases b with
    | true =>
      obtain ⟨y, ds4, hE, hJ'⟩ := hB rfl
      refine iteT (hE F4 σ2 H4 E5 _ fun u F5 H5 s5 E6 r6 => ?_)
      have hDn : H5 D = some (.lst us) := E6.gd D _ upd_same
      have hau : us.length = acc.length := dpAll_len hr
      refine ⟨us, hDn, by rw [hau]; omega, F5, dwipe ds4 vs, acc ++ [y], us ++ [u], sF4.trans s5, ?_, ?_, ?_, hJ', ds4, rfl⟩
      · exact (E6.reguard hH0 nM).back hl3 hσ hjs
      · exact dpAll_app (dpAll_same ((nx.f.trans s4).trans s5) hr) (.cons r6 .nil)
      · rw [List.length_append, List.length_singleton]
        omega
    | false =>
      refine iteF ⟨F4, dwipe ds3 vs, acc, us, sF4, E5.back hl3 hσ hjs, dpAll_same (nx.f.trans s4) hr, by omega, hN rfl, ds3, rfl⟩
  · have e : i = xs.length := by omega
    subst e
    refine .inl ⟨W.stop F' H' sF E'.sub, ?_⟩
    obtain ⟨rfl, rfl⟩ := hd acc ds' hal hJ
    have hFD : F' D = none := E'.gf D (by rw [show (c.guard D us).G D = some (.lst us) from upd_same]; intro z; cases z)
    have sU : Same F' (upd F' D (.lst us)) := same_new hFD
    exact k _ (upd F' D (.lst us)) H' ((s1.trans sF).trans sU) (E'.unguard hH0 nM hG) (.lst upd_same (dpAll_same sU hr))
/-- [elt for tg in iter if ..] -/
theorem xe_lc {ifs : List Expr} {scope : Scope} (own : List (Str × Nat)) (hc : X.calm = true) (hN : X.N.Nodup) (hi : XI X c tg iter ds xs ds1) (ok : BlkOk X.N X.env.scope scope own)
    {tt : TT} {te : TE} {g : TG}
    (hg : ∀ (s : Shared) (H : Hp) (C : Addr) (cl : List (Str × Addr)) (fp : List Addr), PG (X.blk s H scope (compEnvC scope cl C X.env) fp) tg g)
    (ht : ∀ (s : Shared) (H : Hp) (C : Addr) (cl : List (Str × Addr)) (fp : List Addr), PTs (X.blk s H scope (compEnvC scope cl C X.env) fp) ifs tt)
    (he : ∀ (s : Shared) (H : Hp) (C : Addr) (cl : List (Str × Addr)) (fp : List Addr), PE (X.blk s H scope (compEnvC scope cl C X.env) fp) elt te)
    (J : Nat → List PyData → Ds → Prop) (h0 : J 0 [] (dwipe ds1 (own.map (·.2)))) (hlen : xs.length ≤ sizeLine)
    (hs : ∀ (c' : Ctx), c'.M = c.M → ∀ i x acc ds, xs[i]? = some x → acc.length ≤ i → J i acc ds → ∃ js ds2, GD X.K c' js g x ds ds2 ∧ (∀ j ∈ js, j ∈ own.map (·.2)) ∧ ∃ b ds3, TD X.K c' tt ds2 b ds3 ∧ (b = true → ∃ y ds4, ED X.K c' te ds3 y ds4 ∧ J (i + 1) (acc ++ [y]) (dwipe ds4 (own.map (·.2)))) ∧ (b = false → J (i + 1) acc (dwipe ds3 (own.map (·.2)))))
    {Q0 : PyData} (hd : ∀ acc ds, acc.length ≤ xs.length → J xs.length acc ds → ds = ds' ∧ Q0 = .list acc) (hf : ∀ x, foldedSetIterable iter X.env x = pure x := by intro _; rfl) :
    XE X c (.ListComp elt [⟨tg, iter, ifs, 0⟩] scope pos) ds Q0 ds' := by
  obtain ⟨wi, h1, h2⟩ := hi.ex
  exact xe_of (pe_lc hc hN h1 ok hg ht he hf) (ed_lc h2 J h0 hlen hs hd)
end
end Dt
set_option maxRecDepth 100000
namespace Dt
open PySem PySem.Spec PyProof.Rows L2
/-! ### comprehensions, by judgements -/
section
variable {X : Cx} {c : Ctx} {ds ds1 ds2 ds3 ds' : Ds} {a b e e1 e2 e3 tg iter elt : Expr} {es ifs : List Expr} {pos p q : Pos} {x y z d : PyData} {xs : List PyData} {P : Post} {st : Stmt} {sts body : List Stmt} {n : Str} {scope : Scope}
/-- what is said of a block, whatever its frame -/
abbrev InBlk (X : Cx) (scope : Scope) (S : Cx → Prop) : Prop := ∀ (s : Shared) (H : Hp) (C : Addr) (cl : List (Str × Addr)) (fp : List Addr), S (X.blk s H scope (compEnvC scope cl C X.env) fp)
/-- a comprehension by its parts -/
structure LcOk (X : Cx) (c : Ctx) (tg iter elt : Expr) (ifs : List Expr) (scope : Scope) (own : List (Str × Nat)) (ds : Ds) (Q0 : PyData) (ds' : Ds) : Prop where
  ex : ∃ (wi : TI) (g : TG) (tt : TT) (te : TE), PI X tg iter wi ∧ InBlk X scope (fun Y => PG Y tg g) ∧ InBlk X scope (fun Y => PTs Y ifs tt) ∧ InBlk X scope (fun Y => PE Y elt te) ∧ ED X.K c (tLc wi g tt te (own.map (·.2))) ds Q0 ds'
theorem xe_lcO {own : List (Str × Nat)} (hc : X.calm = true) (hN : X.N.Nodup) (ok : BlkOk X.N X.env.scope scope own) (h : LcOk X c tg iter elt ifs scope own ds d ds') (hf : ∀ x, foldedSetIterable iter X.env x = pure x := by intro _; rfl) :
    XE X c (.ListComp elt [⟨tg, iter, ifs, 0⟩] scope pos) ds d ds' := by
  obtain ⟨wi, g, tt, te, h1, h2, h3, h4, h5⟩ := h.ex
  exact xe_of (pe_lc hc hN h1 ok h2 h3 h4 hf) h5
/-- y = [..] on one line -/
theorem xs_lcO (i : Nat) {y : Str} {py : Pos} {own : List (Str × Nat)} (hc : X.calm = true) (hN : X.N.Nodup) (hy : X.N[i]? = some y) (hyl : X.env.scope.names.lookup y = some .local) (hsw : swapsWith (.ListComp elt [⟨tg, iter, ifs, 0⟩] scope pos) (some (.Name y py)) q.line X.env = pure true)
    (ok : BlkOk X.N X.env.scope scope own) (h : LcOk X c tg iter elt ifs scope own ds d ds') (hn : P.nx (ds'.set i (some (.d d)))) (hf : ∀ x, foldedSetIterable iter X.env x = pure x := by intro _; rfl) :
    XS X c (.Assign [.Name y py] (.ListComp elt [⟨tg, iter, ifs, 0⟩] scope pos) q) ds P := by
  obtain ⟨wi, g, tt, te, h1, h2, h3, h4, h5⟩ := h.ex
  exact xs_of (ps_setLc hc hN hy hyl hsw h1 ok h2 h3 h4 hf) fun F σ H D E m => h5 F σ H E _ fun v F1 H1 s1 E1 d1 => m.nx F1 _ H1 _ s1 (E1.put d1) hn
theorem lc_J (own : List (Str × Nat)) (hi : XI X c tg iter ds xs ds1)
    (J : Nat → List PyData → Ds → Prop) (h0 : J 0 [] (dwipe ds1 (own.map (·.2)))) (hlen : xs.length ≤ sizeLine)
    (hs : ∀ (c' : Ctx), c'.M = c.M → ∀ i x acc ds, xs[i]? = some x → acc.length ≤ i → J i acc ds → ∃ js ds2, InBlk X scope (fun Y => XG Y c' js tg x ds ds2) ∧ (∀ j ∈ js, j ∈ own.map (·.2)) ∧ ∃ b ds3, InBlk X scope (fun Y => XIfs Y c' ifs ds2 b ds3) ∧
      (b = true → ∃ y ds4, InBlk X scope (fun Y => XE Y c' elt ds3 y ds4) ∧ J (i + 1) (acc ++ [y]) (dwipe ds4 (own.map (·.2)))) ∧ (b = false → J (i + 1) acc (dwipe ds3 (own.map (·.2)))))
    {Q0 : PyData} (hd : ∀ acc ds, acc.length ≤ xs.length → J xs.length acc ds → ds = ds' ∧ Q0 = .list acc) : LcOk X c tg iter elt ifs scope own ds Q0 ds' := by
  obtain ⟨wi, h1, h2⟩ := hi.ex
  refine ⟨wi, fun v σ H Q => InBlk X scope fun Y => tG Y tg v σ H Q, fun σ H Q => InBlk X scope fun Y => tIfs Y ifs σ H Q, fun σ H Q => InBlk X scope fun Y => tE Y elt σ H Q, h1,
    fun s H C cl fp => ⟨fun pins s' σ H' v u Q I r h => h s H C cl fp pins s' u I r⟩, fun s H C cl fp => ⟨fun pins s' σ H' Q I h => h s H C cl fp pins s' I⟩, fun s H C cl fp => ⟨fun pins s' σ H' Q I h => h s H C cl fp pins s' I⟩, ed_lc h2 J h0 hlen (fun c' hM i x acc ds hx ha hJ => ?_) hd⟩
  obtain ⟨js, ds2, h1, h2, b, ds3, h3, h4, h5⟩ := hs c' hM i x acc ds hx ha hJ
  refine ⟨js, ds2, fun F σ H v E r Q k s0 H0 C cl fp => (h1 s0 H0 C cl fp).run F σ H v E r Q k, h2, b, ds3, fun F σ H E Q k s0 H0 C cl fp => (h3 s0 H0 C cl fp).run F σ H E Q k, fun hb => ?_, h5⟩
  obtain ⟨y, ds4, h6, h7⟩ := h4 hb
  exact ⟨y, ds4, fun F σ H E Q k s0 H0 C cl fp => (h6 s0 H0 C cl fp).run F σ H E Q k, h7⟩
theorem xifs_nil : XIfs X c [] ds true ds := xifs_of pts_nil fun F σ H E Q k => k F H (Same.refl F) E
theorem xifs_one {k : Bool} (h : XT X c e ds k ds1) : XIfs X c [e] ds k ds1 := xifs_of (pts_one (pt_self e)) fun F σ H E Q q => h.run F σ H E Q q
theorem take_succ_at {α : Type} {l : List α} {i : Nat} {x : α} (h : l[i]? = some x) : l.take (i + 1) = l.take i ++ [x] := by
  rw [List.take_add_one, h]
  rfl
/-- [f(x) for x in xs] -/
theorem lc_map (own : List (Str × Nat)) (hi : XI X c tg iter ds xs ds1) (hlen : xs.length ≤ sizeLine) (f : PyData → PyData) (hw : dwipe ds1 (own.map (·.2)) = ds1)
    (hs : ∀ (c' : Ctx), c'.M = c.M → ∀ x, x ∈ xs → ∃ js ds2 ds4, InBlk X scope (fun Y => XG Y c' js tg x ds1 ds2) ∧ (∀ j ∈ js, j ∈ own.map (·.2)) ∧ InBlk X scope (fun Y => XE Y c' elt ds2 (f x) ds4) ∧ dwipe ds4 (own.map (·.2)) = ds1) : LcOk X c tg iter elt [] scope own ds (.list (xs.map f)) ds1 := by
  refine lc_J own hi (fun i acc ds => acc = (xs.take i).map f ∧ ds = ds1) ⟨rfl, hw⟩ hlen (fun c' hM i x acc ds hx ha hJ => ?_) (fun acc ds _ hJ => ?_)
  · obtain ⟨rfl, rfl⟩ := hJ
    obtain ⟨js, ds2, ds4, h1, h2, h3, h4⟩ := hs c' hM x (List.mem_of_getElem? hx)
    refine ⟨js, ds2, h1, h2, true, ds2, fun _ _ _ _ _ => xifs_nil, fun _ => ⟨f x, ds4, h3, ?_, h4⟩, fun z => nomatch z⟩
    rw [take_succ_at hx, List.map_append]
    rfl
  · obtain ⟨rfl, rfl⟩ := hJ
    rw [List.take_length]
    exact ⟨rfl, rfl⟩
theorem xe_lcMap (own : List (Str × Nat)) (hc : X.calm = true) (hN : X.N.Nodup) (hi : XI X c tg iter ds xs ds1) (ok : BlkOk X.N X.env.scope scope own) (hlen : xs.length ≤ sizeLine) (f : PyData → PyData) (hw : dwipe ds1 (own.map (·.2)) = ds1)
    (hs : ∀ (c' : Ctx), c'.M = c.M → ∀ x, x ∈ xs → ∃ js ds2 ds4, InBlk X scope (fun Y => XG Y c' js tg x ds1 ds2) ∧ (∀ j ∈ js, j ∈ own.map (·.2)) ∧ InBlk X scope (fun Y => XE Y c' elt ds2 (f x) ds4) ∧ dwipe ds4 (own.map (·.2)) = ds1)
    (hf : ∀ x, foldedSetIterable iter X.env x = pure x := by intro _; rfl) : XE X c (.ListComp elt [⟨tg, iter, [], 0⟩] scope pos) ds (.list (xs.map f)) ds1 := xe_lcO hc hN ok (lc_map own hi hlen f hw hs) hf
/-- [f(x) for x in xs if k(x)] -/
theorem lc_fil (own : List (Str × Nat)) (hi : XI X c tg iter ds xs ds1) (hlen : xs.length ≤ sizeLine) (f : PyData → PyData) (k : PyData → Bool) (hw : dwipe ds1 (own.map (·.2)) = ds1)
    (hs : ∀ (c' : Ctx), c'.M = c.M → ∀ x, x ∈ xs → ∃ js ds2 ds3, InBlk X scope (fun Y => XG Y c' js tg x ds1 ds2) ∧ (∀ j ∈ js, j ∈ own.map (·.2)) ∧ InBlk X scope (fun Y => XIfs Y c' ifs ds2 (k x) ds3) ∧ dwipe ds3 (own.map (·.2)) = ds1 ∧ (k x = true → ∃ ds4, InBlk X scope (fun Y => XE Y c' elt ds3 (f x) ds4) ∧ dwipe ds4 (own.map (·.2)) = ds1)) : LcOk X c tg iter elt ifs scope own ds (.list ((xs.filter k).map f)) ds1 := by
  refine lc_J own hi (fun i acc ds => acc = ((xs.take i).filter k).map f ∧ ds = ds1) ⟨rfl, hw⟩ hlen (fun c' hM i x acc ds hx ha hJ => ?_) (fun acc ds _ hJ => ?_)
  · obtain ⟨rfl, rfl⟩ := hJ
    obtain ⟨js, ds2, ds3, h1, h2, h3, h4, h5⟩ := hs c' hM x (List.mem_of_getElem? hx)
    refine ⟨js, ds2, h1, h2, k x, ds3, h3, fun hk => ?_, fun hk => ⟨?_, h4⟩⟩
    · obtain ⟨ds4, h6, h7⟩ := h5 hk
      refine ⟨f x, ds4, h6, ?_, h7⟩
      rw [take_succ_at hx, List.filter_append, List.map_append, List.filter_cons_of_pos hk]
      rfl
    · rw [take_succ_at hx, List.filter_append, List.map_append, List.filter_cons_of_neg (by rw [hk]; exact Bool.false_ne_true)]
      simp
  · obtain ⟨rfl, rfl⟩ := hJ
    rw [List.take_length]
    exact ⟨rfl, rfl⟩
end
/-! ### defs and their calls -/
/-- a def: its data in, its data out -/
def SpD (K : PySem.W.Frag) {α : Type} (args : α → List PyData) (pre : α → Prop) (res : α → PyData) : Sp := fun vs H Q _ => ∃ (x : α) (F : Hp), Same F H ∧ RpAll K F vs (args x) ∧ pre x ∧ ∀ v F' H', Nx F H F' H' → Rp K F' v (res x) → Q v H'
/-- a def that may raise an error of the class at C (res x = none) -/
def SpX (K : PySem.W.Frag) (C : Addr) {α : Type} (args : α → List PyData) (pre : α → Prop) (res : α → Option PyData) : Sp := fun vs H Q E => ∃ (x : α) (F : Hp), Same F H ∧ RpAll K F vs (args x) ∧ pre x ∧ (∀ v F' H' d, Nx F H F' H' → res x = some d → Rp K F' v d → Q v H') ∧ (res x = none → ∀ F' H', Nx F H F' H' → E (.ref C) none H')
/-- a def over the pool of draws -/
def SpP (K : PySem.W.Frag) {α : Type} (rows : α → List Int) (pos : α → Int) (args : α → List PyData) (pre : α → Prop) (res : α → PyData) (pos' : α → Int) : Sp := fun vs H Q _ => ∃ (x : α) (F : Hp) (p r cc : Addr) (vs' : List V), vs = .ref p :: vs' ∧ Same F H ∧
  F p = some (.lst [.ref r, .ref cc]) ∧ F r = some (.lst ((rows x).map V.int)) ∧ H cc = some (.lst [.int (pos x)]) ∧ F cc = none ∧ RpAll K F vs' (args x) ∧ pre x ∧
  ∀ v F' H', Same F F' → Same F' H' → (∀ a o, a ≠ cc → H a = some o → H' a = some o) → H' cc = some (.lst [.int (pos' x)]) → F' cc = none → (∀ a, H a ≠ none → F' a ≠ none → F a ≠ none) → Rp K F' v (res x) → Q v H'
/-- a def that stands behind the top -/
def Cal (P : Program) (w : World) (K : PySem.W.Frag) (mg : Str → Option Value) (base : Heap) (CX : CXT) (n : Str) (k : Nat) (ps : List Str) (sp : Sp) : Prop := ∃ f fd, FnOk P w K mg base CX k f fd ps sp ∧ mg n = some (.ref f) ∧ PySem.W.keepIn K (.ref f) = true ∧ Binds K fd ps []
def DefAt (K : PySem.W.Frag) (mg : Str → Option Value) (n : Str) (st : Stmt) : Prop := ∃ f fd, Fun K n n st f fd ∧ mg n = some (.ref f)
section
variable {X : Cx} {c : Ctx} {ds ds1 ds2 : Ds} {e : Expr} {es : List Expr} {pos p : Pos} {xs : List PyData} {n : Str} {k : Nat} {ps : List Str}
theorem xe_call {α : Type} {args : α → List PyData} {pre : α → Prop} {res : α → PyData} (C : Cal X.prog X.w X.K X.mg X.base CX0 n k ps (SpD X.K args pre res)) (hr : Room k X.A) (x : α) (ha : XA X c (e :: es) ds (args x) ds1) (hp : pre x) (hg : Gl X n := by rfl)
    (hdb : (n == ("__debug__" : Str)) = false := by decide) (he : starEach (e :: es) X.env = (false, eval e X.env) :: starEach es X.env := by rfl) (hpl : (backTo pos (starEach es X.env)).any (·.1) = false := by rfl) :
    XE X c (.Call (.Name n p) (e :: es) [] pos) ds (res x) ds1 := by
  obtain ⟨f, fd, G, hm, hk, hb⟩ := C
  refine xe_of (pe_call G hr hg hm hk hb .nil pass0 (pa_self _) hdb he hpl) fun F σ H E Q q => ha.run F σ H E _ fun vs F1 H1 s1 E1 d1 => ?_
  rw [List.append_nil]
  exact ⟨x, F1, E1.sub, d1, hp, fun v F' H' nx r => q v F' H' (s1.trans nx.f) (E1.nx nx) r⟩
theorem xe_call0 {α : Type} {args : α → List PyData} {pre : α → Prop} {res : α → PyData} (C : Cal X.prog X.w X.K X.mg X.base CX0 n k ps (SpD X.K args pre res)) (hr : Room k X.A) (x : α) (ha : args x = []) (hp : pre x) (hg : Gl X n := by rfl) (hdb : (n == ("__debug__" : Str)) = false := by decide) :
    XE X c (.Call (.Name n p) [] [] pos) ds (res x) ds := by
  obtain ⟨f, fd, G, hm, hk, hb⟩ := C
  refine xe_of (pe_call0 G hr hg hm hk hb .nil pass0 hdb) fun F σ H E Q q => ?_
  show SpD X.K args pre res ([] ++ []) H Q E0
  exact ⟨x, F, E.sub, by rw [ha]; exact .nil, hp, fun v F' H' nx r => q v F' H' nx.f (E.nx nx) r⟩
/-- the pool's slot -/
theorem EnvD.poolAt {K : PySem.W.Frag} {F H : Hp} {σ : L2.St} {i : Nat} {rows : List Int} {po : Int} (E : EnvD K c F ds σ H) (hd : ds[i]? = some (some (.pool rows po))) :
    ∃ p r cc, σ[i]? = some (some (.ref p)) ∧ F p = some (.lst [.ref r, .ref cc]) ∧ F r = some (.lst (rows.map V.int)) ∧ H cc = some (.lst [.int po]) ∧ F cc = none := by
  obtain ⟨A, a1, a2, a3⟩ := E.own
  obtain ⟨v, h1, p, r, cc, rfl, h2, h3, h4, h5, h6⟩ := a3 i _ hd
  exact ⟨p, r, cc, h1, h2, h3, h4, (a2 i cc h5).1⟩
/-- behind a draw -/
theorem EnvD.drawn {K : PySem.W.Frag} {F H F' H' : Hp} {σ : L2.St} {i : Nat} {rows : List Int} {po po' : Int} {p r cc : Addr} (E : EnvD K c F ds σ H) (hd : ds[i]? = some (some (.pool rows po))) (hσ : σ[i]? = some (some (.ref p))) (hp : F p = some (.lst [.ref r, .ref cc])) (s1 : Same F F') (s2 : Same F' H') (kp : ∀ a o, a ≠ cc → H a = some o → H' a = some o) (hc : H' cc = some (.lst [.int po'])) (fc : F' cc = none) (cl : ∀ a, H a ≠ none → F' a ≠ none → F a ≠ none) :
    EnvD K c F' (ds.set i (some (.pool rows po'))) σ H' := by
  obtain ⟨A, a1, a2, a3⟩ := E.own
  obtain ⟨v, h1, p', r', cc', rfl, h2, h3, h4, h5, h6⟩ := a3 i _ hd
  rw [hσ] at h1
  cases h1
  rw [hp] at h2
  cases h2
  obtain ⟨f1, f2, f3, f4⟩ := a2 i cc h5
  have nn : ∀ a, H a ≠ none → H' a ≠ none := fun a ha => by
    by_cases hb : a = cc
    · rw [hb, hc]
      intro z
      cases z
    · cases q : H a with
      | none => exact absurd q ha
      | some o =>
        rw [kp a o hb q]
        intro z
        cases z
  refine ⟨⟨s2, E.f0.trans s1, fun a o m e => ?_, fun a m => nn a (E.mt a m), fun a h0 hf => ?_, fun a o g => ?_, fun a g => ?_⟩, ⟨A, a1, fun j a ha => ?_, fun j s hj => ?_⟩, by rw [List.length_set]; exact E.len⟩
  · refine kp a o (fun z => ?_) (E.base a o m e)
    rcases f3 with f3 | f3
    · rw [z, f3] at e
      cases e
    · exact m (by rw [z]; exact f3)
  · refine E.cln a h0 (cl a (fun z => ?_) hf)
    by_cases hm : c.M a
    · exact E.mt a hm z
    · cases q : c.H0 a with
      | none => exact h0 q
      | some o =>
        rw [E.base a o hm q] at z
        cases z
  · refine kp a o (fun z => ?_) (E.gd a o g)
    rw [z, f4] at g
    cases g
  · cases q : F' a with
    | none => rfl
    | some o =>
      refine absurd (E.gf a g) (cl a (fun z => ?_) (by rw [q]; intro z; cases z))
      cases r : c.G a with
      | none => exact g r
      | some u =>
        rw [E.gd a u r] at z
        cases z
  · obtain ⟨g1, g2, g3⟩ := a2 j a ha
    refine ⟨?_, nn a g2, g3⟩
    cases q : F' a with
    | none => rfl
    | some o => exact absurd g1 (cl a g2 (by rw [q]; intro z; cases z))
  · by_cases hji : j = i
    · subst hji
      rw [List.getElem?_set_self (List.getElem?_eq_some_iff.mp hd).1] at hj
      cases hj
      exact ⟨_, hσ, p, r, cc, rfl, s1 _ _ hp, s1 _ _ h3, hc, h5, h6⟩
    · rw [List.getElem?_set_ne (Ne.symm hji)] at hj
      obtain ⟨w, g1, g2⟩ := a3 j s hj
      refine ⟨w, g1, ?_⟩
      have nl : ∀ a, A j a → a ≠ cc := fun a ha z => hji (a1 j i a ha (by rw [z]; exact h5))
      cases s with
      | d z => exact dp_same s1 g2
      | own zs =>
        obtain ⟨l', us, e, k1, k2, k3, k4⟩ := g2
        exact ⟨l', us, e, kp _ _ (nl l' k3) k1, dpAll_same s1 k2, k3, k4⟩
      | pool rows po =>
        obtain ⟨q, r, cc', e, k1, k2, k3, k4, k6⟩ := g2
        exact ⟨q, r, cc', e, s1 _ _ k1, s1 _ _ k2, kp _ _ (nl cc' k4) k3, k4, k6⟩
      | scr ns => exact g2
/-- f(pool, ..) -/
theorem xe_callP (i : Nat) {pn : Str} {npos : Pos} {α : Type} {rows : α → List Int} {po po' : α → Int} {args : α → List PyData} {pre : α → Prop} {res : α → PyData} {rows0 : List Int} {p0 : Int}
    (C : Cal X.prog X.w X.K X.mg X.base CX0 n k ps (SpP X.K rows po args pre res po')) (hr : Room k X.A) (x : α) (hd : ds[i]? = some (some (.pool rows0 p0))) (hN : X.N[i]? = some pn) (hv : Vis X.env.scope pn) (ha : XA X c es ds (args x) ds1) (hd1 : ds1[i]? = some (some (.pool (rows x) (po x)))) (hp : pre x) (hg : Gl X n := by rfl)
    (h1 : (pn == ("__debug__" : Str)) = false := by decide) (h2 : (pn == ("__classdict__" : Str)) = false := by decide)
    (hdb : (n == ("__debug__" : Str)) = false := by decide) (he : starEach (.Name pn npos :: es) X.env = (false, eval (.Name pn npos) X.env) :: starEach es X.env := by rfl) (hpl : (backTo pos (starEach es X.env)).any (·.1) = false := by rfl) :
    XE X c (.Call (.Name n p) (.Name pn npos :: es) [] pos) ds (res x) (ds1.set i (some (.pool (rows x) (po' x)))) := by
  obtain ⟨f, fd, G, hm, hk, hb⟩ := C
  refine xe_of (pe_call G hr hg hm hk hb .nil pass0 (pa_cons (pe_var hN hv h1 h2) (pa_self es) he) hdb he hpl) fun F σ H E Q q => ?_
  obtain ⟨q0, r0, c0, g1, _⟩ := E.poolAt hd
  refine ⟨_, g1, ha.run F σ H E _ fun vs F1 H1 s1 E1 d1 => ?_⟩
  obtain ⟨q1, r1, c1, k1, k2, k3, k4, k5⟩ := E1.poolAt hd1
  rw [g1] at k1
  cases k1
  rw [List.append_nil]
  refine ⟨x, F1, q0, r1, c1, vs, rfl, E1.sub, k2, k3, k4, k5, d1, hp, fun v F' H' m1 m2 m3 m4 m5 m6 m7 => ?_⟩
  exact q v F' H' (s1.trans m1) (E1.drawn hd1 g1 k2 m1 m2 m3 m4 m5 m6) m7
theorem xe_poolPos (i : Nat) {pn : Str} {npos p1 p2 p3 : Pos} {rows : List Int} {po : Int} {j1 j2 : Nat} (hd : ds[i]? = some (some (.pool rows po))) (hN : X.N[i]? = some pn) (hv : Vis X.env.scope pn) (h1 : (pn == ("__debug__" : Str)) = false := by decide) (h2 : (pn == ("__classdict__" : Str)) = false := by decide) :
    XE X c (.Subscript (.Subscript (.Name pn npos) (.Constant (.int 1) j1 p1) p2) (.Constant (.int 0) j2 p3) pos) ds (.int po) ds :=
  xe_of (pe_ix ix_list (pe_ix ix_list (pe_var hN hv h1 h2) pe_int (fun _ _ => rfl)) pe_int (fun _ _ => rfl)) fun F σ H E Q q => by
    obtain ⟨p, r, cc, g1, g2, g3, g4, g5⟩ := E.poolAt hd
    exact ⟨_, g1, p, _, 1, .ref cc, rfl, rfl, SqL.of (E.sub _ _ g2), rfl, cc, _, 0, .int po, rfl, rfl, SqL.of g4, rfl, q _ F H (Same.refl F) E (.int _)⟩
theorem xe_poolRows (i : Nat) {pn : Str} {npos p1 : Pos} {rows : List Int} {po : Int} {j1 : Nat} (hd : ds[i]? = some (some (.pool rows po))) (hN : X.N[i]? = some pn) (hv : Vis X.env.scope pn) (h1 : (pn == ("__debug__" : Str)) = false := by decide) (h2 : (pn == ("__classdict__" : Str)) = false := by decide) :
    XE X c (.Subscript (.Name pn npos) (.Constant (.int 0) j1 p1) pos) ds (.list (rows.map PyData.int)) ds :=
  xe_of (pe_ix ix_list (pe_var hN hv h1 h2) pe_int (fun _ _ => rfl)) fun F σ H E Q q => by
    obtain ⟨p, r, cc, g1, g2, g3, g4, g5⟩ := E.poolAt hd
    exact ⟨_, g1, p, _, 0, .ref r, rfl, rfl, SqL.of (E.sub _ _ g2), rfl, q _ F H (Same.refl F) E (.lst g3 (ints_dpAll _))⟩
/-- pool[1][0] = e -/
theorem xs_poolSet (i : Nat) {pn : Str} {npos p1 p2 p3 p4 : Pos} {rows : List Int} {po j : Int} {j1 j2 : Nat} {P : Post} (hd : ds1[i]? = some (some (.pool rows po))) (hN : X.N[i]? = some pn) (hv : Vis X.env.scope pn) (he : XE X c e ds (.int j) ds1) (h : P.nx (ds1.set i (some (.pool rows j)))) (h1 : (pn == ("__debug__" : Str)) = false := by decide) (h2 : (pn == ("__classdict__" : Str)) = false := by decide)
    (ha : ∀ v, assign (.Subscript (.Subscript (.Name pn npos) (.Constant (.int 1) j1 p1) p2) (.Constant (.int 0) j2 p3) p4) X.env v = (do
      let ov ← holding [v] (eval (.Subscript (.Name pn npos) (.Constant (.int 1) j1 p1) p2) X.env)
      let iv ← holding [v, ov] (eval (.Constant (.int 0) j2 p3) X.env)
      standAt p4
      holding [v, ov, iv] (setItem ov iv v)
      release [v, ov, iv] []) := by intro _; rfl)
    (hs : swapsWithSole [.Subscript (.Subscript (.Name pn npos) (.Constant (.int 1) j1 p1) p2) (.Constant (.int 0) j2 p3) p4] e pos.line X.env = pure false := by rfl) (hw : swappedStores [.Subscript (.Subscript (.Name pn npos) (.Constant (.int 1) j1 p1) p2) (.Constant (.int 0) j2 p3) p4] e X.env = pure none := by rfl) (h3 : (assignEach [.Subscript (.Subscript (.Name pn npos) (.Constant (.int 1) j1 p1) p2) (.Constant (.int 0) j2 p3) p4] X.env).map (·.2) = [assign (.Subscript (.Subscript (.Name pn npos) (.Constant (.int 1) j1 p1) p2) (.Constant (.int 0) j2 p3) p4) X.env] := by rfl) :
    XS X c (.Assign [.Subscript (.Subscript (.Name pn npos) (.Constant (.int 1) j1 p1) p2) (.Constant (.int 0) j2 p3) p4] e pos) ds P :=
  xs_of (ps_asg (pe_self e) (pg_sub (pe_ix ix_list (pe_var hN hv h1 h2) pe_int (fun _ _ => rfl)) pe_int set_list ha) hs hw h3) fun F σ H D E m => he.run F σ H E _ fun v F1 H1 s1 E1 d1 => by
    obtain ⟨p, r, cc, g1, g2, g3, g4, g5⟩ := E1.poolAt hd
    have hpc : p ≠ cc := fun z => by rw [z, g5] at g2; cases g2
    have hrc : r ≠ cc := fun z => by rw [z, g5] at g3; cases g3
    refine ⟨_, g1, p, _, 1, .ref cc, rfl, rfl, SqL.of (E1.sub _ _ g2), rfl, cc, _, 0, 0, rfl, rfl, g4, rfl, m.nx F1 σ _ _ s1 (E1.drawn (po' := j) hd g1 g2 (Same.refl _) (fun a o e => ?_) (fun a o hne e => ?_) ?_ g5 (fun a _ hf => hf)) h⟩
    · rw [upd_ne (ne_of_none e g5)]
      exact E1.sub a o e
    · rw [upd_ne hne]
      exact e
    · rw [upd_same, dp_int d1]
      rfl
end
/-! ### a def keeps its promise -/
def startD (N : List Str) (xs : List PyData) : Ds := xs.map (fun x => some (.d x)) ++ List.replicate (N.length - xs.length) none
theorem start_at {N : List Str} {vs : List V} {i : Nat} {v : V} (h : vs[i]? = some v) : (L2.start N vs)[i]? = some (some v) := by
  unfold L2.start
  have hl : i < vs.length := (List.getElem?_eq_some_iff.mp h).1
  rw [List.getElem?_append_left (by rw [List.length_map]; exact hl), List.getElem?_map, h]
  rfl
theorem start_len {N : List Str} {vs : List V} (h : vs.length ≤ N.length) : (L2.start N vs).length = N.length := by
  unfold L2.start
  rw [List.length_append, List.length_map, List.length_replicate]
  omega
theorem startD_len {N : List Str} {xs : List PyData} (h : xs.length ≤ N.length) : (startD N xs).length = N.length := by
  unfold startD
  rw [List.length_append, List.length_map, List.length_replicate]
  omega
theorem startD_at {N : List Str} {xs : List PyData} {i : Nat} {s : Sl} (h : (startD N xs)[i]? = some (some s)) : ∃ x, xs[i]? = some x ∧ s = .d x := by
  unfold startD at h
  by_cases hl : i < xs.length
  · rw [List.getElem?_append_left (by rw [List.length_map]; exact hl), List.getElem?_map, List.getElem?_eq_getElem hl] at h
    exact ⟨xs[i], List.getElem?_eq_getElem hl, (Option.some.inj (Option.some.inj h)).symm⟩
  · rw [List.getElem?_append_right (by rw [List.length_map]; omega), List.getElem?_replicate] at h
    split at h <;> cases h
def ctx0 (F H : Hp) : Ctx := ⟨H, F, fun _ => False, fun _ => none⟩
theorem env_start {K : PySem.W.Frag} {F H : Hp} {N : List Str} {vs : List V} {xs : List PyData} (s : Same F H) (r : RpAll K F vs xs) (hl : xs.length ≤ N.length) : EnvD K (ctx0 F H) F (startD N xs) (L2.start N vs) H := by
  have hv := dpAll_len r
  refine ⟨⟨s, Same.refl F, fun _ _ _ e => e, fun _ m => m.elim, fun _ _ h => h, fun _ _ e => (nomatch e), fun _ h => absurd rfl h⟩, ⟨fun _ _ => False, fun _ _ _ h => h.elim, fun _ _ h => h.elim, fun i s h => ?_⟩, by rw [start_len (by omega), startD_len hl]⟩
  obtain ⟨x, h1, rfl⟩ := startD_at h
  obtain ⟨v, g1, g2⟩ := dpAll_get r h1
  exact ⟨v, start_at g1, g2⟩
theorem env_end {K : PySem.W.Frag} {F H F' H' : Hp} {ds : Ds} {σ : L2.St} (E : EnvD K (ctx0 F H) F' ds σ H') : Nx F H F' H' :=
  ⟨E.f0, fun a o e => E.base a o (fun m => m) e, E.sub, fun a h hf => E.cln a h hf⟩
theorem env_startP {K : PySem.W.Frag} {F H : Hp} {N : List Str} {vs : List V} {xs : List PyData} {p r cc : Addr} {rows : List Int} {po : Int} (s : Same F H) (rr : RpAll K F vs xs) (hl : xs.length + 1 ≤ N.length) (h1 : F p = some (.lst [.ref r, .ref cc])) (h2 : F r = some (.lst (rows.map V.int))) (h3 : H cc = some (.lst [.int po])) (h4 : F cc = none) :
    EnvD K ⟨H, F, fun a => a = cc, fun _ => none⟩ F (some (.pool rows po) :: startD (N.drop 1) xs) (L2.start N (.ref p :: vs)) H := by
  have hv := dpAll_len rr
  refine ⟨⟨s, Same.refl F, fun _ _ _ e => e, fun a m => (by rw [show a = cc from m, h3]; intro z; cases z), fun _ _ h => h, fun _ _ e => (nomatch e), fun _ h => absurd rfl h⟩, ⟨fun i a => i = 0 ∧ a = cc, fun i j a h h' => h.1.trans h'.1.symm, fun i a h => ?_, fun i s h => ?_⟩, ?_⟩
  · rw [h.2]
    exact ⟨h4, (by rw [h3]; intro z; cases z), .inr rfl, rfl⟩
  · cases i with
    | zero =>
      cases h
      exact ⟨.ref p, start_at rfl, p, r, cc, rfl, h1, h2, h3, ⟨rfl, rfl⟩, .inl rfl⟩
    | succ i =>
      obtain ⟨x, g1, rfl⟩ := startD_at (show (startD (N.drop 1) xs)[i]? = some (some s) from h)
      obtain ⟨v, k1, k2⟩ := dpAll_get rr g1
      exact ⟨v, start_at (by rw [List.getElem?_cons_succ]; exact k1), k2⟩
  · rw [start_len (by rw [List.length_cons]; omega), List.length_cons, startD_len (by rw [List.length_drop]; omega), List.length_drop]
    omega
section
variable {P : Program} {w : World} {K : PySem.W.Frag} {mg : Str → Option Value} {base : Heap} {n : Str} {st : Stmt} {N ps : List Str}
/-- the context of a def's body -/
abbrev bodyCx (CX : CXT) (P : Program) (w : World) (K : PySem.W.Frag) (mg : Str → Option Value) (base : Heap) (N : List Str) (n : Str) (st : Stmt) (f : Addr) (cdv : Value) (A : Around) (outer : List Env) (s : Shared) (H : Hp) (E : XK) : Cx := cxOf CX P w K mg base N n (defScope st) f cdv A outer s H E
theorem cal_mk (k : Nat) (D : DefAt K mg n st) (S : FnScope N ps (defScope st)) {α : Type} {args : α → List PyData} {pre : α → Prop} {res : α → PyData}
    (hb : ∀ (kV doc pm : Value) (an : Option Addr) (cdv ct : Value) (us : List Value), us.length = ps.length → bindArgs (PySem.W.fnOf n n (defArgs st) (defBody st) (defScope st) .none kV doc pm an cdv ct) ⟨us, []⟩ = pure (ps.zip us)) (hl : ∀ x, (args x).length = ps.length) (hlN : ps.length ≤ N.length)
    (body : ∀ (f : Addr) (cdv : Value) (A : Around) (outer : List Env) (s : Shared) (H : Hp) (E : XK) (c : Ctx) (x : α), Room k (A.deeper (envOfC n (defScope st) s.heap.objs.size f cdv)) → pre x →
      XB (bodyCx CX0 P w K mg base N n st f cdv A outer s H E).nox c (defBody st) (startD N (args x)) { nx := fun _ => res x = .none, rt := fun d _ => d = res x }) : Cal P w K mg base CX0 n (k + 1) ps (SpD K args pre res) := by
  obtain ⟨f, fd, F, hm⟩ := D
  refine ⟨f, fd, F.ok S (fun vs H Q E h => ?_) (fun cdv A outer s H vs Q E hr h => ?_), hm, F.kp, F.binds hb⟩
  · obtain ⟨x, G, _, h2, _⟩ := h
    rw [dpAll_len h2, hl]
  · obtain ⟨x, G, h1, h2, h3, q⟩ := h
    refine ⟨_, pss_self _, (body f cdv A outer s H E (ctx0 G H) x hr h3).run G _ H _ (env_start h1 h2 (by rw [hl]; exact hlN)) ⟨fun F' σ H' ds s' E' e => ?_, fun F' σ H' ds v d s' E' r e => ?_, fun _ _ _ _ _ _ h => h.elim, fun _ _ _ _ _ _ h => h.elim⟩⟩
    · exact q .non F' H' (env_end E') (by rw [e]; exact .non)
    · subst e
      exact q v F' H' (env_end E') r
theorem cal_mkP (k : Nat) (D : DefAt K mg n st) (S : FnScope N ps (defScope st)) {α : Type} {rows : α → List Int} {po po' : α → Int} {args : α → List PyData} {pre : α → Prop} {res : α → PyData}
    (hb : ∀ (kV doc pm : Value) (an : Option Addr) (cdv ct : Value) (us : List Value), us.length = ps.length → bindArgs (PySem.W.fnOf n n (defArgs st) (defBody st) (defScope st) .none kV doc pm an cdv ct) ⟨us, []⟩ = pure (ps.zip us)) (hl : ∀ x, (args x).length + 1 = ps.length) (hlN : ps.length ≤ N.length)
    (body : ∀ (f : Addr) (cdv : Value) (A : Around) (outer : List Env) (s : Shared) (H : Hp) (E : XK) (c : Ctx) (x : α), Room k (A.deeper (envOfC n (defScope st) s.heap.objs.size f cdv)) → pre x →
      XB (bodyCx CX0 P w K mg base N n st f cdv A outer s H E).nox c (defBody st) (some (.pool (rows x) (po x)) :: startD (N.drop 1) (args x)) { nx := fun _ => False, rt := fun d ds => d = res x ∧ ds[0]? = some (some (.pool (rows x) (po' x))) }) : Cal P w K mg base CX0 n (k + 1) ps (SpP K rows po args pre res po') := by
  obtain ⟨f, fd, F, hm⟩ := D
  refine ⟨f, fd, F.ok S (fun vs H Q E h => ?_) (fun cdv A outer s H vs Q E hr h => ?_), hm, F.kp, F.binds hb⟩
  · obtain ⟨x, G, p, r, cc, vs', rfl, _, _, _, _, _, h2, _⟩ := h
    rw [List.length_cons, dpAll_len h2, hl]
  · obtain ⟨x, G, p, r, cc, vs', rfl, h1, g1, g2, g3, g4, h2, h3, q⟩ := h
    refine ⟨_, pss_self _, (body f cdv A outer s H E ⟨H, G, fun a => a = cc, fun _ => none⟩ x hr h3).run G _ H _ (env_startP h1 h2 (by rw [hl]; exact hlN) g1 g2 g3 g4) ⟨fun F' σ H' ds s' E' e => e.elim, fun F' σ H' ds v d s' E' r' e => ?_, fun _ _ _ _ _ _ h => h.elim, fun _ _ _ _ _ _ h => h.elim⟩⟩
    obtain ⟨rfl, e2⟩ := e
    obtain ⟨A', a1, a2, a3⟩ := E'.own
    obtain ⟨v', k1, p', r'', cc', _, k2, k3, k4, k5, k6⟩ := a3 0 _ e2
    obtain ⟨m1, m2, m3, m4⟩ := a2 0 cc' k5
    have ec : cc' = cc := by
      rcases k6 with z | z
      · exact z
      · exact absurd rfl (z cc)
    subst ec
    exact q v F' H' E'.f0 E'.sub (fun a o hne e => E'.base a o hne e) k4 m1 E'.cln r'
end
end Dt
set_option maxRecDepth 100000
namespace Dt
open PySem PySem.Spec PyProof.Rows L2
section
variable {X : Cx} {c : Ctx} {ds ds1 ds2 ds3 ds' : Ds} {a b e e1 e2 e3 : Expr} {es : List Expr} {pos p q : Pos} {x y z d : PyData} {xs ys : List PyData} {n : Str}
/-- a name, its place first -/
theorem xe_nm (i : Nat) (hN : X.N[i]? = some n) (hv : Vis X.env.scope n) (hd : ds[i]? = some (some (.d x))) (h1 : (n == ("__debug__" : Str)) = false := by decide) (h2 : (n == ("__classdict__" : Str)) = false := by decide) : XE X c (.Name n pos) ds x ds := xe_var i hd hN hv h1 h2
structure XNm (X : Cx) (c : Ctx) (n : Str) (pos : Pos) (ds : Ds) (x : PyData) : Prop where
  run : XE X c (.Name n pos) ds x ds
theorem xe_nmX (h : XNm X c n pos ds x) : XE X c (.Name n pos) ds x ds := h.run
theorem xnm (i : Nat) (hN : X.N[i]? = some n) (hv : Vis X.env.scope n) (hd : ds[i]? = some (some (.d x))) (h1 : (n == ("__debug__" : Str)) = false) (h2 : (n == ("__classdict__" : Str)) = false) : XNm X c n pos ds x := ⟨xe_var i hd hN hv h1 h2⟩
theorem ixd_t0 : IxD X (.tuple (x :: xs)) (.int 0) x := ixd_tup (atI_nat (j := 0) rfl)
theorem ixd_t1 : IxD X (.tuple (x :: y :: xs)) (.int 1) y := ixd_tup (atI_nat (j := 1) rfl)
theorem ixd_t2 : IxD X (.tuple (x :: y :: z :: xs)) (.int 2) z := ixd_tup (atI_nat (j := 2) rfl)
theorem ixd_l0 : IxD X (.list (x :: xs)) (.int 0) x := ixd_lst (atI_nat (j := 0) rfl)
theorem ixd_l1 : IxD X (.list (x :: y :: xs)) (.int 1) y := ixd_lst (atI_nat (j := 1) rfl)
/-- a chain of comparisons that changes nothing -/
theorem xe_chain0 {op op' : CmpOp} {k m : Bool} (ha : XE X c a ds x ds) (hb : XE X c b ds y ds) (ho : OpD X (compareOp op) x y (.bool k)) (hd : XE X c e ds z ds) (ho' : OpD X (compareOp op') y z (.bool m))
    (hm : lastMarks [op, op'] [b, e] = false := by with_unfolding_all rfl) : XE X c (.Compare a [op, op'] [b, e] pos) ds (.bool (k && m)) ds := by
  cases k with
  | true => exact xe_chain (w := .none) ha hb ho (fun _ => hd) (fun _ => ho') (fun q => nomatch q) hm
  | false => exact xe_chain (z := z) (w := .none) ha hb ho (fun q => nomatch q) (fun q => nomatch q) (fun _ => ⟨rfl, rfl⟩) hm
theorem xw_and0 {k m : Bool} (h : XT X c a ds k ds) (hr : XW X c (.BoolOp .And (b :: es) pos) ds m ds) : XW X c (.BoolOp .And (a :: b :: es) pos) ds (k && m) ds := xw_and h (fun _ => hr) (fun _ => rfl)
theorem xw_or0 {k m : Bool} (h : XT X c a ds k ds) (hr : XW X c (.BoolOp .Or (b :: es) pos) ds m ds) : XW X c (.BoolOp .Or (a :: b :: es) pos) ds (k || m) ds := xw_or h (fun _ => hr) (fun _ => rfl)
theorem xe_and0 {k m : Bool} (h : XE X c a ds (.bool k) ds) (hr : XE X c (.BoolOp .And (b :: es) pos) ds (.bool m) ds) : XE X c (.BoolOp .And (a :: b :: es) pos) ds (.bool (k && m)) ds := xe_and h (fun _ => hr) (fun _ => rfl)
theorem xe_or0 {k m : Bool} (h : XE X c a ds (.bool k) ds) (hr : XE X c (.BoolOp .Or (b :: es) pos) ds (.bool m) ds) : XE X c (.BoolOp .Or (a :: b :: es) pos) ds (.bool (k || m)) ds := xe_or h (fun _ => hr) (fun _ => rfl)
theorem xe_to (h : XE X c e ds x ds1) (e1 : x = y) : XE X c e ds y ds1 := e1 ▸ h
theorem xt_to {k m : Bool} (h : XT X c e ds k ds1) (e1 : k = m) : XT X c e ds m ds1 := e1 ▸ h
theorem xa_one (h : XE X c e ds x ds1) (hs : starEach [e] X.env = (false, eval e X.env) :: starEach [] X.env := by rfl) : XA X c [e] ds [x] ds1 := xa_cons h xa_nil hs
theorem cd_len' : CallD X (.builtin "len") [.list xs] (.int (xs.length : Nat)) := cd_len
theorem xe_bi {id : String} {n : Str} (hg : Gl X n) (hm : X.mg n = none) (hv : bootBuiltins n = some (.builtin id)) (hn : (n ≠ "__name__") ∧ (n == ("__debug__" : Str)) = false) (he : starEach (e :: es) X.env = (false, eval e X.env) :: starEach es X.env) (hpl : (backTo pos (starEach es X.env)).any (·.1) = false) (ha : XA X c (e :: es) ds xs ds1) (hc : CallD X (.builtin id) xs z) :
    XE X c (.Call (.Name n p) (e :: es) [] pos) ds z ds1 := xe_callB hc hg hm hv ha hn.1 hn.2 he hpl
theorem xe_ty {T : String} {n : Str} (hg : Gl X n) (hm : X.mg n = none) (hv : bootBuiltins n = some (.type T)) (hn : (n ≠ "__name__") ∧ (n == ("__debug__" : Str)) = false) (he : starEach (e :: es) X.env = (false, eval e X.env) :: starEach es X.env) (hpl : (backTo pos (starEach es X.env)).any (·.1) = false) (ha : XA X c (e :: es) ds xs ds1) (hc : CallD X (.type T) xs z) :
    XE X c (.Call (.Name n p) (e :: es) [] pos) ds z ds1 := xe_callTy hc hg hm hv ha hn.1 hn.2 he hpl
theorem hn_min : (("min" : Str) ≠ "__name__") ∧ (("min" : Str) == ("__debug__" : Str)) = false := by decide
theorem hn_max : (("max" : Str) ≠ "__name__") ∧ (("max" : Str) == ("__debug__" : Str)) = false := by decide
theorem hn_len : (("len" : Str) ≠ "__name__") ∧ (("len" : Str) == ("__debug__" : Str)) = false := by decide
theorem hn_int : (("int" : Str) ≠ "__name__") ∧ (("int" : Str) == ("__debug__" : Str)) = false := by decide
theorem hn_sum : (("sum" : Str) ≠ "__name__") ∧ (("sum" : Str) == ("__debug__" : Str)) = false := by decide
theorem hn_abs : (("abs" : Str) ≠ "__name__") ∧ (("abs" : Str) == ("__debug__" : Str)) = false := by decide
theorem hn_list : (("list" : Str) ≠ "__name__") ∧ (("list" : Str) == ("__debug__" : Str)) = false := by decide
theorem bt_min : bootBuiltins "min" = some (.builtin "min") := by decide +kernel
theorem bt_max : bootBuiltins "max" = some (.builtin "max") := by decide +kernel
theorem bt_len : bootBuiltins "len" = some (.builtin "len") := by decide +kernel
theorem bt_sum : bootBuiltins "sum" = some (.builtin "sum") := by decide +kernel
theorem bt_abs : bootBuiltins "abs" = some (.builtin "abs") := by decide +kernel
theorem bt_int : bootBuiltins "int" = some (.type "int") := by decide +kernel
theorem bt_list : bootBuiltins "list" = some (.type "list") := by decide +kernel
end
end Dt
set_option maxRecDepth 100000
namespace Dt
open PySem PySem.Spec PyProof.Rows L2
/-! ### sorted(set(pairs)), pairs of any whole numbers -/
/-- the two numbers of a pair, read off a heap -/
def prOf (h : Heap) (v : Value) : Int × Int := ((TS.intsOf h v).getD 0 0, (TS.intsOf h v).getD 1 0)
theorem pairs_of_tups {h : Heap} {b : Addr} {i j : Int} (x : TS.TupInts h (.ref b) [i, j]) : Srt.IsPair h (.ref b) i j ∧ prOf h (.ref b) = (i, j) := by
  have hp : prOf h (.ref b) = (i, j) := by
    unfold prOf
    rw [x.ints]
    rfl
  refine ⟨?_, hp⟩
  obtain ⟨a, xs, e, ⟨o, ho, hc, n, hd⟩, hi⟩ := x
  cases e
  obtain ⟨l⟩ := xs
  have hi' : IntsAre l [i, j] := hi
  cases hi' with
  | cons _ t1 h2 =>
    cases h2 with
    | cons _ t2 h4 =>
      cases h4
      exact ⟨_, o, _, _, n, rfl, ho, hc, hd⟩
section
variable {P : Program} {w : World} {A : Around} {E : Value → Shared → Prop} {s : Shared}
/-- the places of a set's rows, told apart by their keys -/
theorem rows_named {L : List (Addr × List Int)} : ∀ vs : List Value, (∀ v ∈ vs, ∃ q ∈ L, v = Value.ref q.1) → ∃ M : List (Addr × List Int), vs = M.map (fun q => Value.ref q.1) ∧ ∀ q ∈ M, q ∈ L
  | [], _ => ⟨[], rfl, fun q h => nomatch h⟩
  | v :: vs, hv => by
    obtain ⟨q, hq, e⟩ := hv v (.head _)
    obtain ⟨M, e1, hM⟩ := rows_named vs fun u hu => hv u (.tail _ hu)
    refine ⟨q :: M, by rw [List.map_cons, e, e1], fun r hr => ?_⟩
    rcases List.mem_cons.mp hr with rfl | z
    · exact hq
    · exact hM r z
theorem sorted_setP {a : Addr} {L : List (Addr × List Int)} {es : Array (Int × Value)} {ep : Nat} {t : SetTable} {Q : Value → Shared → Prop} (R : SetTR P w s.heap a L es ep t) (hh : A.handled = none) (h2 : ∀ p ∈ L, ∃ i j : Int, p.2 = [i, j])
    (hQ : ∀ s' p (out : Array Value) (c : Nat) (M : List (Addr × List Int)), (∀ b o, s.heap.get? b = some o → s'.heap.get? b = some o) → s'.gens = s.gens → s'.os = s.os → s.heap.objs.size ≤ p →
      s'.heap.get? p = some (seqObj "list" out c) → out.toList = M.map (fun q => Value.ref q.1) → M.Perm L → M.Pairwise (fun q r => SrtO.lexB (r.2.getD 0 0, r.2.getD 1 0) (q.2.getD 0 0, q.2.getD 1 0) = false) → Q (.ref p) s') :
    wpAny (model P w) A (call (.builtin "sorted") [.ref a]) Q E s := by
  obtain ⟨o, ho, hex, hd⟩ := R.ob
  refine Calls.call_function_entry kind_sorted plain_sorted entry_sorted (args_sorted1 _) ?_
  unfold Builtin.«sorted»
  refine wpAny_bind (m := checkCount "sorted" 1 1 _) (wpAny_pure ?_)
  have zs := R.size
  have zf := R.few
  refine wpAny_bind (collect_set (A := A.in1) hh ⟨o, ho, hex.1, hd⟩ R.fits (by unfold scanBound; omega) R.tab.ris R.led fun s1 vs k1 hz g1 o1 pm => ?_)
  rw [R.rows] at pm
  have er : (rowsOf P w L).map (·.2) = L.map fun q => Value.ref q.1 := by
    unfold rowsOf
    rw [List.map_map] <;> rfl
  rw [er] at pm
  have inL : ∀ v ∈ vs, ∃ q ∈ L, v = Value.ref q.1 := fun v hv => by
    obtain ⟨q, hq, e⟩ := List.mem_map.mp (pm.mem_iff.mp hv)
    exact ⟨q, hq, e.symm⟩
  have uq : ∀ q ∈ L, ∀ r ∈ L, q.1 = r.1 → q = r := fun q hq r hr e => Prod.ext e ((by have u := R.tup q hq; rw [e] at u; exact u : IsT P w s.heap q.2 r.1).inj (R.tup r hr))
  have nL : L.Nodup := nodup_of_map R.nd
  have toP : ∀ M : List (Addr × List Int), (∀ q ∈ M, q ∈ L) → (M.map (fun q => Value.ref q.1)).Perm (L.map fun q => Value.ref q.1) → M.Perm L := by
    intro M hs pm1
    have nR : (L.map fun q => Value.ref q.1).Nodup := List.pairwise_map.mpr (nL.imp_of_mem fun {q r} hq hr hne e => hne (uq q hq r hr (Value.ref.inj e)))
    have nM : M.Nodup := nodup_of_map (pm1.nodup_iff.mpr nR)
    refine (List.perm_ext_iff_of_nodup nM nL).mpr fun q => ⟨hs q, fun hq => ?_⟩
    obtain ⟨r, hr, e⟩ := List.mem_map.mp (pm1.mem_iff.mpr (List.mem_map.mpr ⟨q, hq, rfl⟩))
    rw [← uq r (hs r hr) q hq (Value.ref.inj e)]
    exact hr
  have vl : vs.length < 64 := by
    rw [pm.length_eq, List.length_map]
    exact zf
  have vz : vs.length ≤ sizeLine := by
    rw [sizeLine_eq]
    omega
  refine wpAny_bind (wpAny_newList ?_ vz)
  have oL : (s1.heap.push (seqObj "list" vs.toArray 0)).get? s1.heap.objs.size = some (seqObj "list" vs.toArray 0) := Heap.get?_push_size _ rfl
  generalize hg : s1.heap.push (seqObj "list" vs.toArray 0) = hp at oL ⊢
  have up : ∀ b u, s1.heap.get? b = some u → hp.get? b = some u := fun b u e => by
    rw [← hg]
    exact Heap.get?_push_of_some _ e
  have tk : ∀ q ∈ L, TS.TupInts hp (.ref q.1) q.2 := fun q hq => tupInts_of (P := P) (w := w) (isT_keep (R.tup q hq) fun b u e => up b u (k1 b u e))
  have pk : ∀ q ∈ L, Srt.IsPair hp (.ref q.1) (prOf hp (.ref q.1)).1 (prOf hp (.ref q.1)).2 ∧ prOf hp (.ref q.1) = (q.2.getD 0 0, q.2.getD 1 0) := fun q hq => by
    obtain ⟨i, j, e⟩ := h2 q hq
    have x := tk q hq
    rw [e] at x ⊢
    obtain ⟨x1, x2⟩ := pairs_of_tups x
    rw [x2]
    exact ⟨x1, rfl⟩
  have ps : ∀ v ∈ vs, Srt.IsPair hp v (prOf hp v).1 (prOf hp v).2 := fun v hv => by
    obtain ⟨q, hq, e⟩ := inL v hv
    rw [e]
    exact (pk q hq).1
  have srt : ∀ Q' : Value → Shared → Prop, (∀ out : List Value, SrtO.Srtd (fun v u => SrtO.lexB (prOf hp v) (prOf hp u)) out → SrtO.Stb (fun v u => SrtO.lexB (prOf hp v) (prOf hp u)) out vs → Q' .none { s1 with heap := sortedHeap hp s1.heap.objs.size vs out.toArray }) →
      wpAny (model P w) A.in1 (call (.builtin "list.sort") [.ref s1.heap.objs.size]) Q' E { s1 with heap := hp } := fun Q' hQ' =>
    wpAny_call_entry slot_list_sort ⟨_, oL, rfl⟩ entry_list_sort (SrtO.list_sort_ord (SrtO.swo_lex (prOf hp)) oL vz (fun z2 => SrtO.pairs_sortableO (s := { s1 with heap := hp }) (by omega) ps fun o e c => by
      rw [oL] at e
      cases e
      exact absurd (Value.type.inj c) (by decide)) fun out hs hb => ⟨_, rfl, hQ' out hs hb⟩) (args_list_sort _)
  refine wpAny_bind (wpAny_holding (srt _ fun out a1 a2 => ?_))
  obtain ⟨c, hc⟩ := sortedHeap_at (vs := vs) (out := out.toArray) oL
  obtain ⟨M, e', hM⟩ := rows_named (L := L) out fun v hv => inL v (a2.perm.mem_iff.mp hv)
  have pL : M.Perm L := toP M hM (by rw [← e']; exact a2.perm.trans pm)
  refine wpAny_pure ⟨_, rfl, hQ _ s1.heap.objs.size out.toArray c M (fun b u e => ?_) g1 o1 hz hc e' pL ?_⟩
  · have q := k1 b u e
    have lt := Heap.lt_size q
    show (sortedHeap hp s1.heap.objs.size vs out.toArray).get? b = some u
    rw [sortedHeap_old (Nat.ne_of_lt lt) (by rw [← hg, size_push']; exact Nat.lt_succ_of_lt lt)]
    exact up b u q
  · rw [e'] at a1
    refine (List.pairwise_map.mp a1).imp_of_mem fun {q r} hq hr hle => ?_
    have hle' : SrtO.lexB (prOf hp (.ref r.1)) (prOf hp (.ref q.1)) = false := hle
    rw [(pk q (hM q hq)).2, (pk r (hM r hr)).2] at hle'
    exact hle'
end
/-! ### the order, the list without repetitions -/
def lexlt (p q : Int × Int) : Prop := p.1 < q.1 ∨ (p.1 = q.1 ∧ p.2 < q.2)
instance (p q : Int × Int) : Decidable (lexlt p q) := inferInstanceAs (Decidable (_ ∨ _))
theorem lexlt_irrefl {p : Int × Int} : ¬ lexlt p p := fun h => by
  unfold lexlt at h
  omega
theorem lexlt_trans {p q r : Int × Int} (h : lexlt p q) (h' : lexlt q r) : lexlt p r := by
  unfold lexlt at *
  omega
theorem lexlt_tri (p q : Int × Int) : lexlt p q ∨ p = q ∨ lexlt q p := by
  obtain ⟨a, b⟩ := p
  obtain ⟨c, d⟩ := q
  unfold lexlt
  rcases Int.lt_trichotomy a c with h | h | h
  · exact .inl (.inl h)
  · rcases Int.lt_trichotomy b d with k | k | k
    · exact .inl (.inr ⟨h, k⟩)
    · exact .inr (.inl (by rw [h, k]))
    · exact .inr (.inr (.inr ⟨h.symm, k⟩))
  · exact .inr (.inr (.inl h))
def lins (p : Int × Int) : List (Int × Int) → List (Int × Int)
  | [] => [p]
  | q :: r => if lexlt p q then p :: q :: r else if p = q then q :: r else q :: lins p r
def usrt (ks : List (Int × Int)) : List (Int × Int) := ks.foldr lins []
theorem mem_lins {p x : Int × Int} : ∀ {l : List (Int × Int)}, x ∈ lins p l ↔ x = p ∨ x ∈ l
  | [] => by simp [lins]
  | q :: r => by
    unfold lins
    split
    · simp
    · split
      · rename_i h
        subst h
        simp
      · rw [List.mem_cons, mem_lins, List.mem_cons]
        constructor
        · rintro (h | h | h)
          · exact .inr (.inl h)
          · exact .inl h
          · exact .inr (.inr h)
        · rintro (h | h | h)
          · exact .inr (.inl h)
          · exact .inl h
          · exact .inr (.inr h)
theorem lins_sorted {p : Int × Int} : ∀ {l : List (Int × Int)}, l.Pairwise lexlt → (lins p l).Pairwise lexlt
  | [], _ => List.pairwise_singleton _ _
  | q :: r, h => by
    have hq := List.pairwise_cons.mp h
    unfold lins
    split
    · rename_i h1
      refine List.pairwise_cons.mpr ⟨fun x hx => ?_, h⟩
      rcases List.mem_cons.mp hx with rfl | hx
      · exact h1
      · exact lexlt_trans h1 (hq.1 x hx)
    · split
      · exact h
      · rename_i h1 h2
        refine List.pairwise_cons.mpr ⟨fun x hx => ?_, lins_sorted hq.2⟩
        rcases mem_lins.mp hx with rfl | hx
        · exact ((lexlt_tri x q).resolve_left h1).resolve_left h2
        · exact hq.1 x hx
theorem usrt_sorted : ∀ ks : List (Int × Int), (usrt ks).Pairwise lexlt
  | [] => List.Pairwise.nil
  | k :: ks => lins_sorted (usrt_sorted ks)
theorem mem_usrt {x : Int × Int} : ∀ {ks : List (Int × Int)}, x ∈ usrt ks ↔ x ∈ ks
  | [] => Iff.rfl
  | k :: ks => by
    show x ∈ lins k (usrt ks) ↔ _
    rw [mem_lins, mem_usrt, List.mem_cons]
theorem sorted_uniq : ∀ {l m : List (Int × Int)}, l.Pairwise lexlt → m.Pairwise lexlt → (∀ x, x ∈ l ↔ x ∈ m) → l = m
  | [], [], _, _, _ => rfl
  | [], y :: m, _, _, h => absurd ((h y).mpr (.head _)) (by simp)
  | x :: l, [], _, _, h => absurd ((h x).mp (.head _)) (by simp)
  | x :: l, y :: m, h1, h2, h => by
    have a := List.pairwise_cons.mp h1
    have b := List.pairwise_cons.mp h2
    have e : x = y := by
      rcases List.mem_cons.mp ((h x).mp (.head _)) with e | e
      · exact e
      · rcases List.mem_cons.mp ((h y).mpr (.head _)) with e' | e'
        · exact e'.symm
        · exact absurd (lexlt_trans (a.1 y e') (b.1 x e)) lexlt_irrefl
    subst e
    refine congrArg _ (sorted_uniq a.2 b.2 fun z => ?_)
    constructor
    · intro hz
      rcases List.mem_cons.mp ((h z).mp (.tail _ hz)) with e | e
      · exact absurd (by rw [e] at hz; exact a.1 x hz) lexlt_irrefl
      · exact e
    · intro hz
      rcases List.mem_cons.mp ((h z).mpr (.tail _ hz)) with e | e
      · exact absurd (by rw [e] at hz; exact b.1 x hz) lexlt_irrefl
      · exact e
/-! ### the rule -/
abbrev pr2 (k : Int × Int) : PyData := .tuple [.int k.1, .int k.2]
def rSortedSP (K : PySem.W.Frag) (P : Program) (w : World) : List V → Hp → VK → Prop := fun vs H Q => ∃ (a : Addr) (L : List (Addr × List Int)), vs = [V.ref a] ∧ H a = some (SetTO P w a L) ∧ (∀ p ∈ L, SqT K H p.1 (p.2.map V.int)) ∧ (∀ p ∈ L, ∃ i j : Int, p.2 = [i, j]) ∧
  ∀ (M : List (Addr × List Int)) (p : Addr), M.Perm L → (M.map (·.2)).Nodup → M.Pairwise (fun q r => SrtO.lexB (r.2.getD 0 0, r.2.getD 1 0) (q.2.getD 0 0, q.2.getD 1 0) = false) → H p = none → Q (.ref p) (upd H p (.lst (M.map fun q => V.ref q.1)))
theorem cr_sortedSP {X : Cx} (hc : X.calm = true) : CallR X (.builtin "sorted") (rSortedSP X.K X.prog X.w) := by
  intro pins s σ H vs us Q I r h
  obtain ⟨a, L, rfl, ha, hk, h2, q⟩ := h
  have R0 : SetT0 X.prog X.w s.heap a L := (I.hok a _ ha).1
  obtain ⟨es, ep, t, R⟩ := R0.full fun p hp => I.isT (hk p hp)
  rw [Vals.ref1 r]
  refine sorted_setP R (I.ok.hd hc) h2 fun s' p out c M k g o hp hg hout pm pw => ?_
  have fw : M.length < 64 := by rw [pm.length_eq]; exact R.few
  have hn : H p = none := I.hok.fresh hp
  have hz : (M.map fun q => V.ref q.1).length ≤ sizeLine := by
    rw [List.length_map, sizeLine_eq]
    omega
  have hv : Vals (M.map fun q => V.ref q.1) out.toList := by
    rw [hout]
    exact vals_of_refs M
  obtain ⟨h', g', d', t', o'⟩ := s'
  obtain rfl : g' = s.gens := g
  obtain rfl : o' = s.os := o
  have J : Inv X pins σ (upd H p (.lst (M.map fun q => V.ref q.1))) { s with heap := h', drawn := d', toks := t' } :=
    I.call (g' := s.gens) (ch := []) (Un.laid k hp hn) (I.hok.laid k hp ⟨hz, out.toList, c, hv, hg⟩) I.bare (fun _ z => (nomatch z))
  exact ⟨.ref p, _, J, rfl, q M p pm ((pm.map (·.2)).nodup_iff.mpr R.nd) pw hn⟩
/-- a list of pairs, as the rule for sets reads it -/
theorem pairs_rows {K : PySem.W.Frag} {F : Hp} : ∀ {vs : List V} {ks : List (Int × Int)}, RpAll K F vs (ks.map pr2) → ∃ rs : List (Addr × List Int), vs = rs.map (fun p => V.ref p.1) ∧ rs.map (·.2) = ks.map (fun k => [k.1, k.2]) ∧ ∀ p ∈ rs, SqT K F p.1 (p.2.map V.int)
  | _, [], h => by
    cases h
    exact ⟨[], rfl, rfl, fun p h => nomatch h⟩
  | _, k :: ks, h => by
    cases h with
    | cons h1 h2 =>
      obtain ⟨rs, e1, e2, e3⟩ := pairs_rows h2
      obtain ⟨b, ws, rfl, t1, t2⟩ := dp_tup h1
      have e4 : ws = [V.int k.1, V.int k.2] := dpAll_ints (ns := [k.1, k.2]) t2
      subst e4
      refine ⟨(b, [k.1, k.2]) :: rs, by rw [e1]; rfl, by rw [List.map_cons, e2]; rfl, fun p hp => ?_⟩
      rcases List.mem_cons.mp hp with rfl | hp
      · exact t1
      · exact e3 p hp
theorem rows_pairs {K : PySem.W.Frag} {F : Hp} : ∀ {M : List (Addr × List Int)}, (∀ p ∈ M, SqT K F p.1 (p.2.map V.int) ∧ ∃ i j : Int, p.2 = [i, j]) → RpAll K F (M.map fun q => V.ref q.1) ((M.map fun q => (q.2.getD 0 0, q.2.getD 1 0)).map pr2)
  | [], _ => .nil
  | p :: M, h => by
    obtain ⟨h1, i, j, h2⟩ := h p (.head _)
    refine .cons (.tup h1 ?_) (rows_pairs fun q hq => h q (.tail _ hq))
    show RpAll K F (p.2.map V.int) [.int (p.2.getD 0 0), .int (p.2.getD 1 0)]
    rw [h2]
    exact .cons (.int i) (.cons (.int j) .nil)
theorem xe_sortedSet {X : Cx} {c : Ctx} {ds ds1 : Ds} {e : Expr} {p1 p2 pos1 pos2 : Pos} {ks : List (Int × Int)} (hc : X.calm = true) (hu : X.A.units + 64 < cLine) (h : XE X c e ds (.list (ks.map pr2)) ds1) (hl : ks.length < 64) (g1 : Gl X "sorted") (m1 : X.mg "sorted" = none) (g2 : Gl X "set") (m2 : X.mg "set" = none)
    (hs : starEach [e] X.env = (false, eval e X.env) :: starEach [] X.env := by rfl)
    (hs2 : starEach [.Call (.Name "set" p2) [e] [] pos2] X.env = (false, eval (.Call (.Name "set" p2) [e] [] pos2) X.env) :: starEach [] X.env := by rfl) :
    XE X c (.Call (.Name "sorted" p1) [.Call (.Name "set" p2) [e] [] pos2] [] pos1) ds (.list ((usrt ks).map pr2)) ds1 := by
  refine xe_of (pe_callB (id := "sorted") (cr_sortedSP hc) g1 m1 (by decide +kernel) (pa_cons (pe_callTy (T := "set") (cr_setOfT hc hu) g2 m2 (by decide +kernel) (pa_cons (pe_self e) pa_nil hs) (by decide) (by decide) hs rfl) pa_nil hs2) (by decide) (by decide) hs2 rfl) fun F σ H E Q q => ?_
  refine h.run F σ H E _ fun v F1 H1 s1 E1 d1 => ?_
  obtain ⟨l, vs, rfl, t1, t2⟩ := dp_lst d1
  obtain ⟨rs, e1, e2, e3⟩ := pairs_rows t2
  subst e1
  have len : rs.length = ks.length := by
    have z := congrArg List.length e2
    rw [List.length_map, List.length_map] at z
    exact z
  have two : ∀ p ∈ rs, ∃ k ∈ ks, p.2 = [k.1, k.2] := fun p hp => by
    have z : p.2 ∈ rs.map (·.2) := List.mem_map.mpr ⟨p, hp, rfl⟩
    rw [e2] at z
    obtain ⟨k, hk, e⟩ := List.mem_map.mp z
    exact ⟨k, hk, e.symm⟩
  refine ⟨l, rs, rfl, SqL.of (E1.sub _ _ t1), fun p hp => sqT_same E1.sub (e3 p hp), by omega, fun a L ha hL1 hL2 => ?_⟩
  have n1 := Nx.new (o := SetTO X.prog X.w a L) E1.sub ha
  refine ⟨a, L, rfl, upd_same, fun p hp => sqT_same (n1.h) (sqT_same E1.sub (e3 p (hL1 p hp))), fun p hp => ?_, fun M b pm nd pw hb => ?_⟩
  · obtain ⟨k, _, e⟩ := two p (hL1 p hp)
    exact ⟨_, _, e⟩
  · have n2 := Nx.new (o := .lst (M.map fun q => V.ref q.1)) n1.fh hb
    have inr : ∀ p ∈ M, p ∈ rs := fun p hp => hL1 p (pm.mem_iff.mp hp)
    have eM : (M.map fun q => (q.2.getD 0 0, q.2.getD 1 0)) = usrt ks := by
      refine sorted_uniq ?_ (usrt_sorted ks) fun x => ?_
      · rw [List.pairwise_map]
        have nd' : M.Pairwise fun q r => q.2 ≠ r.2 := List.pairwise_map.mp nd
        refine (pw.and nd').imp_of_mem fun {q r} hq hr z => ?_
        obtain ⟨k, _, ek⟩ := two q (inr q hq)
        obtain ⟨m, _, em⟩ := two r (inr r hr)
        obtain ⟨z1, z2⟩ := z
        rw [ek, em] at z1 z2 ⊢
        have z3 := SrtO.lexB_no.mp z1
        have z4 : ¬ (k.1 = m.1 ∧ k.2 = m.2) := fun ⟨a, b⟩ => z2 (by rw [a, b])
        unfold lexlt
        simp only [List.getD_cons_zero, List.getD_cons_succ] at z3 ⊢
        omega
      · rw [mem_usrt]
        constructor
        · intro hx
          obtain ⟨p, hp, e⟩ := List.mem_map.mp hx
          obtain ⟨k, hk, ek⟩ := two p (inr p hp)
          rw [ek] at e
          rw [← e]
          exact hk
        · intro hx
          have z : [x.1, x.2] ∈ rs.map (·.2) := by
            rw [e2]
            exact List.mem_map.mpr ⟨x, hx, rfl⟩
          obtain ⟨p, hp, e⟩ := List.mem_map.mp z
          obtain ⟨p', hp', e'⟩ := List.mem_map.mp (hL2 p hp)
          refine List.mem_map.mpr ⟨p', pm.mem_iff.mpr hp', ?_⟩
          have e'' : p'.2 = [x.1, x.2] := e'.trans e
          rw [e'']
          rfl
    have n := n1.trans n2
    refine q _ _ _ (s1.trans n.f) (E1.nx n) (.lst upd_same ?_)
    rw [← eM]
    refine rows_pairs fun p hp => ⟨sqT_same n.f (e3 p (inr p hp)), ?_⟩
    obtain ⟨k, _, ek⟩ := two p (inr p hp)
    exact ⟨_, _, ek⟩
end Dt
set_option maxRecDepth 100000
namespace Dt
open PySem PySem.Spec PyProof.Rows L2
/-! ### errors of the program's own, without an __init__ -/
/-- what is known of the error's class -/
structure ErrAt (K : PySem.W.Frag) (mg : Str → Option Value) (n : Str) (C : Addr) : Prop where
  x : PySem.W.excIn K C [.type "ValueError", .type "Exception", .type "BaseException", .type "object"] "ValueError.__new__" = true
  g : mg n = some (.ref C)
  k : PySem.W.keepIn K (.ref C) = true
  b : PySem.W.subIn K (.ref C) (.type "BaseException") = some true
  t : PySem.W.typeIn K (.ref C) = some (.type "type")
  i : PySem.W.isClsIn K C = true
  s : PySem.W.subIn K (.ref C) (.ref C) = some true
/-- an error of the class is what an except clause of it names -/
theorem ErrAt.self {K : PySem.W.Frag} {mg : Str → Option Value} {n : Str} {C : Addr} (R : ErrAt K mg n C) : PySem.W.exmOne K (.ref C) (.ref C) = some true := by
  have e1 : (PySem.W.subIn K (.ref C) (.type "BaseException") == some true) = true := by rw [R.b] <;> rfl
  have i' : (PySem.W.clsIn K C).isSome = true := R.i
  have e2 : ((PySem.W.clsIn K C).isSome && PySem.W.typeIn K (.ref C) == some (.type "type")) = true := by rw [i', R.t] <;> rfl
  unfold PySem.W.exmOne
  first
    | (rw [if_pos e1, if_pos e2]; exact R.s)
    | (simp only [e1, e2, if_true]; exact R.s)
    | (show (if _ then (if _ then _ else _) else _) = _; rw [if_pos e1, if_pos e2]; exact R.s)
theorem xs_raise {X : Cx} {c : Ctx} {ds : Ds} {Q : Post} {C : Addr} {n m : Str} {j : Nat} {p p2 pos pos2 : Pos} {W : WX} (hc : X.calm = true) (tk : Takes X W) (R : ErrAt X.K X.mg n C) (hg : Gl X n) (hdb : (n == ("__debug__" : Str)) = false) (h : ∀ F σ H, EnvD X.K c F ds σ H → W (.ref C) none σ H) :
    XS X c (.Raise (some (.Call (.Name n p) [.Constant (.str m) j p2] [] pos)) none pos2) ds Q :=
  xs_of (ps_raise hc tk (pmk_own PySem.F.excBase_ValueError R.x R.g R.k (raises_own R.b R.t) hg hdb)) fun F σ H D E m => h F σ H E
section
variable {P : Program} {w : World} {K : PySem.W.Frag} {mg : Str → Option Value} {base : Heap}
theorem cal_mkX (k : Nat) {n : Str} {st : Stmt} {N ps : List Str} (D : DefAt K mg n st) (S : FnScope N ps (defScope st)) {α : Type} {C : Addr} {args : α → List PyData} {pre : α → Prop} {res : α → Option PyData}
    (hb : ∀ (kV doc pm : Value) (an : Option Addr) (cdv ct : Value) (us : List Value), us.length = ps.length → bindArgs (PySem.W.fnOf n n (defArgs st) (defBody st) (defScope st) .none kV doc pm an cdv ct) ⟨us, []⟩ = pure (ps.zip us)) (hl : ∀ x, (args x).length = ps.length) (hlN : ps.length ≤ N.length)
    (body : ∀ (f : Addr) (cdv : Value) (A : Around) (outer : List Env) (s : Shared) (H : Hp) (E : XK) (F0 : Hp) (x : α), Room k (A.deeper (envOfC n (defScope st) s.heap.objs.size f cdv)) → pre x → (res x = none → ∀ F' H', Nx F0 H F' H' → E (.ref C) none H') →
      XB (bodyCx (L2.CX P w) P w K mg base N n st f cdv A outer s H E) (ctx0 F0 H) (defBody st) (startD N (args x)) { nx := fun _ => res x = some .none, rt := fun d _ => res x = some d }) : Cal P w K mg base (L2.CX P w) n (k + 1) ps (SpX K C args pre res) := by
  obtain ⟨f, fd, F, hm⟩ := D
  refine ⟨f, fd, F.okX S (fun vs H Q E h => ?_) (fun cdv A outer s H vs Q E hr h => ?_), hm, F.kp, F.binds hb⟩
  · obtain ⟨x, G, _, h2, _⟩ := h
    rw [dpAll_len h2, hl]
  · obtain ⟨x, G, h1, h2, h3, q, qe⟩ := h
    refine ⟨_, pss_self _, (body f cdv A outer s H E G x hr h3 qe).run G _ H _ (env_start h1 h2 (by rw [hl]; exact hlN)) ⟨fun F' σ H' ds s' E' e => ?_, fun F' σ H' ds v d s' E' r e => ?_, fun _ _ _ _ _ _ h => h.elim, fun _ _ _ _ _ _ h => h.elim⟩⟩
    · exact q .non F' H' .none (env_end E') e .non
    · exact q v F' H' d (env_end E') e r
end
section
variable {X : Cx} {c : Ctx} {ds ds1 : Ds} {e : Expr} {es : List Expr} {pos pos3 p q1 q2 q3 q4 np : Pos} {n fn xn : Str} {k j : Nat} {ps : List Str} {Q : Post}
/-- try: return f(..) except X as n: return None -/
theorem xs_tryNone (i : Nat) {α : Type} {C : Addr} {args : α → List PyData} {pre : α → Prop} {res : α → Option PyData} (G : Cal X.prog X.w X.K X.mg X.base (L2.CX X.prog X.w) fn k ps (SpX X.K C args pre res)) (R : ErrAt X.K X.mg xn C) (hr : Room k X.A) (x : α)
    (hs : X.stack = X.env :: X.outer) (hf : X.env.frame = some X.env.locals) (hN : X.N.Nodup) (hi : X.N[i]? = some n) (hln : X.env.kindOf n = some .local) (hg : Gl X fn) (hgx : Gl X xn) (hdb : (fn == ("__debug__" : Str)) = false) (hdx : (xn == ("__debug__" : Str)) = false)
    (he : starEach (e :: es) X.env = (false, eval e X.env) :: starEach es X.env) (hpl : (backTo pos (starEach es X.env)).any (·.1) = false)
    (ha : ∀ pn xe, XA (X.tr pn xe) c (e :: es) ds (args x) ds1) (hp : pre x) (h1 : ∀ d, res x = some d → Q.rt d ds1) (h2 : res x = none → Q.rt .none ds1) :
    XS X c (.Try [.Return (some (.Call (.Name fn p) (e :: es) [] pos)) q1] [.ExceptHandler (some (.Name xn np)) (some n) [.Return (some (.Constant .none j q3)) q2] q4] [] [] pos3) ds Q := by
  obtain ⟨f, fd, F, hm, hk, hb⟩ := G
  refine xs_of (ps_try_as (i := i) (c := .ref C) (tb := fun W => tRet (tCallS (SpX X.K C args pre res) (WE W) (fun σ H Q => ∀ pn xe, tA (X.tr pn xe) (e :: es) σ H Q))) (ts := fun _ _ _ => tRet (tC .non)) (Wout := fun _ _ _ _ => False) hs hf hN hi hln ⟨hgx, hdx, .inl R.g⟩ takes0
    (fun W pn xe tk _ => pss_one (ps_ret (pe_callS F hr hg hm hk hb (fun σ => passAt tk σ) ⟨fun pos' pins s σ H Q I h => h pn xe pos' pins s I⟩ hdb he hpl))) (fun a oe cls d pn hz hfv => pss_one (ps_ret pe_non))) fun F0 σ H D E m => ?_
  intro pn xe
  refine (ha pn xe).run F0 σ H E _ fun vs F1 H1 s1 E1 d1 => ?_
  refine ⟨x, F1, E1.sub, d1, hp, fun v F' H' d nx hd r => ?_, fun hn F' H' nx => ?_⟩
  · exact m.rt F' σ H' ds1 v d (s1.trans nx.f) (E1.nx nx) r (h1 d hd)
  · refine ⟨true, R.self, fun _ a _ => ?_, fun z => nomatch z⟩
    exact m.rt F' σ H' ds1 .non .none (s1.trans nx.f) (E1.nx nx) .non (h2 hn)
end
end Dt
set_option maxRecDepth 100000
namespace Dt
open PySem PySem.Spec PyProof.Rows L2
/-! ### the script -/
/-- a def whose first argument is the script -/
def SpS (K : PySem.W.Frag) {α : Type} (ns : α → List Int) (args : α → List PyData) (pre : α → Prop) (res : α → PyData) : Sp := fun vs H Q _ => ∃ (x : α) (F : Hp) (a : Addr) (vs' : List V), vs = .ref a :: vs' ∧ Same F H ∧ SqL K H a ((ns x).map V.int) ∧ RpAll K F vs' (args x) ∧ pre x ∧ ∀ v F' H', Nx F H F' H' → Rp K F' v (res x) → Q v H'
theorem seq_base {K : PySem.W.Frag} {c : Ctx} {F H : Hp} {a : Addr} {xs : List V} (E : EnvB c F H) (hm : ¬ c.M a) (h : SqL K c.H0 a xs) : SqL K H a xs := by
  rcases h with (h | ⟨o, h⟩) | h
  · exact .inl (.inl (E.base _ _ hm h))
  · exact .inl (.inr ⟨o, E.base _ _ hm h⟩)
  · exact .inr h
section
variable {K : PySem.W.Frag} {c : Ctx} {ds ds1 ds2 : Ds} {F H : Hp} {σ : L2.St} {ns : List Int}
theorem EnvD.scrAt {i : Nat} (E : EnvD K c F ds σ H) (hd : ds[i]? = some (some (.scr ns))) : ∃ a, σ[i]? = some (some (.ref a)) ∧ SqL K H a (ns.map V.int) := by
  obtain ⟨A, a1, a2, a3⟩ := E.own
  obtain ⟨v, h1, a, rfl, h2, h3⟩ := a3 i _ hd
  exact ⟨a, h1, seq_base E.toEnvB h3 h2⟩
theorem env_startS {F H F0 : Hp} {N : List Str} {vs : List V} {xs : List PyData} {a : Addr} {ns : List Int} (s : Same F H) (rr : RpAll K F vs xs) (hl : xs.length + 1 ≤ N.length) (h1 : SqL K H a (ns.map V.int)) :
    EnvD K (ctx0 F H) F (some (.scr ns) :: startD (N.drop 1) xs) (L2.start N (.ref a :: vs)) H := by
  have hv := dpAll_len rr
  refine ⟨⟨s, Same.refl F, fun _ _ _ e => e, fun _ m => m.elim, fun _ _ h => h, fun _ _ e => (nomatch e), fun _ h => absurd rfl h⟩, ⟨fun _ _ => False, fun _ _ _ h => h.elim, fun _ _ h => h.elim, fun i s h => ?_⟩, ?_⟩
  · cases i with
    | zero =>
      cases h
      exact ⟨.ref a, start_at rfl, a, rfl, h1, fun m => m⟩
    | succ i =>
      obtain ⟨x, g1, rfl⟩ := startD_at (show (startD (N.drop 1) xs)[i]? = some (some s) from h)
      obtain ⟨v, k1, k2⟩ := dpAll_get rr g1
      exact ⟨v, start_at (by rw [List.getElem?_cons_succ]; exact k1), k2⟩
  · rw [start_len (by rw [List.length_cons]; omega), List.length_cons, startD_len (by rw [List.length_drop]; omega), List.length_drop]
    omega
end
section
variable {P : Program} {w : World} {K : PySem.W.Frag} {mg : Str → Option Value} {base : Heap} {n : Str} {st : Stmt} {N ps : List Str}
theorem cal_mkS (k : Nat) (D : DefAt K mg n st) (S : FnScope N ps (defScope st)) {α : Type} {ns : α → List Int} {args : α → List PyData} {pre : α → Prop} {res : α → PyData}
    (hb : ∀ (kV doc pm : Value) (an : Option Addr) (cdv ct : Value) (us : List Value), us.length = ps.length → bindArgs (PySem.W.fnOf n n (defArgs st) (defBody st) (defScope st) .none kV doc pm an cdv ct) ⟨us, []⟩ = pure (ps.zip us)) (hl : ∀ x, (args x).length + 1 = ps.length) (hlN : ps.length ≤ N.length)
    (body : ∀ (f : Addr) (cdv : Value) (A : Around) (outer : List Env) (s : Shared) (H : Hp) (E : XK) (c : Ctx) (x : α), Room k (A.deeper (envOfC n (defScope st) s.heap.objs.size f cdv)) → pre x →
      XB (bodyCx CX0 P w K mg base N n st f cdv A outer s H E).nox c (defBody st) (some (.scr (ns x)) :: startD (N.drop 1) (args x)) { nx := fun _ => res x = .none, rt := fun d _ => d = res x }) : Cal P w K mg base CX0 n (k + 1) ps (SpS K ns args pre res) := by
  obtain ⟨f, fd, F, hm⟩ := D
  refine ⟨f, fd, F.ok S (fun vs H Q E h => ?_) (fun cdv A outer s H vs Q E hr h => ?_), hm, F.kp, F.binds hb⟩
  · obtain ⟨x, G, a, vs', rfl, _, _, h2, _⟩ := h
    rw [List.length_cons, dpAll_len h2, hl]
  · obtain ⟨x, G, a, vs', rfl, h1, h0, h2, h3, q⟩ := h
    refine ⟨_, pss_self _, (body f cdv A outer s H E (ctx0 G H) x hr h3).run G _ H _ (env_startS (F0 := G) h1 h2 (by rw [hl]; exact hlN) h0) ⟨fun F' σ H' ds s' E' e => ?_, fun F' σ H' ds v d s' E' r e => ?_, fun _ _ _ _ _ _ h => h.elim, fun _ _ _ _ _ _ h => h.elim⟩⟩
    · exact q .non F' H' (env_end E') (by rw [e]; exact .non)
    · subst e
      exact q v F' H' (env_end E') r
/-- the law itself: pool = f(script), then the rest -/
def SpLaw (K : PySem.W.Frag) : Sp := fun vs H Q _ => ∃ (a : Addr) (ns : List Int), vs = [.ref a] ∧ SqL K H a (ns.map V.int) ∧ ns.length ≤ 63 ∧ ∀ H', Q (.bl true) H'
theorem cal_mkLaw {CX : CXT} (k : Nat) (okX : ∀ {f : Addr} {fd : FuncData} {sp : Sp}, Fun K n n st f fd → (∀ vs H Q E, sp vs H Q E → vs.length = ps.length) → (∀ (cdv : Value) (A : Around) (outer : List Env) (s : Shared) (H : Hp) (vs : List V) (Q : VK) (E : XK), Room k (A.deeper (envOfC n (defScope st) s.heap.objs.size f cdv)) → sp vs H Q E → ∃ t, PSs (bodyCx CX P w K mg base N n st f cdv A outer s H E).nox (defBody st) t ∧ t { nx := fun _ H' => Q .non H', rt := Q } (L2.start N vs) H) → FnOk P w K mg base CX (k + 1) f fd ps sp)
    {f : Addr} {fd : FuncData} (F : Fun K n n st f fd) (S : FnScope N ps (defScope st)) (hps : ps.length = 1)
    (hlN : ps.length ≤ N.length)
    {y : Str} {e : Expr} {ypos pos : Pos} {rest : List Stmt} (hbd : defBody st = .Assign [.Name y ypos] e pos :: rest) (rows : List Int → List Int) (hrows : ∀ ns, (rows ns).length ≠ 1) (hy : N[1]? = some y)
    (body : ∀ (f : Addr) (cdv : Value) (A : Around) (outer : List Env) (s : Shared) (H : Hp) (E : XK) (c : Ctx) (ns : List Int), Room k (A.deeper (envOfC n (defScope st) s.heap.objs.size f cdv)) → ns.length ≤ 63 →
      let X := (bodyCx CX P w K mg base N n st f cdv A outer s H E).nox
      let X1 := (bodyCx CX P w K mg base N n st f cdv A outer s H E).nox
      Loc X.env.scope y ∧ (X.fn y = true ∨ X.env.scope.names.lookup y = some .local) ∧ swapsWith e (some (.Name y ypos)) pos.line X.env = pure false ∧
      XE X c e (some (.scr ns) :: startD (N.drop 1) []) (.list [.list ((rows ns).map PyData.int), .list [.int 0]]) (some (.scr ns) :: startD (N.drop 1) []) ∧
      XB X c rest (some (.scr ns) :: some (.pool (rows ns) 0) :: startD (N.drop 2) []) { nx := fun _ => False, rt := fun d _ => d = .bool true }) : FnOk P w K mg base CX (k + 1) f fd ps (SpLaw K) := by
  refine okX F (fun vs H Q E h => ?_) (fun cdv A outer s H vs Q E hr h => ?_)
  · obtain ⟨a, ns, rfl, _⟩ := h
    exact hps.symm
  · obtain ⟨a, ns, rfl, h0, hl, q⟩ := h
    let c : Ctx := ⟨H, fun _ => none, fun _ => False, fun _ => none⟩
    obtain ⟨b1, b2, b3, b4, b5⟩ := body f cdv A outer s H E c ns hr hl
    rw [hbd]
    refine ⟨_, pss_cons (ps_set (i := 1) S.nd hy b1 (pe_self e) b3 b2) (pss_self _), ?_⟩
    have s0 : Same (fun _ => none : Hp) H := fun _ _ e => nomatch e
    have E0 : EnvD K c (fun _ => none) (some (.scr ns) :: startD (N.drop 1) []) (L2.start N [.ref a]) H := by
      have := env_startS (F0 := fun _ => none) (N := N) (vs := []) (xs := []) s0 RpAll.nil (by rw [List.length_nil]; omega) h0
      exact this
    refine b4.run _ _ H E0 _ fun v F1 H1 s1 E1 d1 => ?_
    obtain ⟨p, xs, rfl, g1, g2⟩ := dp_lst d1
    cases g2 with
    | @cons v1 vs1 _ _ g3 g4 =>
      cases g4 with
      | @cons v2 vs2 _ _ g5 g6 =>
        cases g6
        obtain ⟨r, xr, rfl, k1, k2⟩ := dp_lst g3
        obtain ⟨cc, xc, rfl, k3, k4⟩ := dp_lst g5
        have e1 : xr = (rows ns).map V.int := dpAll_ints k2
        have e2 : xc = [V.int 0] := dpAll_ints (ns := [0]) k4
        subst e1 e2
        have hrc : r ≠ cc := fun z => by
          rw [z, k3] at k1
          have := congrArg List.length (HO.lst.inj (Option.some.inj k1))
          rw [List.length_map] at this
          exact hrows ns this.symm
        have hpc : p ≠ cc := fun z => by
          rw [z, k3] at g1
          have := HO.lst.inj (Option.some.inj g1)
          cases this
        have hF2 : Same (fun a => if a = cc then none else F1 a) F1 := fun a o e => by
          by_cases z : a = cc
          · simp only [z, if_true] at e
            cases e
          · simp only [z, if_false] at e
            exact e
        have nn : c.H0 cc = none := by
          cases z : c.H0 cc with
          | none => rfl
          | some o => exact absurd rfl (E1.cln cc (by rw [z]; intro z; cases z) (by rw [k3]; intro z; cases z))
        have sl : (L2.start N [.ref a])[1]? ≠ none := by
          intro z
          have := List.getElem?_eq_none_iff.mp z
          rw [start_len (by show 1 ≤ N.length; omega)] at this
          have := (List.getElem?_eq_some_iff.mp hy).1
          omega
        have hN2 : 1 < N.length := (List.getElem?_eq_some_iff.mp hy).1
        have sl' : 1 < (L2.start N [.ref a]).length := by rw [start_len (by show 1 ≤ N.length; omega)]; exact hN2
        have E2 : EnvD K c (fun a => if a = cc then none else F1 a) (some (.scr ns) :: some (.pool (rows ns) 0) :: startD (N.drop 2) []) ((L2.start N [.ref a]).set 1 (some (.ref p))) H1 := by
          refine ⟨⟨hF2.trans E1.sub, fun _ _ e => (nomatch e), E1.base, E1.mt, fun a h0 hf => E1.cln a h0 (fun z => hf ?_), E1.gd, fun _ h => absurd rfl h⟩, ⟨fun i a => i = 1 ∧ a = cc, fun i j a h h' => h.1.trans h'.1.symm, fun i a h => ?_, fun i s h => ?_⟩, ?_⟩
          · by_cases z' : a = cc
            · simp only [z', if_true]
            · simp only [z', if_false]
              exact z
          · rw [h.2]
            refine ⟨if_pos rfl, (by rw [E1.sub _ _ k3]; intro z; cases z), .inl nn, rfl⟩
          · match i, h with
            | 0, h =>
              cases h
              exact ⟨.ref a, by rw [List.getElem?_set_ne (by decide)]; exact start_at rfl, a, rfl, h0, fun m => m⟩
            | 1, h =>
              cases h
              refine ⟨.ref p, List.getElem?_set_self sl', p, r, cc, rfl, ?_, ?_, E1.sub _ _ k3, ⟨rfl, rfl⟩, .inr fun _ m => m⟩
              · show (if p = cc then none else F1 p) = _
                rw [if_neg hpc]
                exact g1
              · show (if r = cc then none else F1 r) = _
                rw [if_neg hrc]
                exact k1
            | i + 2, h =>
              obtain ⟨x, g1, rfl⟩ := startD_at (show (startD (N.drop 2) [])[i]? = some (some s) from h)
              cases g1
          · rw [List.length_set, start_len (by show 1 ≤ N.length; omega), List.length_cons, List.length_cons, startD_len (Nat.zero_le _), List.length_drop]
            omega
        refine b5.run _ _ H1 _ E2 ⟨fun F' σ H' ds s' E' e => e.elim, fun F' σ H' ds v d s' E' r e => ?_, fun _ _ _ _ _ _ h => h.elim, fun _ _ _ _ _ _ h => h.elim⟩
        subst e
        rw [dp_bool r]
        exact q H'
end
section
variable {X : Cx} {c : Ctx} {ds ds1 ds2 : Ds} {e : Expr} {es : List Expr} {pos p : Pos} {x y z : PyData} {xs : List PyData} {n : Str} {k : Nat} {ps : List Str}
theorem xe_callS (i : Nat) {pn : Str} {npos : Pos} {α : Type} {ns : α → List Int} {args : α → List PyData} {pre : α → Prop} {res : α → PyData}
    (C : Cal X.prog X.w X.K X.mg X.base CX0 n k ps (SpS X.K ns args pre res)) (hr : Room k X.A) (x : α) (hd : ds[i]? = some (some (.scr (ns x)))) (hN : X.N[i]? = some pn) (hv : Vis X.env.scope pn) (ha : XA X c es ds (args x) ds1) (hp : pre x) (hg : Gl X n := by rfl)
    (h1 : (pn == ("__debug__" : Str)) = false := by decide) (h2 : (pn == ("__classdict__" : Str)) = false := by decide)
    (hdb : (n == ("__debug__" : Str)) = false := by decide) (he : starEach (.Name pn npos :: es) X.env = (false, eval (.Name pn npos) X.env) :: starEach es X.env := by rfl) (hpl : (backTo pos (starEach es X.env)).any (·.1) = false := by rfl) :
    XE X c (.Call (.Name n p) (.Name pn npos :: es) [] pos) ds (res x) ds1 := by
  obtain ⟨f, fd, G, hm, hk, hb⟩ := C
  refine xe_of (pe_call G hr hg hm hk hb .nil pass0 (pa_cons (pe_var hN hv h1 h2) (pa_self es) he) hdb he hpl) fun F σ H E Q q => ?_
  obtain ⟨a, g1, _⟩ := E.scrAt hd
  refine ⟨_, g1, ha.run F σ H E _ fun vs F1 H1 s1 E1 d1 => ?_⟩
  show SpS X.K ns args pre res (V.ref a :: vs ++ []) H1 Q E0
  rw [List.append_nil]
  have g3 : SqL X.K H1 a ((ns x).map V.int) := by
    obtain ⟨A, a1, a2, a3⟩ := E.own
    obtain ⟨v, h1, a', h4, h2, h3⟩ := a3 i _ hd
    rw [g1] at h1
    cases h1
    cases h4
    exact seq_base E1.toEnvB h3 h2
  exact ⟨x, F1, a, vs, rfl, E1.sub, g3, d1, hp, fun v F' H' nx r => q v F' H' (s1.trans nx.f) (E1.nx nx) r⟩
theorem xe_lenScr (i : Nat) {npos : Pos} {ns : List Int} (hd : ds[i]? = some (some (.scr ns))) (hN : X.N[i]? = some n) (hv : Vis X.env.scope n) (hm : X.mg "len" = none) (hg : Gl X "len")
    (h1 : (n == ("__debug__" : Str)) = false := by decide) (h2 : (n == ("__classdict__" : Str)) = false := by decide)
    (he : starEach [.Name n npos] X.env = (false, eval (.Name n npos) X.env) :: starEach [] X.env := by rfl) :
    XE X c (.Call (.Name "len" p) [.Name n npos] [] pos) ds (.int ns.length) ds :=
  xe_of (pe_callB call_len_seq hg hm boot_len (pa_cons (pe_var hN hv h1 h2) pa_nil he) (by decide) (by decide) he rfl) fun F σ H E Q k => by
    obtain ⟨a, g1, g2⟩ := E.scrAt hd
    refine ⟨_, g1, a, _, rfl, .inl g2, ?_⟩
    rw [List.length_map]
    exact k _ F H (Same.refl F) E (.int _)
theorem xe_ixScr (i : Nat) {npos : Pos} {ns : List Int} {j : Nat} {m : Int} (hd : ds[i]? = some (some (.scr ns))) (hN : X.N[i]? = some n) (hv : Vis X.env.scope n) (hi : XE X c e ds (.int (j : Nat)) ds) (ha : ns[j]? = some m) (hs : PlainIx e := by exact fun _ _ => rfl)
    (h1 : (n == ("__debug__" : Str)) = false := by decide) (h2 : (n == ("__classdict__" : Str)) = false := by decide) :
    XE X c (.Subscript (.Name n npos) e pos) ds (.int m) ds :=
  xe_of (pe_ix ix_list (pe_var hN hv h1 h2) (pe_self e) hs) fun F σ H E Q k => by
    obtain ⟨a, g1, g2⟩ := E.scrAt hd
    refine ⟨_, g1, hi.run F σ H E _ fun v F1 H1 s1 E1 d1 => ?_⟩
    obtain ⟨a', k1, k2⟩ := E1.scrAt hd
    rw [g1] at k1
    cases k1
    exact ⟨a, _, (j : Nat), .int m, rfl, dp_int d1, k2, atI_nat (by rw [List.getElem?_map, ha]; rfl), k _ F1 H1 s1 E1 (.int m)⟩
/-! ### more operators -/
theorem opd_mulC {i j : Int} (h : CMul i j) : OpD X (binaryOp .Mult) (.int i) (.int j) (.int (i * j)) := opd_ii op_mul h
theorem opd_divC {i j : Int} (h : CDiv i j) : OpD X (binaryOp .FloorDiv) (.int i) (.int j) (.int (i / j)) := opd_ii op_fdiv h
theorem opd_isB {i j : Bool} : OpD X (compareOp .Is) (.bool i) (.bool j) (.bool (decide (i = j))) :=
  ⟨_, op_isBl, fun F H v w s d1 d2 Q q => ⟨i, j, dp_bool d1, dp_bool d2, q _ F H (Nx.refl s) (.bl _)⟩⟩
theorem opd_notB {i j : Bool} : OpD X (compareOp .IsNot) (.bool i) (.bool j) (.bool (!decide (i = j))) :=
  ⟨_, op_notBl, fun F H v w s d1 d2 Q q => ⟨i, j, dp_bool d1, dp_bool d2, q _ F H (Nx.refl s) (.bl _)⟩⟩
/-- f(..) that may raise, at arguments where it does not -/
theorem xe_callX {α : Type} {C : Addr} {args : α → List PyData} {pre : α → Prop} {res : α → Option PyData} (G : Cal X.prog X.w X.K X.mg X.base (L2.CX X.prog X.w) n k ps (SpX X.K C args pre res)) (hr : Room k X.A) (x : α) (ha : XA X c (e :: es) ds (args x) ds1) (hp : pre x) {d : PyData} (hd : res x = some d) (hg : Gl X n := by rfl)
    (hdb : (n == ("__debug__" : Str)) = false := by decide) (he : starEach (e :: es) X.env = (false, eval e X.env) :: starEach es X.env := by rfl) (hpl : (backTo pos (starEach es X.env)).any (·.1) = false := by rfl) :
    XE X c (.Call (.Name n p) (e :: es) [] pos) ds d ds1 := by
  obtain ⟨f, fd, G, hm, hk, hb⟩ := G
  refine xe_of (pe_call G hr hg hm hk hb .nil passL (pa_self _) hdb he hpl) fun F σ H E Q q => ha.run F σ H E _ fun vs F1 H1 s1 E1 d1 => ?_
  rw [List.append_nil]
  refine ⟨x, F1, E1.sub, d1, hp, fun v F' H' d' nx hd' r => ?_, fun hn => ?_⟩
  · rw [hd] at hd'
    cases hd'
    exact q v F' H' (s1.trans nx.f) (E1.nx nx) r
  · rw [hd] at hn
    cases hn
theorem units65 {k : Nat} {A : Around} (r : Room k A) : A.units + 65 < cLine := by
  have := r.un
  omega
theorem units8 {k : Nat} {A : Around} (r : Room k A) : A.units + 8 < cLine := by
  have := r.un
  omega
/-! ### min of a list of pairs -/
def pairD (p : Int × Int) : PyData := .tuple [.int p.1, .int p.2]
theorem ps_inst : ∀ x : Int × Int, PySem.W.Datum.toD x = pairD x := fun _ => rfl
def minPair (x : Int × Int) (xs : List (Int × Int)) : Int × Int := PySem.W.minOf x xs
theorem dp_at3 {K : PySem.W.Frag} {H : Hp} : ∀ {ws : List V} {ds : List PyData} {us : List Value} {i : Nat} {u : Value}, DpAll K H ws ds → Vals ws us → us[i]? = some u → ∃ v d, ws[i]? = some v ∧ ds[i]? = some d ∧ Dp K H v d ∧ RelV v u
  | _, _, _, i, u, .nil, .nil, h => by simp at h
  | _, _, _, 0, u, .cons h1 _, .cons r _, h => by
    have e := Option.some.inj h
    subst e
    exact ⟨_, _, rfl, rfl, h1, r⟩
  | _, _, _, i + 1, u, .cons _ h2, .cons _ r, h => dp_at3 (i := i) h2 r h
theorem call_minPairs (hc : X.calm = true) (hu : X.A.units + 8 < cLine) : CallR X (.builtin "min") (fun vs H Q => ∃ (a : Addr) (ws : List V) (x : Int × Int) (xs : List (Int × Int)), vs = [.ref a] ∧ SqL X.K H a ws ∧ DpAll X.K H ws ((x :: xs).map pairD) ∧ ∀ (i : Nat) v d, ws[i]? = some v → ((x :: xs).map pairD)[i]? = some d → d = pairD (minPair x xs) → Q v H) := by
  intro pins s σ H vs us Q I r h
  obtain ⟨a, ws, x, xs, rfl, hs, hd, q⟩ := h
  obtain ⟨its, rv, hl, _⟩ := I.list hs
  rw [Vals.ref1 r]
  obtain ⟨as, ra⟩ := Dp.readsAll I _ _ _ hd rv
  have ra' : PySem.ReadsAll s.heap its.toArray.toList ((x :: xs).map PySem.W.Datum.toD) as := by
    rw [List.toList_toArray, show ((x :: xs).map PySem.W.Datum.toD) = (x :: xs).map pairD from List.map_congr_left fun y _ => ps_inst y]
    exact ra
  have hdp : PySem.W.Datum.depth (Int × Int) ≤ 4 := by decide
  refine PySem.W.min_list_datum (I.ok.hd hc) hl.isList (α := Int × Int) (x := x) (xs := xs) ⟨as, ra'⟩ (by omega) fun i v h' tk hi hh hk => ?_
  have I' : Inv X pins σ H { s with heap := h', toks := tk } := I.kept hk
  have hi' : its[i]? = some v := by
    rw [List.getElem?_toArray] at hi
    exact hi
  obtain ⟨wv, d, g1, g2, g3, g4⟩ := dp_at3 hd rv hi'
  obtain ⟨bs, r1⟩ := Dp.reads I' d wv v g3 g4
  obtain ⟨cs, r2⟩ := hh
  have e := (PyProof.Rows.reads_det (fun b o e _ => e) r1 r2).1
  exact ⟨wv, H, I', g4, q i wv d g1 g2 e.symm⟩
theorem cd_minPairs (hc : X.calm = true) (hu : X.A.units + 8 < cLine) {q : Int × Int} {qs : List (Int × Int)} : CallD X (.builtin "min") [.list ((q :: qs).map pairD)] (pairD (minPair q qs)) :=
  ⟨_, call_minPairs hc hu, fun F H vs s d1 Q k => by
    cases d1 with
    | cons d1 d2 =>
      cases d2
      obtain ⟨l, ws, rfl, t1, t2⟩ := dp_lst d1
      refine ⟨l, ws, q, qs, rfl, SqL.of (s _ _ t1), (dpAll_same s t2).dp, fun i v d g1 g2 g3 => ?_⟩
      obtain ⟨d', k1, k2⟩ := dpAll_getV t2 g1
      rw [g2] at k1
      cases k1
      rw [g3] at k2
      exact k _ F H (Nx.refl s) k2⟩
/-! ### isinstance -/
end
end Dt
set_option maxRecDepth 100000
namespace Dt
open PySem PySem.Spec PyProof.Rows L2
/-! ### isinstance of data against a built-in type -/
def tyN : PyData → String
  | .none => "NoneType"
  | .bool _ => "bool"
  | .int _ => "int"
  | .str _ => "str"
  | .tuple _ => "tuple"
  | .list _ => "list"
  | _ => "dict"
theorem rp_ty {K : PySem.W.Frag} {F H : Hp} {v : V} {d : PyData} (s : Same F H) (h : Rp K F v d) : TyX K H v (.type (tyN d)) := by
  cases h with
  | non => exact .base .non
  | bl b => exact .base (.bl b)
  | int i => exact .base (.int i)
  | str x => exact .base (.str x)
  | lst h1 h2 => exact .base (.lst (s _ _ h1))
  | tup h1 h2 =>
    rcases h1 with (h | ⟨o, h⟩) | ⟨o, its, n, h, hc, _⟩
    · exact .base (.tup (s _ _ h))
    · exact .fTuple (s _ _ h)
    · exact .kTuple h hc
section
variable {X : Cx} {c : Ctx} {ds ds1 : Ds} {e : Expr} {pos p q : Pos} {x : PyData} {Tn : Str} {T : String} {b : Bool}
theorem bt_isi : bootBuiltins "isinstance" = some (.builtin "isinstance") := by decide +kernel
theorem xe_isi (hg : Gl X "isinstance") (hm : X.mg "isinstance" = none) (hgT : Gl X Tn) (hmT : X.mg Tn = none) (hvT : bootBuiltins Tn = some (.type T)) (hnT : Tn ≠ "__name__" ∧ (Tn == ("__debug__" : Str)) = false) (h : XE X c e ds x ds1)
    (he : starEach [e, .Name Tn q] X.env = (false, eval e X.env) :: starEach [.Name Tn q] X.env) (he2 : starEach [.Name Tn q] X.env = (false, eval (.Name Tn q) X.env) :: starEach [] X.env) (hpl : (backTo pos (starEach [.Name Tn q] X.env)).any (·.1) = false) (hk : kitB (tyN x) T = some b) :
    XE X c (.Call (.Name "isinstance" p) [e, .Name Tn q] [] pos) ds (.bool b) ds1 :=
  xe_of (pe_callB call_isi hg hm bt_isi (pa_cons (pe_self e) (pa_cons (pe_bltn (v := .ty T) hgT hmT hvT rfl hnT.1 hnT.2) pa_nil he2) he) (by decide) (by decide) he hpl) fun F σ H E Q k => h.run F σ H E _ fun v F1 H1 s1 E1 d1 =>
    ⟨v, .ty T, .type (tyN x), .type T, b, rfl, .ty T, rp_ty E1.sub d1, kit_ty hk, k _ F1 H1 s1 E1 (.bl b)⟩
theorem xt_if {k : Bool} {a e b : Expr} {ds2 : Ds} (h : XE X c (.IfExp e a b pos) ds (.bool k) ds2) : True := trivial
end
end Dt
set_option maxRecDepth 100000
set_option maxHeartbeats 0
namespace K81
open PySem PySem.Spec PyProof.Rows L2 Dt
local macro_rules | `(tactic| keq_hits) => `(tactic| first | exact Or.inl rfl | exact Or.inr (Or.inl rfl) | exact Or.inr (Or.inr rfl))
local macro_rules | `(tactic| keq_rows) => `(tactic| (apply xe_nmX; first
  | (refine xnm 0 rfl ?_ rfl (by decide) (by decide); keq_hits; done)
  | (refine xnm 1 rfl ?_ rfl (by decide) (by decide); keq_hits; done)
  | (refine xnm 2 rfl ?_ rfl (by decide) (by decide); keq_hits; done)
  | (refine xnm 3 rfl ?_ rfl (by decide) (by decide); keq_hits; done)
  | (refine xnm 4 rfl ?_ rfl (by decide) (by decide); keq_hits; done)
  | (refine xnm 5 rfl ?_ rfl (by decide) (by decide); keq_hits; done)
  | (refine xnm 6 rfl ?_ rfl (by decide) (by decide); keq_hits; done)
  | (refine xnm 7 rfl ?_ rfl (by decide) (by decide); keq_hits; done)
  | (refine xnm 8 rfl ?_ rfl (by decide) (by decide); keq_hits; done)
  | (refine xnm 9 rfl ?_ rfl (by decide) (by decide); keq_hits; done)
  | (refine xnm 10 rfl ?_ rfl (by decide) (by decide); keq_hits; done)
  | (refine xnm 11 rfl ?_ rfl (by decide) (by decide); keq_hits; done)
  | (refine xnm 12 rfl ?_ rfl (by decide) (by decide); keq_hits; done)
  | (refine xnm 13 rfl ?_ rfl (by decide) (by decide); keq_hits; done)
  | (refine xnm 14 rfl ?_ rfl (by decide) (by decide); keq_hits; done)
  | (refine xnm 15 rfl ?_ rfl (by decide) (by decide); keq_hits; done)
  | (refine xnm 16 rfl ?_ rfl (by decide) (by decide); keq_hits; done)
  | (refine xnm 17 rfl ?_ rfl (by decide) (by decide); keq_hits; done)
  | (refine xnm 18 rfl ?_ rfl (by decide) (by decide); keq_hits; done)
  | (refine xnm 19 rfl ?_ rfl (by decide) (by decide); keq_hits; done)
  | (refine xnm 20 rfl ?_ rfl (by decide) (by decide); keq_hits; done)
  | (refine xnm 21 rfl ?_ rfl (by decide) (by decide); keq_hits; done)
  | (refine xnm 22 rfl ?_ rfl (by decide) (by decide); keq_hits; done)
  | (refine xnm 23 rfl ?_ rfl (by decide) (by decide); keq_hits; done)))
local macro_rules | `(tactic| kas_types) => `(tactic| fail)
local macro_rules | `(tactic| kpf_c) => `(tactic| fail)
local macro_rules | `(tactic| lcg_off) => `(tactic| first
  | exact xe_int | exact xe_str | exact xe_non | exact xe_bl | keq_rows
  | apply xe_op | apply (xe_ix (hs := fun _ _ => rfl)) 
  | apply (xe_cmp (hm := nomark _)) | apply (xt_cmp (hm := nomark _)) | apply (xe_chain0 (hm := by with_unfolding_all rfl))
  | apply xe_not | apply xt_not | apply xe_un
  | apply xe_one | apply xe_and0 | apply xe_or0
  | (apply xt_w; first | apply xw_and0 | apply xw_or0) | apply xw_and0 | apply xw_or0 | apply xw_and1 | apply xw_or1
  | apply (xt_val (he := by intro _; rfl))
  | exact xa_nil | apply (xa_one (hs := rfl)) | apply (xa_cons (hs := rfl))
  | kpf_c
  | exact opd_add | exact opd_sub | exact opd_sub_bb | apply opd_mul | apply opd_mod | apply opd_div
  | exact opd_lt | exact opd_le | exact opd_gt | exact opd_ge | exact opd_eqI | exact opd_neI | exact opd_eqB | exact opd_neB | exact opd_eqS | exact opd_neS | exact und_neg
  | exact ixd_t0 | exact ixd_t1 | exact ixd_t2
  | exact cd_min2 rfl | exact cd_max2 rfl | exact cd_len | exact cd_lenT | exact cd_int | exact cd_abs | exact cd_list
  | kas_types)
local macro_rules | `(tactic| lcg_sub) => `(tactic| repeat' lcg_off)
/-! ### the text -/
def topS (i : Nat) : Stmt := PySem.Challenge.pw_portolan_k81_whole_hulls_and_halves.main.body.getD i (.Pass ⟨0, 0, 0, 0⟩)
abbrev sCross : Stmt := topS 4
abbrev sSign : Stmt := topS 5
abbrev sIsOn : Stmt := topS 6
abbrev sDoMeet : Stmt := topS 7
abbrev sTurns : Stmt := topS 8
abbrev sSides : Stmt := topS 9
abbrev sSimple : Stmt := topS 10
abbrev sArea : Stmt := topS 11
abbrev sTurning : Stmt := topS 12
abbrev sWhere : Stmt := topS 13
abbrev sPart : Stmt := topS 14
abbrev sHalves : Stmt := topS 15
abbrev sChain : Stmt := topS 16
abbrev sHull : Stmt := topS 17
/-! ### what they compute -/
abbrev Pt := Int × Int
def pt (p : Pt) : PyData := .tuple [.int p.1, .int p.2]
def cross (p q r : Pt) : Int := (q.2 - p.2) * (r.1 - p.1) - (q.1 - p.1) * (r.2 - p.2)
def sgn (v : Int) : Int := b2i (decide (0 < v)) - b2i (decide (v < 0))
def mn (i j : Int) : Int := if j < i then j else i
def mx (i j : Int) : Int := if j > i then j else i
def isOn (p q r : Pt) : Bool := if cross p q r ≠ 0 then false else (decide (mn p.1 q.1 ≤ r.1) && decide (r.1 ≤ mx p.1 q.1)) && (decide (mn p.2 q.2 ≤ r.2) && decide (r.2 ≤ mx p.2 q.2))
theorem isOn_ne {p q r : Pt} (h : ¬ cross p q r = 0) : isOn p q r = false := if_pos h
theorem isOn_eq {p q r : Pt} (h : cross p q r = 0) : isOn p q r = ((decide (mn p.1 q.1 ≤ r.1) && decide (r.1 ≤ mx p.1 q.1)) && (decide (mn p.2 q.2 ≤ r.2) && decide (r.2 ≤ mx p.2 q.2))) := if_neg fun z => z h
def doMeet (p q r s : Pt) : Bool :=
  if sgn (cross p q r) * sgn (cross p q s) < 0 ∧ sgn (cross r s p) * sgn (cross r s q) < 0 then true
  else isOn p q r || (isOn p q s || (isOn r s p || isOn r s q))
def turnsBack (p q r : Pt) : Bool := if cross p q r ≠ 0 then false else decide ((q.1 - p.1) * (r.1 - q.1) + (q.2 - p.2) * (r.2 - q.2) < 0)
/-- the numbers at hand are small -/
def inB (p : Pt) : Prop := -10000000000 ≤ p.1 ∧ p.1 ≤ 10000000000 ∧ -10000000000 ≤ p.2 ∧ p.2 ≤ 10000000000
theorem mulB {a b : Int} (h1 : -(2^64) < a) (h2 : a < 2^64) (h3 : -(2^64) < b) (h4 : b < 2^64) : CMulW a b := wide_mul (a := 65) (b := 65) (by omega) (by omega) (by decide) (by decide) (by decide)
theorem turnsBack_ne {p q r : Pt} (h : ¬ cross p q r = 0) : turnsBack p q r = false := if_pos h
theorem turnsBack_eq {p q r : Pt} (h : cross p q r = 0) : turnsBack p q r = decide ((q.1 - p.1) * (r.1 - q.1) + (q.2 - p.2) * (r.2 - q.2) < 0) := if_neg fun z => z h
def sd (s : Pt × Pt) : PyData := .tuple [pt s.1, pt s.2]
theorem sgn_bd (v : Int) : -1 ≤ sgn v ∧ sgn v ≤ 1 := by
  unfold sgn b2i
  split <;> split <;> omega
theorem mulSgn (a b : Int) : CMulW (sgn a) (sgn b) := by
  have h1 := sgn_bd a
  have h2 := sgn_bd b
  exact mulB (by omega) (by omega) (by omega) (by omega)
section
variable {X : Cx} {c : Dt.Ctx} {ds ds1 : Ds} {e : Expr} {es : List Expr} {p pos : Pos}
theorem ixd_p0 {a : Pt} : IxD X (pt a) (.int 0) (.int a.1) := ixd_t0
theorem ixd_s0 {a : Pt × Pt} : IxD X (sd a) (.int 0) (pt a.1) := ixd_t0
theorem ixd_s1 {a : Pt × Pt} : IxD X (sd a) (.int 1) (pt a.2) := ixd_t1
theorem ixd_p1 {a : Pt} : IxD X (pt a) (.int 1) (.int a.2) := ixd_t1
end
local macro_rules | `(tactic| kas_types) => `(tactic| first | exact ixd_p0 | exact ixd_p1 | exact ixd_s0 | exact ixd_s1)
/-! ### the facts of the top -/
structure Fx (mg : Str → Option Value) : Prop where
  len : mg "len" = none
  min : mg "min" = none
  max : mg "max" = none
  range : mg "range" = none
  enumerate : mg "enumerate" = none
  sum : mg "sum" = none
  sorted : mg "sorted" = none
  set : mg "set" = none
local macro_rules | `(tactic| kas_types) => `(tactic| first
  | (apply xe_bi (n := "min"); rfl; exact Fx.min (by assumption); exact bt_min; exact hn_min; rfl; rfl)
  | (apply xe_bi (n := "max"); rfl; exact Fx.max (by assumption); exact bt_max; exact hn_max; rfl; rfl)
  | (apply xe_bi (n := "len"); rfl; exact Fx.len (by assumption); exact bt_len; exact hn_len; rfl; rfl))
section
variable {P : Program} {w : World} {K : PySem.W.Frag} {mg : Str → Option Value} {base : Heap}
abbrev spCross (K : PySem.W.Frag) : Sp := SpD K (fun x : Pt × Pt × Pt => [pt x.1, pt x.2.1, pt x.2.2]) (fun x => inB x.1 ∧ inB x.2.1 ∧ inB x.2.2) (fun x => .int (cross x.1 x.2.1 x.2.2))
theorem scCross : FnScope ["p", "q", "r"] ["p", "q", "r"] (defScope sCross) := ⟨rfl, rfl, rfl, by decide +kernel, rfl, by decide +kernel, by decide +kernel⟩
theorem ok_cross (D : DefAt K mg "cross" sCross) : Cal P w K mg base CX0 "cross" 1 ["p", "q", "r"] (spCross K) := by
  refine cal_mk 0 D scCross (fun _ _ _ _ _ _ us hl => match us, hl with | [_, _, _], _ => rfl) (fun _ => rfl) (by decide) (fun f cdv A outer s H E c x hr hp => ?_)
  obtain ⟨p, q, r⟩ := x
  obtain ⟨⟨a1, a2, a3, a4⟩, ⟨b1, b2, b3, b4⟩, c1, c2, c3, c4⟩ := hp
  dsimp only at *
  apply xb_one
  apply xs_ret
  lcg_sub
  all_goals first | (exact mulB (by omega) (by omega) (by omega) (by omega)) | rfl
theorem call_cross {X : Cx} {c : Dt.Ctx} {ds ds1 : Ds} {e : Expr} {es : List Expr} {p pos : Pos} {k : Nat} {a b d : Pt} (C : Cal X.prog X.w X.K X.mg X.base CX0 "cross" 1 ["p", "q", "r"] (spCross X.K)) (hr : Room k X.A) (hk : 1 ≤ k)
    (hg : Gl X "cross") (he : starEach (e :: es) X.env = (false, eval e X.env) :: starEach es X.env) (hpl : (backTo pos (starEach es X.env)).any (·.1) = false) (h : XA X c (e :: es) ds [pt a, pt b, pt d] ds1) (ha : inB a) (hb : inB b) (hd : inB d) : XE X c (.Call (.Name "cross" p) (e :: es) [] pos) ds (.int (cross a b d)) ds1 :=
  xe_call C (hr.mono hk) (a, b, d) h ⟨ha, hb, hd⟩ hg (by decide) he hpl
abbrev spSign (K : PySem.W.Frag) : Sp := SpD K (fun x : Int => [.int x]) (fun _ => True) (fun x => .int (sgn x))
theorem scSign : FnScope ["value"] ["value"] (defScope sSign) := ⟨rfl, rfl, rfl, by decide +kernel, rfl, by decide +kernel, by decide +kernel⟩
theorem ok_sign (D : DefAt K mg "sign" sSign) : Cal P w K mg base CX0 "sign" 1 ["value"] (spSign K) := by
  refine cal_mk 0 D scSign (fun _ _ _ _ _ _ us hl => match us, hl with | [_], _ => rfl) (fun _ => rfl) (by decide) (fun f cdv A outer s H E c x hr hp => ?_)
  apply xb_one
  apply xs_ret
  lcg_sub
  all_goals rfl
theorem call_sign {X : Cx} {c : Dt.Ctx} {ds ds1 : Ds} {e : Expr} {es : List Expr} {p pos : Pos} {k : Nat} {v : Int} (C : Cal X.prog X.w X.K X.mg X.base CX0 "sign" 1 ["value"] (spSign X.K)) (hr : Room k X.A) (hk : 1 ≤ k)
    (hg : Gl X "sign") (he : starEach (e :: es) X.env = (false, eval e X.env) :: starEach es X.env) (hpl : (backTo pos (starEach es X.env)).any (·.1) = false) (h : XA X c (e :: es) ds [.int v] ds1) : XE X c (.Call (.Name "sign" p) (e :: es) [] pos) ds (.int (sgn v)) ds1 :=
  xe_call C (hr.mono hk) v h trivial hg (by decide) he hpl
abbrev spIsOn (K : PySem.W.Frag) : Sp := SpD K (fun x : Pt × Pt × Pt => [pt x.1, pt x.2.1, pt x.2.2]) (fun x => inB x.1 ∧ inB x.2.1 ∧ inB x.2.2) (fun x => .bool (isOn x.1 x.2.1 x.2.2))
theorem scIsOn : FnScope ["p", "q", "r"] ["p", "q", "r"] (defScope sIsOn) := ⟨rfl, rfl, rfl, by decide +kernel, rfl, by decide +kernel, by decide +kernel⟩
local macro_rules | `(tactic| kas_types) => `(tactic| first
  | (apply call_cross; assumption; assumption; decide; rfl; rfl; rfl)
  | (apply call_sign; assumption; assumption; decide; rfl; rfl; rfl))
theorem ok_isOn (D : DefAt K mg "is_on" sIsOn) (T : Fx mg) (C1 : Cal P w K mg base CX0 "cross" 1 ["p", "q", "r"] (spCross K)) : Cal P w K mg base CX0 "is_on" 2 ["p", "q", "r"] (spIsOn K) := by
  refine cal_mk 1 D scIsOn (fun _ _ _ _ _ _ us hl => match us, hl with | [_, _, _], _ => rfl) (fun _ => rfl) (by decide) (fun f cdv A outer s H E c x hr hp => ?_)
  obtain ⟨p, q, r⟩ := x
  obtain ⟨ha, hb, hd⟩ := hp
  dsimp only at *
  apply xb_cons
  apply xs_if
  · lcg_sub
    all_goals assumption
  · intro hk
    apply xb_one
    apply xs_ret
    · lcg_sub
    · show PyData.bool false = .bool (isOn p q r)
      rw [isOn_ne (by simpa using hk)]
  · intro hk
    apply xb_nil
    apply xb_one
    apply xs_ret
    · lcg_sub
    · show PyData.bool _ = .bool (isOn p q r)
      rw [isOn_eq (by simpa using hk)]
      rfl
theorem call_isOn {X : Cx} {c : Dt.Ctx} {ds ds1 : Ds} {e : Expr} {es : List Expr} {p pos : Pos} {k : Nat} {a b d : Pt} (C : Cal X.prog X.w X.K X.mg X.base CX0 "is_on" 2 ["p", "q", "r"] (spIsOn X.K)) (hr : Room k X.A) (hk : 2 ≤ k)
    (hg : Gl X "is_on") (he : starEach (e :: es) X.env = (false, eval e X.env) :: starEach es X.env) (hpl : (backTo pos (starEach es X.env)).any (·.1) = false) (h : XA X c (e :: es) ds [pt a, pt b, pt d] ds1) (ha : inB a) (hb : inB b) (hd : inB d) : XE X c (.Call (.Name "is_on" p) (e :: es) [] pos) ds (.bool (isOn a b d)) ds1 :=
  xe_call C (hr.mono hk) (a, b, d) h ⟨ha, hb, hd⟩ hg (by decide) he hpl
local macro_rules | `(tactic| kas_types) => `(tactic| (apply call_isOn; assumption; assumption; decide; rfl; rfl; rfl))
abbrev spDoMeet (K : PySem.W.Frag) : Sp := SpD K (fun x : (Pt × Pt) × (Pt × Pt) => [sd x.1, sd x.2]) (fun x => inB x.1.1 ∧ inB x.1.2 ∧ inB x.2.1 ∧ inB x.2.2) (fun x => .bool (doMeet x.1.1 x.1.2 x.2.1 x.2.2))
theorem scDoMeet : FnScope ["a", "b", "p", "q", "r", "s", "one", "two"] ["a", "b"] (defScope sDoMeet) := ⟨rfl, rfl, rfl, by decide +kernel, rfl, by decide +kernel, by decide +kernel⟩
theorem ok_doMeet (D : DefAt K mg "do_meet" sDoMeet) (C1 : Cal P w K mg base CX0 "cross" 1 ["p", "q", "r"] (spCross K)) (C2 : Cal P w K mg base CX0 "sign" 1 ["value"] (spSign K)) (C3 : Cal P w K mg base CX0 "is_on" 2 ["p", "q", "r"] (spIsOn K)) : Cal P w K mg base CX0 "do_meet" 3 ["a", "b"] (spDoMeet K) := by
  refine cal_mk 2 D scDoMeet (fun _ _ _ _ _ _ us hl => match us, hl with | [_, _], _ => rfl) (fun _ => rfl) (by decide) (fun f cdv A outer st H E c x hr hp => ?_)
  obtain ⟨⟨p, q⟩, ⟨r, s⟩⟩ := x
  obtain ⟨ha, hb, hd, he⟩ := hp
  dsimp only at *
  apply xb_cons
  refine xs_asg (x := sd (p, q)) (ds1 := startD ["a", "b", "p", "q", "r", "s", "one", "two"] [sd (p, q), sd (r, s)]) ?_ (xg_tup rfl (xgs_cons (xg_name 2 scDoMeet.nd rfl (.inl rfl)) (xgs_cons (xg_name 3 scDoMeet.nd rfl (.inl rfl)) xgs_nil)) rfl) ?_
  · lcg_sub
  apply xb_cons
  refine xs_asg (x := sd (r, s)) (ds1 := [some (.d (sd (p, q))), some (.d (sd (r, s))), some (.d (pt p)), some (.d (pt q)), none, none, none, none]) ?_ (xg_tup rfl (xgs_cons (xg_name 4 scDoMeet.nd rfl (.inl rfl)) (xgs_cons (xg_name 5 scDoMeet.nd rfl (.inl rfl)) xgs_nil)) rfl) ?_
  · lcg_sub
  apply xb_cons
  apply xs_set 6 scDoMeet.nd rfl (.inl rfl)
  · lcg_sub
    all_goals first | assumption | exact mulSgn _ _
  apply xb_cons
  apply xs_set 7 scDoMeet.nd rfl (.inl rfl)
  · lcg_sub
    all_goals first | assumption | exact mulSgn _ _
  apply xb_cons
  apply xs_if
  · lcg_sub
  · intro hk
    apply xb_one
    apply xs_ret
    · lcg_sub
    · show PyData.bool true = .bool (doMeet p q r s)
      unfold doMeet
      rw [if_pos (by simpa using hk)]
  · intro hk
    apply xb_nil
    apply xb_one
    apply xs_ret
    · lcg_sub
      all_goals assumption
    · show PyData.bool _ = .bool (doMeet p q r s)
      unfold doMeet
      rw [if_neg (fun z => by
        rw [decide_eq_true z.1, decide_eq_true z.2] at hk
        cases hk)]
abbrev spTurns (K : PySem.W.Frag) : Sp := SpD K (fun x : Pt × Pt × Pt => [pt x.1, pt x.2.1, pt x.2.2]) (fun x => inB x.1 ∧ inB x.2.1 ∧ inB x.2.2) (fun x => .bool (turnsBack x.1 x.2.1 x.2.2))
theorem scTurns : FnScope ["p", "q", "r"] ["p", "q", "r"] (defScope sTurns) := ⟨rfl, rfl, rfl, by decide +kernel, rfl, by decide +kernel, by decide +kernel⟩
theorem ok_turns (D : DefAt K mg "turns_back" sTurns) (C1 : Cal P w K mg base CX0 "cross" 1 ["p", "q", "r"] (spCross K)) : Cal P w K mg base CX0 "turns_back" 2 ["p", "q", "r"] (spTurns K) := by
  refine cal_mk 1 D scTurns (fun _ _ _ _ _ _ us hl => match us, hl with | [_, _, _], _ => rfl) (fun _ => rfl) (by decide) (fun f cdv A outer s H E c x hr hp => ?_)
  obtain ⟨p, q, r⟩ := x
  obtain ⟨ha, hb, hd⟩ := hp
  have ha' := ha
  have hb' := hb
  have hd' := hd
  obtain ⟨a1, a2, a3, a4⟩ := ha'
  obtain ⟨b1, b2, b3, b4⟩ := hb'
  obtain ⟨c1, c2, c3, c4⟩ := hd'
  dsimp only at *
  apply xb_cons
  apply xs_if
  · lcg_sub
    all_goals assumption
  · intro hk
    apply xb_one
    apply xs_ret
    · lcg_sub
    · show PyData.bool false = .bool (turnsBack p q r)
      rw [turnsBack_ne (by simpa using hk)]
  · intro hk
    apply xb_nil
    apply xb_one
    apply xs_ret
    · lcg_sub
      all_goals exact mulB (by omega) (by omega) (by omega) (by omega)
    · show PyData.bool _ = .bool (turnsBack p q r)
      rw [turnsBack_eq (by simpa using hk)]
end
end K81
set_option maxRecDepth 100000
set_option maxHeartbeats 0
namespace K81
open PySem PySem.Spec PyProof.Rows L2 Dt
local macro_rules | `(tactic| keq_hits) => `(tactic| first | exact Or.inl rfl | exact Or.inr (Or.inl rfl) | exact Or.inr (Or.inr rfl))
local macro_rules | `(tactic| keq_rows) => `(tactic| (apply xe_nmX; first
  | (refine xnm 0 rfl ?_ rfl (by decide) (by decide); keq_hits; done)
  | (refine xnm 1 rfl ?_ rfl (by decide) (by decide); keq_hits; done)
  | (refine xnm 2 rfl ?_ rfl (by decide) (by decide); keq_hits; done)
  | (refine xnm 3 rfl ?_ rfl (by decide) (by decide); keq_hits; done)
  | (refine xnm 4 rfl ?_ rfl (by decide) (by decide); keq_hits; done)
  | (refine xnm 5 rfl ?_ rfl (by decide) (by decide); keq_hits; done)
  | (refine xnm 6 rfl ?_ rfl (by decide) (by decide); keq_hits; done)
  | (refine xnm 7 rfl ?_ rfl (by decide) (by decide); keq_hits; done)
  | (refine xnm 8 rfl ?_ rfl (by decide) (by decide); keq_hits; done)
  | (refine xnm 9 rfl ?_ rfl (by decide) (by decide); keq_hits; done)
  | (refine xnm 10 rfl ?_ rfl (by decide) (by decide); keq_hits; done)
  | (refine xnm 11 rfl ?_ rfl (by decide) (by decide); keq_hits; done)
  | (refine xnm 12 rfl ?_ rfl (by decide) (by decide); keq_hits; done)
  | (refine xnm 13 rfl ?_ rfl (by decide) (by decide); keq_hits; done)
  | (refine xnm 14 rfl ?_ rfl (by decide) (by decide); keq_hits; done)
  | (refine xnm 15 rfl ?_ rfl (by decide) (by decide); keq_hits; done)
  | (refine xnm 16 rfl ?_ rfl (by decide) (by decide); keq_hits; done)
  | (refine xnm 17 rfl ?_ rfl (by decide) (by decide); keq_hits; done)
  | (refine xnm 18 rfl ?_ rfl (by decide) (by decide); keq_hits; done)
  | (refine xnm 19 rfl ?_ rfl (by decide) (by decide); keq_hits; done)
  | (refine xnm 20 rfl ?_ rfl (by decide) (by decide); keq_hits; done)
  | (refine xnm 21 rfl ?_ rfl (by decide) (by decide); keq_hits; done)
  | (refine xnm 22 rfl ?_ rfl (by decide) (by decide); keq_hits; done)
  | (refine xnm 23 rfl ?_ rfl (by decide) (by decide); keq_hits; done)))
local macro_rules | `(tactic| kas_types) => `(tactic| fail)
local macro_rules | `(tactic| kpf_c) => `(tactic| fail)
local macro_rules | `(tactic| lcg_off) => `(tactic| first
  | exact xe_int | exact xe_str | exact xe_non | exact xe_bl | keq_rows
  | apply xe_op | apply (xe_ix (hs := fun _ _ => rfl)) 
  | apply (xe_cmp (hm := nomark _)) | apply (xt_cmp (hm := nomark _)) | apply (xe_chain0 (hm := by with_unfolding_all rfl))
  | apply xe_not | apply xt_not | apply xe_un
  | apply xe_one | apply xe_and0 | apply xe_or0
  | (apply xt_w; first | apply xw_and0 | apply xw_or0) | apply xw_and0 | apply xw_or0 | apply xw_and1 | apply xw_or1
  | apply (xt_val (he := by intro _; rfl))
  | exact xa_nil | apply (xa_one (hs := rfl)) | apply (xa_cons (hs := rfl))
  | kpf_c
  | exact opd_add | exact opd_sub | exact opd_sub_bb | apply opd_mul | apply opd_mod | apply opd_div
  | exact opd_lt | exact opd_le | exact opd_gt | exact opd_ge | exact opd_eqI | exact opd_neI | exact opd_eqB | exact opd_neB | exact opd_eqS | exact opd_neS | exact und_neg
  | exact ixd_t0 | exact ixd_t1 | exact ixd_t2
  | exact cd_min2 rfl | exact cd_max2 rfl | exact cd_len | exact cd_lenT | exact cd_int | exact cd_abs | exact cd_list
  | kas_types)
local macro_rules | `(tactic| lcg_sub) => `(tactic| repeat' lcg_off)
local macro_rules | `(tactic| kas_types) => `(tactic| first
  | (apply xe_bi (n := "min"); rfl; exact Fx.min (by assumption); exact bt_min; exact hn_min; rfl; rfl)
  | (apply xe_bi (n := "max"); rfl; exact Fx.max (by assumption); exact bt_max; exact hn_max; rfl; rfl)
  | (apply xe_bi (n := "len"); rfl; exact Fx.len (by assumption); exact bt_len; exact hn_len; rfl; rfl))
local macro_rules | `(tactic| kas_types) => `(tactic| first
  | (apply call_cross; assumption; assumption; decide; rfl; rfl; rfl)
  | (apply call_sign; assumption; assumption; decide; rfl; rfl; rfl)
  | (apply call_isOn; assumption; assumption; decide; rfl; rfl; rfl))
/-! ### mirrors -/
abbrev o0 : Pt := (0, 0)
def nth (ps : List Pt) (i : Nat) : Pt := ps.getD i o0
def sides (ps : List Pt) : List (Pt × Pt) := (List.range ps.length).map fun i => (nth ps i, nth ps ((i + 1) % ps.length))
section
variable {X : Cx} {c : Dt.Ctx} {ds ds1 : Ds} {e : Expr} {es : List Expr} {p pos : Pos}
theorem nth_at {ps : List Pt} {i : Nat} (h : i < ps.length) : ps[i]? = some (nth ps i) := by
  unfold nth
  rw [List.getD_eq_getElem?_getD, List.getElem?_eq_getElem h]
  rfl
theorem ixd_pts {ps : List Pt} {i : Int} (h0 : 0 ≤ i) (h1 : i < (ps.length : Int)) : IxD X (.list (ps.map pt)) (.int i) (pt (nth ps i.toNat)) := by
  have e : i = (i.toNat : Int) := by omega
  rw [e]
  refine ixd_lst (atI_nat ?_)
  rw [List.getElem?_map, nth_at (by omega)]
  have e2 : (i.toNat : Int).toNat = i.toNat := by omega
  rw [e2]
  rfl
theorem cd_lenP {ps : List Pt} : CallD X (.builtin "len") [.list (ps.map pt)] (.int (ps.length : Nat)) := by
  have h := cd_len (X := X) (xs := ps.map pt)
  rw [List.length_map] at h
  exact h
theorem sides_len (ps : List Pt) : (sides ps).length = ps.length := by
  unfold sides
  rw [List.length_map, List.length_range]
theorem sides_at {ps : List Pt} {i : Nat} (h : i < ps.length) : (sides ps)[i]? = some (nth ps i, nth ps ((i + 1) % ps.length)) := by
  unfold sides
  rw [List.getElem?_map, List.getElem?_range h]
  rfl
def nthS (ss : List (Pt × Pt)) (i : Nat) : Pt × Pt := ss.getD i (o0, o0)
theorem nthS_at {ps : List (Pt × Pt)} {i : Nat} (h : i < ps.length) : ps[i]? = some (nthS ps i) := by
  unfold nthS
  rw [List.getD_eq_getElem?_getD, List.getElem?_eq_getElem h]
  rfl
theorem nthS_sides {ps : List Pt} {i : Nat} (h : i < ps.length) : nthS (sides ps) i = (nth ps i, nth ps ((i + 1) % ps.length)) := by
  have a := nthS_at (ps := sides ps) (i := i) (by rw [sides_len]; exact h)
  rw [sides_at h] at a
  exact (Option.some.inj a).symm
theorem ixd_sds {ss : List (Pt × Pt)} {i : Int} (h0 : 0 ≤ i) (h1 : i < (ss.length : Int)) : IxD X (.list (ss.map sd)) (.int i) (sd (nthS ss i.toNat)) := by
  have e : i = (i.toNat : Int) := by omega
  rw [e]
  refine ixd_lst (atI_nat ?_)
  rw [List.getElem?_map, nthS_at (by omega)]
  have e2 : (i.toNat : Int).toNat = i.toNat := by omega
  rw [e2]
  rfl
end
local macro_rules | `(tactic| kpf_c) => `(tactic| first | exact cd_lenP | apply ixd_pts | apply ixd_sds)
theorem sizeL {n : Nat} (h : n ≤ 1000) : n ≤ sizeLine := Nat.le_of_lt (small1000 h)
section
variable {P : Program} {w : World} {K : PySem.W.Frag} {mg : Str → Option Value} {base : Heap}
abbrev okP (ps : List Pt) : Prop := ps ≠ [] ∧ ps.length ≤ 1000
abbrev spSides (K : PySem.W.Frag) : Sp := SpD K (fun ps : List Pt => [.list (ps.map pt)]) okP (fun ps => .list ((sides ps).map sd))
theorem scSides : FnScope ["polygon", "at"] ["polygon"] (defScope sSides) := ⟨rfl, rfl, rfl, by decide +kernel, rfl, by decide +kernel, by decide +kernel⟩
theorem ok_sides (D : DefAt K mg "sides_of" sSides) (T : Fx mg) : Cal P w K mg base CX0 "sides_of" 1 ["polygon"] (spSides K) := by
  refine cal_mk 0 D scSides (fun _ _ _ _ _ _ us hl => match us, hl with | [_], _ => rfl) (fun _ => rfl) (by decide) (fun f cdv A outer s H E c ps hr hp => ?_)
  obtain ⟨h1, h2⟩ := hp
  have hpos : 0 < ps.length := List.length_pos_iff.mpr h1
  apply xb_one
  apply xs_ret
  · refine xe_lcMap (xs := rngD 0 ps.length) (ds1 := startD ["polygon", "at"] [.list (ps.map pt)]) [("at", 1)] rfl scSides.nd ?_ (blkOk_by (N := ["polygon", "at"]) (sc := defScope sSides) (by decide +kernel)) (by rw [rngD_len]; exact sizeL h2)
      (fun d => match d with | .int i => sd (nth ps i.toNat, nth ps ((i + 1) % (ps.length : Int)).toNat) | _ => .none) rfl (fun c' hM x hx => ?_)
    · have e : ps.length = ((ps.length : Nat) : Int).toNat := rfl
      rw [e]
      apply xi_range1
      · rfl
      · exact T.range
      · lcg_sub
      · omega
      · omega
      · rfl
    · obtain ⟨i, hi⟩ := List.getElem?_of_mem hx
      obtain ⟨hlt, rfl⟩ := rngD_at hi
      refine ⟨[1], _, (startD ["polygon", "at"] [.list (ps.map pt)]).set 1 (some (.d (.int (0 + (i : Int))))), fun s H C cl fp => xg_name 1 scSides.nd rfl (.inl rfl), (by decide), fun s H C cl fp => ?_, rfl⟩
      refine xe_to (x := .tuple [pt (nth ps (0 + (i : Int)).toNat), pt (nth ps ((0 + (i : Int) + 1) % (ps.length : Int)).toNat)]) ?_ rfl
      refine xe_tup ?_ (by show 2 ≤ sizeLine; decide)
      lcg_sub
      all_goals first | omega | exact Int.emod_nonneg _ (by omega) | exact Int.emod_lt_of_pos _ (by omega)
  · show PyData.list _ = .list _
    unfold rngD sides
    rw [List.map_map, List.map_map]
    congr 1
    refine List.map_congr_left fun i hi => ?_
    show sd (nth ps (0 + (i : Int)).toNat, nth ps ((0 + (i : Int) + 1) % (ps.length : Int)).toNat) = sd (nth ps i, nth ps ((i + 1) % ps.length))
    have e1 : (0 + (i : Int)).toNat = i := by omega
    have e2 : ((0 + (i : Int) + 1) % (ps.length : Int)).toNat = (i + 1) % ps.length := by
      have e3 : (0 + (i : Int) + 1) % (ps.length : Int) = (((i + 1) % ps.length : Nat) : Int) := by
        rw [Int.natCast_emod]
        congr 1
        omega
      rw [e3]
      exact Int.toNat_natCast _
    rw [e1, e2]
theorem call_sides {X : Cx} {c : Dt.Ctx} {ds ds1 : Ds} {e : Expr} {es : List Expr} {p pos : Pos} {k : Nat} {ps : List Pt} (C : Cal X.prog X.w X.K X.mg X.base CX0 "sides_of" 1 ["polygon"] (spSides X.K)) (hr : Room k X.A) (hk : 1 ≤ k)
    (hg : Gl X "sides_of") (he : starEach (e :: es) X.env = (false, eval e X.env) :: starEach es X.env) (hpl : (backTo pos (starEach es X.env)).any (·.1) = false) (h : XA X c (e :: es) ds [.list (ps.map pt)] ds1) (ho : okP ps) : XE X c (.Call (.Name "sides_of" p) (e :: es) [] pos) ds (.list ((sides ps).map sd)) ds1 :=
  xe_call C (hr.mono hk) ps h ho hg (by decide) he hpl
theorem call_turns {X : Cx} {c : Dt.Ctx} {ds ds1 : Ds} {e : Expr} {es : List Expr} {p pos : Pos} {k : Nat} {a b d : Pt} (C : Cal X.prog X.w X.K X.mg X.base CX0 "turns_back" 2 ["p", "q", "r"] (spTurns X.K)) (hr : Room k X.A) (hk : 2 ≤ k)
    (hg : Gl X "turns_back") (he : starEach (e :: es) X.env = (false, eval e X.env) :: starEach es X.env) (hpl : (backTo pos (starEach es X.env)).any (·.1) = false) (h : XA X c (e :: es) ds [pt a, pt b, pt d] ds1) (ha : inB a) (hb : inB b) (hd : inB d) : XE X c (.Call (.Name "turns_back" p) (e :: es) [] pos) ds (.bool (turnsBack a b d)) ds1 :=
  xe_call C (hr.mono hk) (a, b, d) h ⟨ha, hb, hd⟩ hg (by decide) he hpl
theorem call_doMeet {X : Cx} {c : Dt.Ctx} {ds ds1 : Ds} {e : Expr} {es : List Expr} {p pos : Pos} {k : Nat} {a b : Pt × Pt} (C : Cal X.prog X.w X.K X.mg X.base CX0 "do_meet" 3 ["a", "b"] (spDoMeet X.K)) (hr : Room k X.A) (hk : 3 ≤ k)
    (hg : Gl X "do_meet") (he : starEach (e :: es) X.env = (false, eval e X.env) :: starEach es X.env) (hpl : (backTo pos (starEach es X.env)).any (·.1) = false) (h : XA X c (e :: es) ds [sd a, sd b] ds1) (ha : inB a.1 ∧ inB a.2 ∧ inB b.1 ∧ inB b.2) : XE X c (.Call (.Name "do_meet" p) (e :: es) [] pos) ds (.bool (doMeet a.1 a.2 b.1 b.2)) ds1 :=
  xe_call C (hr.mono hk) (a, b) h ha hg (by decide) he hpl
local macro_rules | `(tactic| kas_types) => `(tactic| first
  | (apply call_sides; assumption; assumption; decide; rfl; rfl; rfl)
  | (apply call_turns; assumption; assumption; decide; rfl; rfl; rfl)
  | (apply call_doMeet; assumption; assumption; decide; rfl; rfl; rfl))
/-! ### is_simple -/
def inBs (ps : List Pt) : Prop := ∀ p ∈ ps, inB p
theorem nth_mem {ps : List Pt} {i : Nat} (h : i < ps.length) : nth ps i ∈ ps := List.mem_of_getElem? (nth_at h)
def bad1 (ps : List Pt) (i : Nat) : Bool := decide (nth ps i = nth ps ((i + 1) % ps.length)) || turnsBack (nth ps i) (nth ps ((i + 1) % ps.length)) (nth ps (((i + 1) % ps.length + 1) % ps.length))
def isNext (n i j : Nat) : Bool := decide ((j : Int) = (i : Int) + 1) || (decide ((i : Int) = 0) && decide ((j : Int) = (n : Int) - 1))
def bad2 (ps : List Pt) (i j : Nat) : Bool := !isNext ps.length i j && doMeet (nth ps i) (nth ps ((i + 1) % ps.length)) (nth ps j) (nth ps ((j + 1) % ps.length))
def good (ps : List Pt) (i : Nat) : Bool := !bad1 ps i && (List.range ps.length).all fun j => !(decide (i < j) && bad2 ps i j)
def isSimple (ps : List Pt) : Bool := (List.range ps.length).all (good ps)
theorem eqv_pt (a b : Pt) : PyData.eqv (pt a) (pt b) = decide (a = b) := by
  obtain ⟨a1, a2⟩ := a
  obtain ⟨b1, b2⟩ := b
  show PyData.eqv (.tuple [.int a1, .int a2]) (.tuple [.int b1, .int b2]) = _
  simp only [PyData.eqv, PyData.eqvAll, Bool.and_true, Prod.mk.injEq, Bool.decide_and]
  rw [Bool.beq_eq_decide_eq, Bool.beq_eq_decide_eq]
theorem lay_pt (a : Pt) : (pt a).canLay0 = true := by simp [pt, PyData.canLay0, PyData.canLayAll0]
theorem dep_pt (a : Pt) : (pt a).depth = 1 := by simp [pt, PyData.depth, PyData.depthAll]
theorem shp_pt (a : Pt) : SeqAt.shaped (pt a) = true := by
  show ((pt a).canLay0 && decide ((pt a).depth ≤ 64)) = true
  rw [lay_pt, dep_pt]
  rfl
theorem opd_eqPt {X : Cx} {a b : Pt} (hu : X.A.units + 64 < cLine) : OpD X (compareOp .Eq) (pt a) (pt b) (.bool (decide (a = b))) := by
  rw [← eqv_pt]
  exact opd_eqD hu (shp_pt a) (shp_pt b)
local macro_rules | `(tactic| kpf_c) => `(tactic| (apply opd_eqPt; exact Room.units (by assumption)))
theorem xs_dead {X : Cx} {c : Dt.Ctx} {st : Stmt} {ds : Ds} {Q : Post} (h : False) : XS X c st ds Q := h.elim
abbrev spSimple (K : PySem.W.Frag) : Sp := SpD K (fun ps : List Pt => [.list (ps.map pt)]) (fun ps => okP ps ∧ inBs ps) (fun ps => .bool (isSimple ps))
abbrev nSimple : List Str := ["polygon", "count", "sides", "at", "side", "other", "is_next"]
theorem scSimple : FnScope nSimple ["polygon"] (defScope sSimple) := ⟨rfl, rfl, rfl, by decide +kernel, rfl, by decide +kernel, by decide +kernel⟩
theorem enum_sides {ps : List Pt} {i : Nat} {x : PyData} (h : (enumD ((sides ps).map sd))[i]? = some x) : i < ps.length ∧ x = .tuple [.int (i : Nat), sd (nth ps i, nth ps ((i + 1) % ps.length))] := by
  obtain ⟨y, h1, h2⟩ := enumD_at h
  have hi : i < ps.length := by
    have := (List.getElem?_eq_some_iff.mp h1).1
    rw [List.length_map, sides_len] at this
    exact this
  rw [List.getElem?_map, sides_at hi] at h1
  rw [← Option.some.inj h1] at h2
  exact ⟨hi, h2⟩
theorem all_false {n : Nat} {f : Nat → Bool} {i : Nat} (h : i < n) (hf : f i = false) : (List.range n).all f = false := by
  cases e : (List.range n).all f with
  | false => rfl
  | true => rw [List.all_eq_true.mp e i (List.mem_range.mpr h)] at hf; cases hf
theorem ok_simple (D : DefAt K mg "is_simple" sSimple) (T : Fx mg) (C1 : Cal P w K mg base CX0 "sides_of" 1 ["polygon"] (spSides K)) (C2 : Cal P w K mg base CX0 "turns_back" 2 ["p", "q", "r"] (spTurns K)) (C3 : Cal P w K mg base CX0 "do_meet" 3 ["a", "b"] (spDoMeet K)) : Cal P w K mg base CX0 "is_simple" 4 ["polygon"] (spSimple K) := by
  refine cal_mk 3 D scSimple (fun _ _ _ _ _ _ us hl => match us, hl with | [_], _ => rfl) (fun _ => rfl) (by decide) (fun f cdv A outer s H E c ps hr hp => ?_)
  obtain ⟨ho, hB⟩ := hp
  have hpos : 0 < ps.length := List.length_pos_iff.mpr ho.1
  have hle := ho.2
  have inb : ∀ i, i < ps.length → inB (nth ps i) := fun i hi => hB _ (nth_mem hi)
  have inm : ∀ i, inB (nth ps (i % ps.length)) := fun i => inb _ (Nat.mod_lt _ hpos)
  apply xb_cons
  apply xs_set 1 scSimple.nd rfl (.inl rfl)
  · lcg_sub
  apply xb_cons
  apply xs_set 2 scSimple.nd rfl (.inl rfl)
  · lcg_sub
    try exact ho
  apply xb_cons
  refine xs_for .never rfl (xs := enumD ((sides ps).map sd)) (ds1 := [some (.d (.list (ps.map pt))), some (.d (.int (ps.length : Nat))), some (.d (.list ((sides ps).map sd))), none, none, none, none]) ?_
    (fun i ds => (∀ k, k < i → good ps k = true) ∧ ∃ a b d e, ds = [some (.d (.list (ps.map pt))), some (.d (.int (ps.length : Nat))), some (.d (.list ((sides ps).map sd))), a, b, d, e]) ⟨fun k hk => absurd hk (Nat.not_lt_zero _), _, _, _, _, rfl⟩ (fun i x ds hx hJ => ?_) (fun ds hJ => ?_)
  · apply xi_enum
    · rfl
    · exact T.enumerate
    · lcg_sub
    · rfl
  · obtain ⟨hi, rfl⟩ := enum_sides hx
    obtain ⟨hg, a, b, d, e, rfl⟩ := hJ
    refine ⟨_, _, xg_tup rfl (xgs_cons (xg_name 3 scSimple.nd rfl (.inl rfl)) (xgs_cons (xg_name 4 scSimple.nd rfl (.inl rfl)) xgs_nil)) rfl, ?_⟩
    have e1 : (((i : Nat) : Int) + 1) % ((ps.length : Nat) : Int) = (((i + 1) % ps.length : Nat) : Int) := by
      rw [Int.natCast_emod]
      rfl
    have hm := Nat.mod_lt (i + 1) hpos
    apply xb_cons
    apply xs_if
    · apply xt_to (k := decide (nth ps i = nth ps ((i + 1) % ps.length)) || turnsBack (nth ps i) (nth ps ((i + 1) % ps.length)) (nthS (sides ps) (((((i : Nat) : Int) + 1) % ((ps.length : Nat) : Int)).toNat)).2) (m := bad1 ps i)
      · lcg_sub
        all_goals first
          | omega
          | exact inb i hi
          | exact inm _
          | exact Int.emod_nonneg _ (by omega)
          | (rw [sides_len]; exact Int.emod_lt_of_pos _ (by omega))
          | (rw [e1, Int.toNat_natCast, nthS_sides hm]; exact inm _)
      · rw [e1, Int.toNat_natCast, nthS_sides hm]
        rfl
    · intro hk
      apply xb_one
      apply xs_ret
      · lcg_sub
      · show PyData.bool false = .bool (isSimple ps)
        rw [show isSimple ps = false from all_false hi (by unfold good; rw [hk]; rfl)]
    · intro hk
      apply xb_nil
      apply xb_one
      refine xs_for .never rfl (xs := rngD ((i : Int) + 1) ((ps.length : Int) - ((i : Int) + 1)).toNat) (ds1 := [some (.d (.list (ps.map pt))), some (.d (.int (ps.length : Nat))), some (.d (.list ((sides ps).map sd))), some (.d (.int (i : Nat))), some (.d (sd (nth ps i, nth ps ((i + 1) % ps.length)))), d, e]) ?_
        (fun m ds => (∀ j, i < j → j < i + 1 + m → bad2 ps i j = false) ∧ ∃ d e, ds = [some (.d (.list (ps.map pt))), some (.d (.int (ps.length : Nat))), some (.d (.list ((sides ps).map sd))), some (.d (.int (i : Nat))), some (.d (sd (nth ps i, nth ps ((i + 1) % ps.length)))), d, e]) ⟨fun j h1 h2 => by omega, _, _, rfl⟩ (fun m y ds hy hJ => ?_) (fun ds hJ => ?_)
      · apply xi_range2
        · rfl
        · exact T.range
        · lcg_sub
        · lcg_sub
        · omega
        · rfl
        · rfl
      · obtain ⟨hm2, rfl⟩ := rngD_at hy
        obtain ⟨hg2, d', e', rfl⟩ := hJ
        have hj : i + 1 + m < ps.length := by omega
        have ej : ((i : Int) + 1 + (m : Int)) = ((i + 1 + m : Nat) : Int) := by omega
        refine ⟨_, _, xg_name 5 scSimple.nd rfl (.inl rfl), ?_⟩
        apply xb_cons
        apply xs_set 6 scSimple.nd rfl (.inl rfl)
        · lcg_sub
        apply xb_one
        apply xs_if
        · apply xt_to (k := !(decide ((i : Int) + 1 + (m : Int) = (i : Int) + 1) || (decide ((i : Int) = 0) && decide ((i : Int) + 1 + (m : Int) = (ps.length : Int) - 1))) && doMeet (nth ps i, nth ps ((i + 1) % ps.length)).1 (nth ps i, nth ps ((i + 1) % ps.length)).2 (nthS (sides ps) ((i : Int) + 1 + (m : Int)).toNat).1 (nthS (sides ps) ((i : Int) + 1 + (m : Int)).toNat).2) (m := bad2 ps i (i + 1 + m))
          · lcg_sub
            all_goals first
              | (rw [sides_len]; omega)
              | omega
              | (rw [ej, Int.toNat_natCast, nthS_sides hj]; exact ⟨inb i hi, inm _, inb _ hj, inm _⟩)
          · rw [ej, Int.toNat_natCast, nthS_sides hj]
            rfl
        · intro hk2
          apply xb_one
          apply xs_ret
          · lcg_sub
          · show PyData.bool false = .bool (isSimple ps)
            rw [show isSimple ps = false from all_false hi (by
              unfold good
              rw [all_false hj (by rw [hk2, decide_eq_true (show i < i + 1 + m by omega)]; rfl), Bool.and_false])]
        · intro hk2
          apply xb_nil
          refine ⟨fun j h1 h2 => ?_, _, _, rfl⟩
          by_cases hjm : j = i + 1 + m
          · rw [hjm]
            exact hk2
          · exact hg2 j h1 (by omega)
      · obtain ⟨hg2, d', e', rfl⟩ := hJ
        rw [rngD_len] at hg2
        refine ⟨fun k hk3 => ?_, _, _, _, _, rfl⟩
        by_cases hki : k = i
        · subst hki
          unfold good
          rw [hk, Bool.not_false, Bool.true_and, List.all_eq_true]
          intro j hj
          have hj' := List.mem_range.mp hj
          by_cases hlt : k < j
          · rw [hg2 j hlt (by omega), Bool.and_false]
            rfl
          · rw [decide_eq_false hlt]
            rfl
        · exact hg k (by omega)
  · obtain ⟨hg, a, b, d, e, rfl⟩ := hJ
    have hn : (enumD ((sides ps).map sd)).length = ps.length := by
      unfold enumD
      rw [List.length_mapIdx, List.length_map, sides_len]
    rw [hn] at hg
    apply xb_one
    apply xs_ret
    · lcg_sub
    · show PyData.bool true = .bool (isSimple ps)
      rw [show isSimple ps = true from List.all_eq_true.mpr fun i hi => hg i (List.mem_range.mp hi)]
end
end K81
set_option maxRecDepth 100000
set_option maxHeartbeats 0
namespace K81
open PySem PySem.Spec PyProof.Rows L2 Dt
local macro_rules | `(tactic| keq_hits) => `(tactic| first | exact Or.inl rfl | exact Or.inr (Or.inl rfl) | exact Or.inr (Or.inr rfl))
local macro_rules | `(tactic| keq_rows) => `(tactic| (apply xe_nmX; first
  | (refine xnm 0 rfl ?_ rfl (by decide) (by decide); keq_hits; done)
  | (refine xnm 1 rfl ?_ rfl (by decide) (by decide); keq_hits; done)
  | (refine xnm 2 rfl ?_ rfl (by decide) (by decide); keq_hits; done)
  | (refine xnm 3 rfl ?_ rfl (by decide) (by decide); keq_hits; done)
  | (refine xnm 4 rfl ?_ rfl (by decide) (by decide); keq_hits; done)
  | (refine xnm 5 rfl ?_ rfl (by decide) (by decide); keq_hits; done)
  | (refine xnm 6 rfl ?_ rfl (by decide) (by decide); keq_hits; done)
  | (refine xnm 7 rfl ?_ rfl (by decide) (by decide); keq_hits; done)
  | (refine xnm 8 rfl ?_ rfl (by decide) (by decide); keq_hits; done)
  | (refine xnm 9 rfl ?_ rfl (by decide) (by decide); keq_hits; done)
  | (refine xnm 10 rfl ?_ rfl (by decide) (by decide); keq_hits; done)
  | (refine xnm 11 rfl ?_ rfl (by decide) (by decide); keq_hits; done)
  | (refine xnm 12 rfl ?_ rfl (by decide) (by decide); keq_hits; done)
  | (refine xnm 13 rfl ?_ rfl (by decide) (by decide); keq_hits; done)
  | (refine xnm 14 rfl ?_ rfl (by decide) (by decide); keq_hits; done)
  | (refine xnm 15 rfl ?_ rfl (by decide) (by decide); keq_hits; done)
  | (refine xnm 16 rfl ?_ rfl (by decide) (by decide); keq_hits; done)
  | (refine xnm 17 rfl ?_ rfl (by decide) (by decide); keq_hits; done)
  | (refine xnm 18 rfl ?_ rfl (by decide) (by decide); keq_hits; done)
  | (refine xnm 19 rfl ?_ rfl (by decide) (by decide); keq_hits; done)
  | (refine xnm 20 rfl ?_ rfl (by decide) (by decide); keq_hits; done)
  | (refine xnm 21 rfl ?_ rfl (by decide) (by decide); keq_hits; done)
  | (refine xnm 22 rfl ?_ rfl (by decide) (by decide); keq_hits; done)
  | (refine xnm 23 rfl ?_ rfl (by decide) (by decide); keq_hits; done)))
local macro_rules | `(tactic| kas_types) => `(tactic| fail)
local macro_rules | `(tactic| kpf_c) => `(tactic| fail)
local macro_rules | `(tactic| lcg_off) => `(tactic| first
  | exact xe_int | exact xe_str | exact xe_non | exact xe_bl | keq_rows
  | apply xe_op | apply (xe_ix (hs := fun _ _ => rfl)) 
  | apply (xe_cmp (hm := nomark _)) | apply (xt_cmp (hm := nomark _)) | apply (xe_chain0 (hm := by with_unfolding_all rfl))
  | apply xe_not | apply xt_not | apply xe_un
  | apply xe_one | apply xe_and0 | apply xe_or0
  | (apply xt_w; first | apply xw_and0 | apply xw_or0) | apply xw_and0 | apply xw_or0 | apply xw_and1 | apply xw_or1
  | apply (xt_val (he := by intro _; rfl))
  | exact xa_nil | apply (xa_one (hs := rfl)) | apply (xa_cons (hs := rfl))
  | kpf_c
  | exact opd_add | exact opd_sub | exact opd_sub_bb | apply opd_mul | apply opd_mod | apply opd_div
  | exact opd_lt | exact opd_le | exact opd_gt | exact opd_ge | exact opd_eqI | exact opd_neI | exact opd_eqB | exact opd_neB | exact opd_eqS | exact opd_neS | exact und_neg
  | exact ixd_t0 | exact ixd_t1 | exact ixd_t2
  | exact cd_min2 rfl | exact cd_max2 rfl | exact cd_len | exact cd_lenT | exact cd_int | exact cd_abs | exact cd_list
  | kas_types)
local macro_rules | `(tactic| lcg_sub) => `(tactic| repeat' lcg_off)
local macro_rules | `(tactic| kas_types) => `(tactic| first
  | (apply xe_bi (n := "min"); rfl; exact Fx.min (by assumption); exact bt_min; exact hn_min; rfl; rfl)
  | (apply xe_bi (n := "max"); rfl; exact Fx.max (by assumption); exact bt_max; exact hn_max; rfl; rfl)
  | (apply xe_bi (n := "len"); rfl; exact Fx.len (by assumption); exact bt_len; exact hn_len; rfl; rfl)
  | (apply xe_bi (n := "sum"); rfl; exact Fx.sum (by assumption); exact bt_sum; exact hn_sum; rfl; rfl))
local macro_rules | `(tactic| kas_types) => `(tactic| first
  | (apply call_cross; assumption; assumption; decide; rfl; rfl; rfl)
  | (apply call_sign; assumption; assumption; decide; rfl; rfl; rfl)
  | (apply call_isOn; assumption; assumption; decide; rfl; rfl; rfl)
  | (apply call_sides; assumption; assumption; decide; rfl; rfl; rfl))
local macro_rules | `(tactic| kpf_c) => `(tactic| first | exact cd_lenP | apply ixd_pts | apply ixd_sds | (apply opd_eqPt; exact Room.units (by assumption)))
section
variable {P : Program} {w : World} {K : PySem.W.Frag} {mg : Str → Option Value} {base : Heap}
/-! ### double_area, turning -/
def term2 (s : Pt × Pt) : Int := s.1.2 * s.2.1 - s.2.2 * s.1.1
def area2 (ps : List Pt) : Int := ((sides ps).map term2).sum
abbrev spArea (K : PySem.W.Frag) : Sp := SpD K (fun ps : List Pt => [.list (ps.map pt)]) (fun ps => okP ps ∧ inBs ps) (fun ps => .int (area2 ps))
abbrev nArea : List Str := ["polygon", "p", "q"]
theorem scArea : FnScope nArea ["polygon"] (defScope sArea) := ⟨rfl, rfl, rfl, by decide +kernel, rfl, by decide +kernel, by decide +kernel⟩
theorem sides_mem {ps : List Pt} {s : Pt × Pt} (h : s ∈ sides ps) : s.1 ∈ ps ∧ s.2 ∈ ps := by
  obtain ⟨i, hi, rfl⟩ := List.mem_map.mp h
  have h2 := List.mem_range.mp hi
  exact ⟨nth_mem h2, nth_mem (Nat.mod_lt _ (by omega))⟩
theorem ok_area (D : DefAt K mg "double_area" sArea) (T : Fx mg) (C1 : Cal P w K mg base CX0 "sides_of" 1 ["polygon"] (spSides K)) : Cal P w K mg base CX0 "double_area" 2 ["polygon"] (spArea K) := by
  refine cal_mk 1 D scArea (fun _ _ _ _ _ _ us hl => match us, hl with | [_], _ => rfl) (fun _ => rfl) (by decide) (fun f cdv A outer s H E c ps hr hp => ?_)
  obtain ⟨ho, hB⟩ := hp
  have hl := ho.2
  apply xb_one
  apply xs_ret
  · apply xe_to (x := .int (((sides ps).map term2).sum)) (y := .int (area2 ps))
    · apply xe_bi (n := "sum") (xs := [.list (((sides ps).map term2).map PyData.int)])
      · rfl
      · exact T.sum
      · exact bt_sum
      · exact hn_sum
      · rfl
      · rfl
      · apply xa_one (hs := rfl)
        rw [show ((sides ps).map term2).map PyData.int = ((sides ps).map sd).map (fun x => match x with | .tuple [.tuple [.int a, .int b], .tuple [.int d, .int e]] => .int (b * d - e * a) | _ => .none) by
          rw [List.map_map, List.map_map]
          rfl]
        refine xe_lcMap (ds1 := startD nArea [.list (ps.map pt)]) [("p", 1), ("q", 2)] rfl scArea.nd (xi_list ?_) (blkOk_by (N := nArea) (sc := defScope sArea) (by decide +kernel)) (by rw [List.length_map, sides_len]; exact sizeL hl) _ rfl (fun c' hM x hx => ?_)
        · lcg_sub
          try exact ho
        · obtain ⟨s1, hs1, rfl⟩ := List.mem_map.mp hx
          obtain ⟨m1, m2⟩ := sides_mem hs1
          obtain ⟨a, b⟩ := s1
          obtain ⟨a1, a2, a3, a4⟩ := hB _ m1
          obtain ⟨b1, b2, b3, b4⟩ := hB _ m2
          dsimp only at *
          refine ⟨[1, 2], _, ((startD nArea [.list (ps.map pt)]).set 1 (some (.d (pt a)))).set 2 (some (.d (pt b))), fun s H C cl fp => xg_tup rfl (xgs_cons (xg_name 1 scArea.nd rfl (.inl rfl)) (xgs_cons (xg_name 2 scArea.nd rfl (.inl rfl)) xgs_nil)) rfl, (by decide), fun s H C cl fp => ?_, rfl⟩
          apply xe_to (x := .int (a.2 * b.1 - b.2 * a.1))
          · lcg_sub
            all_goals (dsimp only; exact mulB (by omega) (by omega) (by omega) (by omega))
          · rfl
      · exact cd_sum rfl
    · rfl
  · rfl
theorem call_area {X : Cx} {c : Dt.Ctx} {ds ds1 : Ds} {e : Expr} {es : List Expr} {p pos : Pos} {k : Nat} {ps : List Pt} (C : Cal X.prog X.w X.K X.mg X.base CX0 "double_area" 2 ["polygon"] (spArea X.K)) (hr : Room k X.A) (hk : 2 ≤ k)
    (hg : Gl X "double_area") (he : starEach (e :: es) X.env = (false, eval e X.env) :: starEach es X.env) (hpl : (backTo pos (starEach es X.env)).any (·.1) = false) (h : XA X c (e :: es) ds [.list (ps.map pt)] ds1) (ho : okP ps ∧ inBs ps) : XE X c (.Call (.Name "double_area" p) (e :: es) [] pos) ds (.int (area2 ps)) ds1 :=
  xe_call C (hr.mono hk) ps h ho hg (by decide) he hpl
local macro_rules | `(tactic| kas_types) => `(tactic| (apply call_area; assumption; assumption; decide; rfl; rfl; rfl))
abbrev spTurning (K : PySem.W.Frag) : Sp := SpD K (fun ps : List Pt => [.list (ps.map pt)]) (fun ps => okP ps ∧ inBs ps) (fun ps => .int (sgn (area2 ps)))
theorem scTurning : FnScope ["polygon"] ["polygon"] (defScope sTurning) := ⟨rfl, rfl, rfl, by decide +kernel, rfl, by decide +kernel, by decide +kernel⟩
theorem ok_turning (D : DefAt K mg "turning" sTurning) (C1 : Cal P w K mg base CX0 "sign" 1 ["value"] (spSign K)) (C2 : Cal P w K mg base CX0 "double_area" 2 ["polygon"] (spArea K)) : Cal P w K mg base CX0 "turning" 3 ["polygon"] (spTurning K) := by
  refine cal_mk 2 D scTurning (fun _ _ _ _ _ _ us hl => match us, hl with | [_], _ => rfl) (fun _ => rfl) (by decide) (fun f cdv A outer s H E c ps hr hp => ?_)
  apply xb_one
  apply xs_ret
  · lcg_sub
    try exact hp
  · rfl
/-! ### where -/
def whereGo (z : Pt) : List (Pt × Pt) → Bool → Str
  | [], ins => if ins then "inside" else "outside"
  | s :: r, ins => if isOn s.1 s.2 z then "edge" else
      if (decide (z.1 < s.1.1) != decide (z.1 < s.2.1)) && (decide (0 < cross s.1 s.2 z) == decide (s.1.1 < s.2.1)) then whereGo z r (!ins) else whereGo z r ins
def whereF (ps : List Pt) (z : Pt) : Str := whereGo z (sides ps) false
theorem whereGo_on {z : Pt} {s : Pt × Pt} {r : List (Pt × Pt)} {ins : Bool} (h : isOn s.1 s.2 z = true) : whereGo z (s :: r) ins = "edge" := by
  rw [whereGo, if_pos h]
theorem whereGo_flip {z : Pt} {s : Pt × Pt} {r : List (Pt × Pt)} {ins : Bool} (h : isOn s.1 s.2 z = false) (h2 : ((decide (z.1 < s.1.1) != decide (z.1 < s.2.1)) && (decide (0 < cross s.1 s.2 z) == decide (s.1.1 < s.2.1))) = true) : whereGo z (s :: r) ins = whereGo z r (!ins) := by
  rw [whereGo, if_neg (by rw [h]; exact Bool.false_ne_true), if_pos h2]
theorem whereGo_keep {z : Pt} {s : Pt × Pt} {r : List (Pt × Pt)} {ins : Bool} (h : isOn s.1 s.2 z = false) (h2 : ((decide (z.1 < s.1.1) != decide (z.1 < s.2.1)) && (decide (0 < cross s.1 s.2 z) == decide (s.1.1 < s.2.1))) = false) : whereGo z (s :: r) ins = whereGo z r ins := by
  rw [whereGo, if_neg (by rw [h]; exact Bool.false_ne_true), if_neg (by rw [h2]; exact Bool.false_ne_true)]
abbrev spWhere (K : PySem.W.Frag) : Sp := SpD K (fun x : List Pt × Pt => [.list (x.1.map pt), pt x.2]) (fun x => okP x.1 ∧ inBs x.1 ∧ inB x.2) (fun x => .str (whereF x.1 x.2))
abbrev nWhere : List Str := ["polygon", "point", "inside", "p", "q"]
theorem scWhere : FnScope nWhere ["polygon", "point"] (defScope sWhere) := ⟨rfl, rfl, rfl, by decide +kernel, rfl, by decide +kernel, by decide +kernel⟩
theorem ok_where (D : DefAt K mg "where" sWhere) (C1 : Cal P w K mg base CX0 "cross" 1 ["p", "q", "r"] (spCross K)) (C2 : Cal P w K mg base CX0 "is_on" 2 ["p", "q", "r"] (spIsOn K)) (C3 : Cal P w K mg base CX0 "sides_of" 1 ["polygon"] (spSides K)) : Cal P w K mg base CX0 "where" 3 ["polygon", "point"] (spWhere K) := by
  refine cal_mk 2 D scWhere (fun _ _ _ _ _ _ us hl => match us, hl with | [_, _], _ => rfl) (fun _ => rfl) (by decide) (fun f cdv A outer s H E c x hr hp => ?_)
  obtain ⟨ps, z⟩ := x
  obtain ⟨ho, hB, hz⟩ := hp
  dsimp only at *
  apply xb_cons
  apply xs_set 2 scWhere.nd rfl (.inl rfl)
  · lcg_sub
  apply xb_cons
  refine xs_for .never rfl (xs := (sides ps).map sd) (ds1 := [some (.d (.list (ps.map pt))), some (.d (pt z)), some (.d (.bool false)), none, none]) ?_
    (fun i ds => ∃ ins a b, whereGo z ((sides ps).drop i) ins = whereF ps z ∧ ds = [some (.d (.list (ps.map pt))), some (.d (pt z)), some (.d (.bool ins)), a, b]) ⟨false, _, _, rfl, rfl⟩ (fun i x ds hx hJ => ?_) (fun ds hJ => ?_)
  · apply xi_list
    lcg_sub
    try exact ho
  · obtain ⟨ins, a, b, hg, rfl⟩ := hJ
    rw [List.getElem?_map] at hx
    cases hs : (sides ps)[i]? with
    | none => rw [hs] at hx; cases hx
    | some s1 =>
      rw [hs] at hx
      obtain ⟨m1, m2⟩ := sides_mem (List.mem_of_getElem? hs)
      obtain ⟨p, q⟩ := s1
      cases hx
      have i1 := hB _ m1
      have i2 := hB _ m2
      dsimp only at i1 i2
      have hdr : (sides ps).drop i = (p, q) :: (sides ps).drop (i + 1) := List.drop_eq_getElem?_toList_append.trans (by rw [hs]; rfl)
      rw [hdr] at hg
      refine ⟨_, _, xg_tup rfl (xgs_cons (xg_name 3 scWhere.nd rfl (.inl rfl)) (xgs_cons (xg_name 4 scWhere.nd rfl (.inl rfl)) xgs_nil)) rfl, ?_⟩
      apply xb_cons
      apply xs_if
      · lcg_sub
        all_goals assumption
      · intro hk
        apply xb_one
        apply xs_ret
        · lcg_sub
        · show PyData.str "edge" = .str (whereF ps z)
          rw [← hg, whereGo_on hk]
      · intro hk
        apply xb_nil
        apply xb_one
        apply xs_if
        · lcg_sub
        · intro hk2
          apply xb_one
          apply xs_if
          · lcg_sub
            all_goals assumption
          · intro hk3
            apply xb_one
            apply xs_set 2 scWhere.nd rfl (.inl rfl)
            · lcg_sub
            · refine ⟨!ins, _, _, ?_, rfl⟩
              rw [← hg, whereGo_flip hk (by rw [Bool.and_eq_true]; exact ⟨hk2, hk3⟩)]
          · intro hk3
            apply xb_nil
            refine ⟨ins, _, _, ?_, rfl⟩
            rw [← hg, whereGo_keep hk (by rw [Bool.and_eq_false_iff]; exact .inr hk3)]
        · intro hk2
          apply xb_nil
          refine ⟨ins, _, _, ?_, rfl⟩
          rw [← hg, whereGo_keep hk (by rw [Bool.and_eq_false_iff]; exact .inl hk2)]
  · obtain ⟨ins, a, b, hg, rfl⟩ := hJ
    rw [List.length_map, List.drop_length] at hg
    apply xb_one
    apply xs_ret
    · apply xe_if (x := .str (whereF ps z))
      · lcg_sub
      · intro hk
        rw [hk] at hg
        apply xe_to
        · lcg_sub
        · exact congrArg PyData.str hg
      · intro hk
        rw [hk] at hg
        apply xe_to
        · lcg_sub
        · exact congrArg PyData.str hg
    · rfl
/-! ### part_of, halves -/
/-- how many steps from i to k -/
def stepsTo (n i k : Nat) : Nat := if i ≤ k then k - i else k + n - i
def wrapN (n j : Nat) : Nat := if j < n then j else j - n
def partOf (ps : List Pt) (i k : Nat) : List Pt := (List.range (stepsTo ps.length i k + 1)).map fun m => nth ps (wrapN ps.length (i + m))
abbrev spPart (K : PySem.W.Frag) : Sp := SpD K (fun x : List Pt × Nat × Nat => [.list (x.1.map pt), .int (x.2.1 : Nat), .int (x.2.2 : Nat)]) (fun x => x.1.length ≤ 1000 ∧ x.2.1 < x.1.length ∧ x.2.2 < x.1.length) (fun x => .list ((partOf x.1 x.2.1 x.2.2).map pt))
abbrev nPart : List Str := ["polygon", "first", "last", "found"]
theorem scPart : FnScope nPart ["polygon", "first", "last"] (defScope sPart) := ⟨rfl, rfl, rfl, by decide +kernel, rfl, by decide +kernel, by decide +kernel⟩
theorem part_next {n i m : Nat} (hi : i < n) (hm : m < n) : (((wrapN n (i + m) : Nat) : Int) + 1) % (n : Int) = ((wrapN n (i + (m + 1)) : Nat) : Int) := by
  unfold wrapN
  split
  · split
    · rw [Int.emod_eq_of_lt (by omega) (by omega)]
      omega
    · have e : (((i + m : Nat) : Int) + 1) = (n : Int) := by omega
      rw [e, Int.emod_self]
      omega
  · split
    · omega
    · rw [Int.emod_eq_of_lt (by omega) (by omega)]
      omega
theorem wrap_lt {n i m : Nat} (hi : i < n) (hm : m < n) : wrapN n (i + m) < n := by
  unfold wrapN
  split <;> omega
theorem ok_part (D : DefAt K mg "part_of" sPart) (T : Fx mg) : Cal P w K mg base CX0 "part_of" 1 ["polygon", "first", "last"] (spPart K) := by
  refine cal_mk 0 D scPart (fun _ _ _ _ _ _ us hl => match us, hl with | [_, _, _], _ => rfl) (fun _ => rfl) (by decide) (fun f cdv A outer s H E c x hr hp => ?_)
  obtain ⟨ps, i, k⟩ := x
  obtain ⟨hl, hi, hk⟩ := hp
  dsimp only at *
  have hd : stepsTo ps.length i k < ps.length := by
    unfold stepsTo
    split <;> omega
  have hend : ∀ m, m < stepsTo ps.length i k → wrapN ps.length (i + m) ≠ k := by
    intro m hm
    unfold wrapN stepsTo at *
    split <;> split at hm <;> omega
  have hlast : wrapN ps.length (i + stepsTo ps.length i k) = k := by
    unfold wrapN stepsTo
    split <;> split <;> omega
  apply xb_cons
  apply xs_setOwn 3 scPart.nd rfl (.inl rfl)
  · apply xa_one (hs := rfl)
    lcg_sub
    all_goals omega
  · show 1 ≤ sizeLine
    decide
  apply xb_cons
  refine xs_while .never (fun m ds => ∃ j, j + m = stepsTo ps.length i k ∧ ds = [some (.d (.list (ps.map pt))), some (.d (.int ((wrapN ps.length (i + j) : Nat) : Int))), some (.d (.int (k : Nat))), some (.own (((List.range (j + 1)).map fun m => nth ps (wrapN ps.length (i + m))).map pt))]) (m0 := stepsTo ps.length i k) ⟨0, by omega, ?_⟩ (fun m ds hJ => ?_)
  · have e0 : wrapN ps.length (i + 0) = i := by
      unfold wrapN
      split <;> omega
    show [_, _, _, _] = _
    simp only [Nat.zero_add, List.range_one, List.map_cons, List.map_nil, e0]
    have e1 : ((i : Nat) : Int).toNat = i := Int.toNat_natCast _
    rw [e1]
  · obtain ⟨j, hj, rfl⟩ := hJ
    refine ⟨!decide (((wrapN ps.length (i + j) : Nat) : Int) = ((k : Nat) : Int)), [some (.d (.list (ps.map pt))), some (.d (.int ((wrapN ps.length (i + j) : Nat) : Int))), some (.d (.int (k : Nat))), some (.own (((List.range (j + 1)).map fun m => nth ps (wrapN ps.length (i + m))).map pt))], ?_, fun hb => ?_, fun hb => ?_⟩
    · lcg_sub
    · have hjs : j < stepsTo ps.length i k := by
        by_cases hje : j = stepsTo ps.length i k
        · rw [hje, hlast, decide_eq_true rfl] at hb
          cases hb
        · omega
      apply xb_cons
      apply xs_set 1 scPart.nd rfl (.inl rfl)
      · apply xe_to (y := .int ((wrapN ps.length (i + (j + 1)) : Nat) : Int))
        · lcg_sub
          all_goals omega
        · exact congrArg PyData.int (part_next hi (by omega))
      apply xb_one
      refine xs_append 3 (xs := ((List.range (j + 1)).map fun m => nth ps (wrapN ps.length (i + m))).map pt) (x := pt (nth ps ((wrapN ps.length (i + (j + 1)) : Nat) : Int).toNat)) (ds1 := [some (.d (.list (ps.map pt))), some (.d (.int ((wrapN ps.length (i + (j + 1)) : Nat) : Int))), some (.d (.int (k : Nat))), some (.own (((List.range (j + 1)).map fun m => nth ps (wrapN ps.length (i + m))).map pt))]) rfl ⟨_, rfl⟩ rfl (.inl rfl) ?_ ?_ ?_
      · lcg_sub
        all_goals first | omega | exact Int.ofNat_lt.mpr (wrap_lt hi (by omega))
      · rw [List.length_map, List.length_map, List.length_range]
        exact small1000 (by omega)
      · refine ⟨m - 1, by omega, j + 1, by omega, ?_⟩
        show [_, _, _, _] = _
        rw [Int.toNat_natCast, List.range_succ (n := j + 1), List.map_append, List.map_append]
        rfl
    · have hje : j = stepsTo ps.length i k := by
        by_cases hje : j = stepsTo ps.length i k
        · exact hje
        · exact absurd (of_decide_eq_true (by simpa using hb) : ((wrapN ps.length (i + j) : Nat) : Int) = ((k : Nat) : Int)) (fun z => hend j (by omega) (Int.ofNat.inj z))
      subst hje
      apply xb_one
      apply xs_ret
      · exact xe_frz 3 rfl rfl rfl (.inl rfl)
      · rfl
end
end K81
set_option maxRecDepth 100000
set_option maxHeartbeats 0
namespace K81
open PySem PySem.Spec PyProof.Rows L2 Dt
local macro_rules | `(tactic| keq_hits) => `(tactic| first | exact Or.inl rfl | exact Or.inr (Or.inl rfl) | exact Or.inr (Or.inr rfl))
local macro_rules | `(tactic| keq_rows) => `(tactic| (apply xe_nmX; first
  | (refine xnm 0 rfl ?_ rfl (by decide) (by decide); keq_hits; done)
  | (refine xnm 1 rfl ?_ rfl (by decide) (by decide); keq_hits; done)
  | (refine xnm 2 rfl ?_ rfl (by decide) (by decide); keq_hits; done)
  | (refine xnm 3 rfl ?_ rfl (by decide) (by decide); keq_hits; done)
  | (refine xnm 4 rfl ?_ rfl (by decide) (by decide); keq_hits; done)
  | (refine xnm 5 rfl ?_ rfl (by decide) (by decide); keq_hits; done)
  | (refine xnm 6 rfl ?_ rfl (by decide) (by decide); keq_hits; done)
  | (refine xnm 7 rfl ?_ rfl (by decide) (by decide); keq_hits; done)
  | (refine xnm 8 rfl ?_ rfl (by decide) (by decide); keq_hits; done)
  | (refine xnm 9 rfl ?_ rfl (by decide) (by decide); keq_hits; done)
  | (refine xnm 10 rfl ?_ rfl (by decide) (by decide); keq_hits; done)
  | (refine xnm 11 rfl ?_ rfl (by decide) (by decide); keq_hits; done)
  | (refine xnm 12 rfl ?_ rfl (by decide) (by decide); keq_hits; done)
  | (refine xnm 13 rfl ?_ rfl (by decide) (by decide); keq_hits; done)
  | (refine xnm 14 rfl ?_ rfl (by decide) (by decide); keq_hits; done)
  | (refine xnm 15 rfl ?_ rfl (by decide) (by decide); keq_hits; done)
  | (refine xnm 16 rfl ?_ rfl (by decide) (by decide); keq_hits; done)
  | (refine xnm 17 rfl ?_ rfl (by decide) (by decide); keq_hits; done)
  | (refine xnm 18 rfl ?_ rfl (by decide) (by decide); keq_hits; done)
  | (refine xnm 19 rfl ?_ rfl (by decide) (by decide); keq_hits; done)
  | (refine xnm 20 rfl ?_ rfl (by decide) (by decide); keq_hits; done)
  | (refine xnm 21 rfl ?_ rfl (by decide) (by decide); keq_hits; done)
  | (refine xnm 22 rfl ?_ rfl (by decide) (by decide); keq_hits; done)
  | (refine xnm 23 rfl ?_ rfl (by decide) (by decide); keq_hits; done)))
local macro_rules | `(tactic| kas_types) => `(tactic| fail)
local macro_rules | `(tactic| kpf_c) => `(tactic| fail)
local macro_rules | `(tactic| lcg_off) => `(tactic| first
  | exact xe_int | exact xe_str | exact xe_non | exact xe_bl | keq_rows
  | apply xe_op | apply (xe_ix (hs := fun _ _ => rfl)) 
  | apply (xe_cmp (hm := nomark _)) | apply (xt_cmp (hm := nomark _)) | apply (xe_chain0 (hm := by with_unfolding_all rfl))
  | apply xe_not | apply xt_not | apply xe_un
  | apply xe_one | apply xe_and0 | apply xe_or0
  | (apply xt_w; first | apply xw_and0 | apply xw_or0) | apply xw_and0 | apply xw_or0 | apply xw_and1 | apply xw_or1
  | apply (xt_val (he := by intro _; rfl))
  | exact xa_nil | apply (xa_one (hs := rfl)) | apply (xa_cons (hs := rfl))
  | kpf_c
  | exact opd_add | exact opd_sub | exact opd_sub_bb | apply opd_mul | apply opd_mod | apply opd_div
  | exact opd_lt | exact opd_le | exact opd_gt | exact opd_ge | exact opd_eqI | exact opd_neI | exact opd_eqB | exact opd_neB | exact opd_eqS | exact opd_neS | exact und_neg
  | exact ixd_t0 | exact ixd_t1 | exact ixd_t2
  | exact cd_min2 rfl | exact cd_max2 rfl | exact cd_len | exact cd_lenT | exact cd_int | exact cd_abs | exact cd_list
  | kas_types)
local macro_rules | `(tactic| lcg_sub) => `(tactic| repeat' lcg_off)
local macro_rules | `(tactic| kas_types) => `(tactic| first
  | (apply xe_bi (n := "len"); rfl; exact Fx.len (by assumption); exact bt_len; exact hn_len; rfl; rfl))
local macro_rules | `(tactic| kpf_c) => `(tactic| first | exact cd_lenP | apply ixd_pts | apply ixd_sds | (apply opd_eqPt; exact Room.units (by assumption)))
section
variable {X : Cx} {c : Dt.Ctx} {ds ds1 ds2 : Ds} {a b e : Expr} {es : List Expr} {p pos : Pos} {x y z : PyData}
theorem xt_chain0 {op op' : CmpOp} {k m : Bool} (ha : XE X c a ds x ds) (hb : XE X c b ds y ds) (ho : OpD X (compareOp op) x y (.bool k)) (hd : XE X c e ds z ds) (ho' : OpD X (compareOp op') y z (.bool m)) (hm : lastMarks [op, op'] [b, e] = false) : XT X c (.Compare a [op, op'] [b, e] pos) ds (k && m) ds := by
  obtain ⟨r, h1, h2⟩ := ho.ex
  obtain ⟨r', h1', h2'⟩ := ho'.ex
  refine xt_of (pt_chain h1 h1' (pe_self a) (pe_self b) (pe_self e) hm) fun F σ H E Q q => ?_
  refine ha.run F σ H E _ fun v F1 H1 s1 E1 d1 => hb.run F1 σ H1 E1 _ fun w F2 H2 s2 E2 d2 => ?_
  refine h2 F2 H2 v w E2.sub (dp_same s2 d1) d2 _ fun u F3 H3 n d3 => ⟨k, dp_bool d3, ?_⟩
  cases k with
  | true =>
    refine iteT (hd.run F3 σ H3 (E2.nx n) _ fun t F4 H4 s4 E4 d4 => ?_)
    exact h2' F4 H4 w t E4.sub (dp_same (n.f.trans s4) d2) d4 _ fun u F5 H5 n5 d5 => ⟨m, dp_bool d5, q F5 H5 ((((s1.trans s2).trans n.f).trans s4).trans n5.f) (E4.nx n5)⟩
  | false => exact iteF ⟨false, rfl, q F3 H3 ((s1.trans s2).trans n.f) (E2.nx n)⟩
end
section
variable {P : Program} {w : World} {K : PySem.W.Frag} {mg : Str → Option Value} {base : Heap}
/-! ### halves -/
theorem call_part {X : Cx} {c : Dt.Ctx} {ds ds1 : Ds} {e : Expr} {es : List Expr} {p pos : Pos} {k : Nat} {ps : List Pt} {i j : Nat} (C : Cal X.prog X.w X.K X.mg X.base CX0 "part_of" 1 ["polygon", "first", "last"] (spPart X.K)) (hr : Room k X.A) (hk : 1 ≤ k)
    (hg : Gl X "part_of") (he : starEach (e :: es) X.env = (false, eval e X.env) :: starEach es X.env) (hpl : (backTo pos (starEach es X.env)).any (·.1) = false) (h : XA X c (e :: es) ds [.list (ps.map pt), .int (i : Nat), .int (j : Nat)] ds1) (ho : ps.length ≤ 1000 ∧ i < ps.length ∧ j < ps.length) : XE X c (.Call (.Name "part_of" p) (e :: es) [] pos) ds (.list ((partOf ps i j).map pt)) ds1 :=
  xe_call C (hr.mono hk) (ps, i, j) h ho hg (by decide) he hpl
local macro_rules | `(tactic| kas_types) => `(tactic| (apply call_part; assumption; assumption; decide; rfl; rfl; rfl))
abbrev okHalf (ps : List Pt) (i k : Nat) : Prop := ps.length ≤ 1000 ∧ i < ps.length ∧ k < ps.length ∧ ((i : Int) - k) % (ps.length : Int) ≠ 0 ∧ ((i : Int) - k) % (ps.length : Int) ≠ 1 ∧ ((i : Int) - k) % (ps.length : Int) ≠ (ps.length : Int) - 1
abbrev spHalves (K : PySem.W.Frag) : Sp := SpD K (fun x : List Pt × Nat × Nat => [.list (x.1.map pt), .int (x.2.1 : Nat), .int (x.2.2 : Nat)]) (fun x => okHalf x.1 x.2.1 x.2.2) (fun x => .tuple [.list ((partOf x.1 x.2.1 x.2.2).map pt), .list ((partOf x.1 x.2.2 x.2.1).map pt)])
abbrev nHalves : List Str := ["polygon", "i", "k", "count"]
theorem scHalves : FnScope nHalves ["polygon", "i", "k"] (defScope sHalves) := ⟨rfl, rfl, rfl, by decide +kernel, rfl, by decide +kernel, by decide +kernel⟩
theorem ok_halves (D : DefAt K mg "halves" sHalves) (T : Fx mg) (C1 : Cal P w K mg base CX0 "part_of" 1 ["polygon", "first", "last"] (spPart K)) : Cal P w K mg base CX0 "halves" 2 ["polygon", "i", "k"] (spHalves K) := by
  refine cal_mk 1 D scHalves (fun _ _ _ _ _ _ us hl => match us, hl with | [_, _, _], _ => rfl) (fun _ => rfl) (by decide) (fun f cdv A outer s H E c x hr hp => ?_)
  obtain ⟨ps, i, k⟩ := x
  obtain ⟨hl, hi, hk, q0, q1, q2⟩ := hp
  dsimp only at *
  apply xb_cons
  apply xs_set 3 scHalves.nd rfl (.inl rfl)
  · lcg_sub
  apply xb_cons
  apply xs_if
  · apply xt_to (m := false)
    · apply xt_w
      apply xw_or0
      · apply xt_not
        apply (xt_chain0 (hm := by with_unfolding_all rfl))
        all_goals lcg_sub
      · apply xw_or0
        · apply xt_not
          apply (xt_chain0 (hm := by with_unfolding_all rfl))
          all_goals lcg_sub
        · apply xw_or1
          apply (xt_cmp (hm := by rfl))
          · lcg_sub
            try omega
          · refine xe_tup (xs := [.int 0, .int 1, .int (((ps.length : Nat) : Int) - 1)]) ?_ (by show 3 ≤ sizeLine; decide)
            lcg_sub
          · exact opd_inT rfl rfl
    · rw [decide_eq_true (show (0 : Int) ≤ (i : Nat) by omega), decide_eq_true (show ((i : Nat) : Int) < (ps.length : Nat) by omega), decide_eq_true (show (0 : Int) ≤ (k : Nat) by omega), decide_eq_true (show ((k : Nat) : Int) < (ps.length : Nat) by omega)]
      simp only [List.any_cons, List.any_nil, PyData.eqv, Bool.and_self, Bool.not_true, Bool.false_or, Bool.or_false, Bool.or_eq_false_iff, beq_eq_false_iff_ne]
      exact ⟨fun z => q0 z.symm, fun z => q1 z.symm, fun z => q2 z.symm⟩
  · intro z
    cases z
  · intro _
    apply xb_nil
    apply xb_one
    apply xs_ret
    · apply xe_tup (xs := [.list ((partOf ps i k).map pt), .list ((partOf ps k i).map pt)])
      · lcg_sub
        all_goals exact ⟨hl, by assumption, by assumption⟩
      · show 2 ≤ sizeLine
        decide
    · rfl
/-! ### chain -/
def pops : List Pt → Pt → List Pt
  | b :: a :: r, p => if cross a b p ≤ 0 then pops (a :: r) p else b :: a :: r
  | [a], _ => [a]
  | [], _ => []
def chainR (ps : List Pt) : List Pt := ps.foldl (fun st p => p :: pops st p) []
def chain (ps : List Pt) : List Pt := (chainR ps).reverse
theorem pops_go {a b p : Pt} {r : List Pt} (h : cross a b p ≤ 0) : pops (b :: a :: r) p = pops (a :: r) p := by
  rw [pops, if_pos h]
theorem pops_stop {a b p : Pt} {r : List Pt} (h : ¬ cross a b p ≤ 0) : pops (b :: a :: r) p = b :: a :: r := by
  rw [pops, if_neg h]
theorem pops_short {st : List Pt} {p : Pt} (h : st.length ≤ 1) : pops st p = st := by
  match st, h with
  | [], _ => rfl
  | [a], _ => rfl
  | _ :: _ :: _, h => simp at h
theorem pops_mem {p x : Pt} : ∀ {st : List Pt}, x ∈ pops st p → x ∈ st
  | [], h => h
  | [_], h => h
  | b :: a :: r, h => by
    by_cases hc : cross a b p ≤ 0
    · rw [pops_go hc] at h
      exact .tail _ (pops_mem h)
    · rw [pops_stop hc] at h
      exact h
theorem at_m1 {r : List Pt} {b : Pt} : atI ((b :: r).reverse.map pt) (-1) = some (pt b) := by
  rw [List.reverse_cons, List.map_append]
  exact atI_last _ _
theorem at_m2 {r : List Pt} {a b : Pt} : atI ((b :: a :: r).reverse.map pt) (-2) = some (pt a) := by
  rw [List.reverse_cons, List.reverse_cons, List.map_append, List.map_append]
  unfold atI ixN
  have hl : (List.map pt r.reverse ++ List.map pt [a] ++ List.map pt [b]).length = r.length + 2 := by simp
  rw [hl, if_neg (by omega), if_pos (by omega)]
  have e : ((-2 : Int) + ((r.length + 2 : Nat) : Int)).toNat = r.length := by omega
  rw [e, Option.bind_some, List.getElem?_append_left (by simp), List.getElem?_append_right (by simp)]
  simp
abbrev spChain (K : PySem.W.Frag) : Sp := SpD K (fun ps : List Pt => [.list (ps.map pt)]) (fun ps => ps.length ≤ 1000 ∧ inBs ps) (fun ps => .list ((chain ps).map pt))
abbrev nChain : List Str := ["points", "found", "point"]
theorem scChain : FnScope nChain ["points"] (defScope sChain) := ⟨rfl, rfl, rfl, by decide +kernel, rfl, by decide +kernel, by decide +kernel⟩
theorem pops_len {p : Pt} : ∀ {st : List Pt}, (pops st p).length ≤ st.length
  | [] => Nat.le_refl _
  | [_] => Nat.le_refl _
  | b :: a :: r => by
    by_cases hc : cross a b p ≤ 0
    · rw [pops_go hc]
      exact Nat.le_trans pops_len (Nat.le_succ _)
    · rw [pops_stop hc]
      exact Nat.le_refl _
theorem ok_chain (D : DefAt K mg "chain" sChain) (T : Fx mg) (C1 : Cal P w K mg base CX0 "cross" 1 ["p", "q", "r"] (spCross K)) : Cal P w K mg base CX0 "chain" 2 ["points"] (spChain K) := by
  refine cal_mk 1 D scChain (fun _ _ _ _ _ _ us hl => match us, hl with | [_], _ => rfl) (fun _ => rfl) (by decide) (fun f cdv A outer s H E c ps hr hp => ?_)
  obtain ⟨hl, hB⟩ := hp
  apply xb_cons
  apply xs_setOwn 1 scChain.nd rfl (.inl rfl)
  · exact xa_nil
  · exact Nat.zero_le _
  apply xb_cons
  refine xs_for .never rfl (xs := ps.map pt) (ds1 := [some (.d (.list (ps.map pt))), some (.own []), none]) ?_
    (fun i ds => ∃ a, (chainR (ps.take i)).length ≤ i ∧ inBs (chainR (ps.take i)) ∧ ds = [some (.d (.list (ps.map pt))), some (.own ((chain (ps.take i)).map pt)), a]) ⟨_, Nat.le_refl _, fun p h => (nomatch h), rfl⟩ (fun i x ds hx hJ => ?_) (fun ds hJ => ?_)
  · apply xi_list
    lcg_sub
  · obtain ⟨a, hn, hst, rfl⟩ := hJ
    rw [List.getElem?_map] at hx
    cases hs : ps[i]? with
    | none => rw [hs] at hx; cases hx
    | some z =>
      rw [hs] at hx
      cases hx
      have hz : inB z := hB _ (List.mem_of_getElem? hs)
      have hi : i < ps.length := (List.getElem?_eq_some_iff.mp hs).1
      have hnx : chainR (ps.take (i + 1)) = z :: pops (chainR (ps.take i)) z := by
        unfold chainR
        rw [take_succ_at hs, List.foldl_append]
        rfl
      refine ⟨_, _, xg_name 2 scChain.nd rfl (.inl rfl), ?_⟩
      apply xb_cons
      refine xs_while .never (fun m ds => ∃ st, st.length = m ∧ pops st z = pops (chainR (ps.take i)) z ∧ st.length ≤ i ∧ inBs st ∧ ds = [some (.d (.list (ps.map pt))), some (.own (st.reverse.map pt)), some (.d (pt z))]) (m0 := (chainR (ps.take i)).length) ⟨_, rfl, rfl, hn, hst, rfl⟩ (fun m ds hJ => ?_)
      obtain ⟨st, hm, hpo, hle, hin, rfl⟩ := hJ
      refine ⟨decide (((1 : Nat) : Int) < ((st.reverse.map pt).length : Nat)) && decide (cross (nth st 1) (nth st 0) z ≤ 0), [some (.d (.list (ps.map pt))), some (.own (st.reverse.map pt)), some (.d (pt z))], ?_, fun hb => ?_, fun hb => ?_⟩
      · apply xt_w
        refine xw_and (ds1 := [some (.d (.list (ps.map pt))), some (.own (st.reverse.map pt)), some (.d (pt z))]) ?_ (fun hb1 => ?_) (fun _ => rfl)
        · apply (xt_cmp (hm := nomark _))
          · exact xe_lenOwn 1 rfl rfl (.inl rfl) T.len rfl (by decide) (by decide) rfl
          · lcg_sub
          · exact opd_gt
        · have h2 : 2 ≤ st.length := by
            have := of_decide_eq_true hb1
            rw [List.length_map, List.length_reverse] at this
            omega
          match st, h2, hin with
          | b :: a :: r, _, hin =>
            apply xw_and1
            apply (xt_cmp (hm := nomark _))
            · apply call_cross
              · assumption
              · assumption
              · decide
              · rfl
              · rfl
              · rfl
              · apply (xa_cons (hs := rfl))
                · refine xe_ixOwn 1 (j := -2) (z := pt a) (ds1 := [some (.d (.list (ps.map pt))), some (.own ((b :: a :: r).reverse.map pt)), some (.d (pt z))]) rfl rfl rfl (.inl rfl) ?_ at_m2
                  lcg_sub
                apply (xa_cons (hs := rfl))
                · refine xe_ixOwn 1 (j := -1) (z := pt b) (ds1 := [some (.d (.list (ps.map pt))), some (.own ((b :: a :: r).reverse.map pt)), some (.d (pt z))]) rfl rfl rfl (.inl rfl) ?_ at_m1
                  lcg_sub
                lcg_sub
              · exact hin a (.tail _ (.head _))
              · exact hin b (.head _)
              · exact hz
            · lcg_sub
            · exact opd_le
      · rw [Bool.and_eq_true] at hb
        have h2 : 2 ≤ st.length := by
          have := of_decide_eq_true hb.1
          rw [List.length_map, List.length_reverse] at this
          omega
        match st, h2, hin, hb, hm, hle, hpo with
        | b :: a :: r, _, hin, hb, hm, hle, hpo =>
          have hcr : cross a b z ≤ 0 := of_decide_eq_true hb.2
          apply xb_one
          refine xs_pop 1 (xs := (b :: a :: r).reverse.map pt) rfl rfl (.inl rfl) (by simp) ?_
          refine ⟨(a :: r).length, by rw [← hm]; exact Nat.lt_succ_self _, a :: r, rfl, ?_, Nat.le_of_succ_le hle, fun q hq => hin q (.tail _ hq), ?_⟩
          · rw [← hpo, pops_go hcr]
          · show [_, _, _] = _
            rw [List.reverse_cons (a := b), List.map_append, List.map_singleton, List.dropLast_concat]
      · -- the list grows by the point
        have hfin : pops st z = st := by
          match st, hb with
          | [], _ => rfl
          | [a], _ => rfl
          | b :: a :: r, hb =>
            refine pops_stop fun hc => ?_
            rw [decide_eq_true (show cross (nth (b :: a :: r) 1) (nth (b :: a :: r) 0) z ≤ 0 from hc), decide_eq_true (by rw [List.length_map, List.length_reverse, List.length_cons, List.length_cons]; omega)] at hb
            cases hb
        have hnx2 : chainR (ps.take (i + 1)) = z :: st := by rw [hnx, ← hpo, hfin]
        apply xb_one
        refine xs_append 1 (xs := st.reverse.map pt) (x := pt z) (ds1 := [some (.d (.list (ps.map pt))), some (.own (st.reverse.map pt)), some (.d (pt z))]) rfl ⟨_, rfl⟩ rfl (.inl rfl) ?_ ?_ ?_
        · lcg_sub
        · rw [List.length_map, List.length_reverse]
          exact small1000 (by omega)
        · refine ⟨some (.d (pt z)), ?_, ?_, ?_⟩
          · rw [hnx2, List.length_cons]
            omega
          · rw [hnx2]
            intro q hq
            rcases List.mem_cons.mp hq with rfl | hq
            · exact hz
            · exact hin q hq
          · unfold chain
            rw [hnx2, List.reverse_cons, List.map_append]
            rfl
  · obtain ⟨a, hn, hst, rfl⟩ := hJ
    rw [List.length_map, List.take_length]
    apply xb_one
    apply xs_ret
    · exact xe_frz 1 rfl rfl rfl (.inl rfl)
    · rfl
/-! ### hull_of -/
def swp (p : Pt) : Pt := (p.2, p.1)
/-- the points without repetitions, by longitude, then by latitude -/
def ordd (ps : List Pt) : List Pt := (usrt (ps.map swp)).map swp
def hullL (ps : List Pt) : List Pt := (chain (ordd ps)).dropLast ++ (chain (ordd ps).reverse).dropLast
def hullO (ps : List Pt) : Option PyData := if (hullL ps).length < 3 then none else some (.list ((hullL ps).map pt))
theorem cut_last (xs : List PyData) : Dt.cutD xs none (some (-1)) = xs.dropLast := by
  unfold Dt.cutD
  have e0 : HT.sIx xs.length 0 none = 0 := HT.sIx_none _ _
  have e1 : HT.sIx xs.length xs.length (some (-1)) = xs.length - 1 := by
    unfold HT.sIx
    simp only
    first
      | omega
      | (rw [if_pos (by decide)]; omega)
  rw [e0, e1, List.drop_zero, Nat.sub_zero, List.dropLast_eq_take]
theorem map_dropLast' {α β : Type} (f : α → β) (l : List α) : (l.map f).dropLast = l.dropLast.map f := by
  rw [List.dropLast_eq_take, List.dropLast_eq_take, List.length_map, List.map_take]
theorem chainR_mem {x : Pt} : ∀ {ps : List Pt}, x ∈ chainR ps → x ∈ ps := by
  intro ps
  have go : ∀ (l : List Pt) (st : List Pt), x ∈ l.foldl (fun st p => p :: pops st p) st → x ∈ st ∨ x ∈ l := by
    intro l
    induction l with
    | nil => exact fun st h => .inl h
    | cons p l ih =>
      intro st h
      rcases ih _ h with h | h
      · rcases List.mem_cons.mp h with rfl | h
        · exact .inr (.head _)
        · exact .inl (pops_mem h)
      · exact .inr (.tail _ h)
  intro h
  exact (go ps [] h).resolve_left (fun z => nomatch z)
theorem chain_mem {x : Pt} {ps : List Pt} (h : x ∈ chain ps) : x ∈ ps := chainR_mem (List.mem_reverse.mp h)
theorem mem_ordd {x : Pt} {ps : List Pt} : x ∈ ordd ps ↔ x ∈ ps := by
  unfold ordd
  constructor
  · intro h
    obtain ⟨y, hy, rfl⟩ := List.mem_map.mp h
    obtain ⟨z, hz, rfl⟩ := List.mem_map.mp (mem_usrt.mp hy)
    exact hz
  · intro h
    exact List.mem_map.mpr ⟨swp x, mem_usrt.mpr (List.mem_map.mpr ⟨x, h, rfl⟩), rfl⟩
theorem hullL_mem {x : Pt} {ps : List Pt} (h : x ∈ hullL ps) : x ∈ ps := by
  rcases List.mem_append.mp h with h | h
  · exact mem_ordd.mp (chain_mem ((List.dropLast_sublist _).mem h))
  · exact mem_ordd.mp (List.mem_reverse.mp (chain_mem ((List.dropLast_sublist _).mem h)))
theorem lins_len (p : Pt) : ∀ l : List Pt, (lins p l).length ≤ l.length + 1
  | [] => Nat.le_refl _
  | q :: r => by
    unfold lins
    split
    · exact Nat.le_refl _
    · split
      · exact Nat.le_succ _
      · exact Nat.succ_le_succ (lins_len p r)
theorem usrt_len : ∀ ks : List Pt, (usrt ks).length ≤ ks.length
  | [] => Nat.le_refl _
  | k :: ks => Nat.le_trans (lins_len k (usrt ks)) (Nat.succ_le_succ (usrt_len ks))
theorem ordd_len (ps : List Pt) : (ordd ps).length ≤ ps.length := by
  unfold ordd
  rw [List.length_map]
  exact Nat.le_trans (usrt_len _) (by rw [List.length_map]; exact Nat.le_refl _)
theorem chainR_len : ∀ ps : List Pt, (chainR ps).length ≤ ps.length := by
  intro ps
  have go : ∀ (l : List Pt) (st : List Pt), (l.foldl (fun st p => p :: pops st p) st).length ≤ st.length + l.length := by
    intro l
    induction l with
    | nil => exact fun st => Nat.le_refl _
    | cons p l ih =>
      intro st
      have h1 := ih (p :: pops st p)
      have h2 := pops_len (p := p) (st := st)
      rw [List.length_cons] at h1 ⊢
      show (l.foldl _ (p :: pops st p)).length ≤ _
      omega
  have h := go ps []
  rw [List.length_nil, Nat.zero_add] at h
  exact h
theorem chain_len (ps : List Pt) : (chain ps).length ≤ ps.length := by
  unfold chain
  rw [List.length_reverse]
  exact chainR_len ps
theorem call_chain {X : Cx} {c : Dt.Ctx} {ds ds1 : Ds} {e : Expr} {es : List Expr} {p pos : Pos} {k : Nat} {ps : List Pt} (C : Cal X.prog X.w X.K X.mg X.base CX0 "chain" 2 ["points"] (spChain X.K)) (hr : Room k X.A) (hk : 2 ≤ k)
    (hg : Gl X "chain") (he : starEach (e :: es) X.env = (false, eval e X.env) :: starEach es X.env) (hpl : (backTo pos (starEach es X.env)).any (·.1) = false) (h : XA X c (e :: es) ds [.list (ps.map pt)] ds1) (ho : ps.length ≤ 1000 ∧ inBs ps) : XE X c (.Call (.Name "chain" p) (e :: es) [] pos) ds (.list ((chain ps).map pt)) ds1 :=
  xe_call C (hr.mono hk) ps h ho hg (by decide) he hpl
abbrev spHull (K : PySem.W.Frag) (C : Addr) : Sp := SpX K C (fun ps : List Pt => [.list (ps.map pt)]) (fun ps => ps.length < 64 ∧ inBs ps) hullO
abbrev nHull : List Str := ["points", "ordered", "found", "lat", "lon"]
theorem scHull : FnScope nHull ["points"] (defScope sHull) := ⟨rfl, rfl, rfl, by decide +kernel, rfl, by decide +kernel, by decide +kernel⟩
local macro_rules | `(tactic| kas_types) => `(tactic| (apply call_chain; assumption; assumption; decide; rfl; rfl; rfl))
theorem ok_hull {C : Addr} (D : DefAt K mg "hull_of" sHull) (T : Fx mg) (R : ErrAt K mg "NoHalves" C) (C1 : Cal P w K mg base CX0 "chain" 2 ["points"] (spChain K)) : Cal P w K mg base (L2.CX P w) "hull_of" 4 ["points"] (spHull K C) := by
  refine cal_mkX 3 D scHull (fun _ _ _ _ _ _ us hl => match us, hl with | [_], _ => rfl) (fun _ => rfl) (by decide) (fun f cdv A outer s H E F0 ps hr hp hE => ?_)
  obtain ⟨hl, hB⟩ := hp
  have hol := ordd_len ps
  have hoB : inBs (ordd ps) := fun p h => hB p (mem_ordd.mp h)
  have swp_map : (ps.map pt).map (fun x => match x with | .tuple [a, b] => .tuple [b, a] | _ => .none) = (ps.map swp).map pr2 := by
    rw [List.map_map, List.map_map]
    rfl
  have swp_map2 : ((usrt (ps.map swp)).map pr2).map (fun x => match x with | .tuple [a, b] => .tuple [b, a] | _ => .none) = (ordd ps).map pt := by
    unfold ordd
    rw [List.map_map, List.map_map]
    rfl
  apply xb_cons
  refine xs_lcO 1 (own := [("lon", 4), ("lat", 3)]) (d := .list ((ordd ps).map pt)) (ds' := startD nHull [.list (ps.map pt)]) rfl scHull.nd rfl rfl (sw_true rfl rfl rfl (by decide +kernel)) (blkOk_by (N := nHull) (sc := defScope sHull) (by decide +kernel)) ?_ ?_
  · rw [← swp_map2]
    have hul : ((usrt (ps.map swp)).map pr2).length ≤ sizeLine := by
      rw [List.length_map]
      have h1 := usrt_len (ps.map swp)
      rw [List.length_map] at h1
      exact sizeL (by omega)
    refine lc_map (xs := (usrt (ps.map swp)).map pr2) (ds1 := startD nHull [.list (ps.map pt)]) [("lon", 4), ("lat", 3)] (xi_list ?_) hul (fun x => match x with | .tuple [a, b] => .tuple [b, a] | _ => .none) rfl (fun c' hM x hx => ?_)
    · apply xe_sortedSet
      · rfl
      · exact hr.units
      rotate_left 1
      · rw [List.length_map]
        exact hl
      · rfl
      · exact T.sorted
      · rfl
      · exact T.set
      · rfl
      · rfl
      rw [← swp_map]
      refine xe_lcMap (ds1 := startD nHull [.list (ps.map pt)]) [("lat", 3), ("lon", 4)] rfl scHull.nd (xi_list ?_) (blkOk_by (N := nHull) (sc := defScope sHull) (by decide +kernel)) (by rw [List.length_map]; exact sizeL (by omega)) _ rfl (fun c' hM x hx => ?_)
      · lcg_sub
      · obtain ⟨z, hz, rfl⟩ := List.mem_map.mp hx
        refine ⟨[3, 4], _, ((startD nHull [.list (ps.map pt)]).set 3 (some (.d (.int z.1)))).set 4 (some (.d (.int z.2))), fun s H C cl fp => xg_tup rfl (xgs_cons (xg_name 3 scHull.nd rfl (.inl rfl)) (xgs_cons (xg_name 4 scHull.nd rfl (.inl rfl)) xgs_nil)) rfl, (by decide), fun s H C cl fp => ?_, rfl⟩
        apply xe_tup (xs := [.int z.2, .int z.1])
        · lcg_sub
        · show 2 ≤ sizeLine
          decide
    · obtain ⟨z, hz, rfl⟩ := List.mem_map.mp hx
      refine ⟨[4, 3], _, ((startD nHull [.list (ps.map pt)]).set 4 (some (.d (.int z.1)))).set 3 (some (.d (.int z.2))), fun s H C cl fp => xg_tup rfl (xgs_cons (xg_name 4 scHull.nd rfl (.inl rfl)) (xgs_cons (xg_name 3 scHull.nd rfl (.inl rfl)) xgs_nil)) rfl, (by decide), fun s H C cl fp => ?_, rfl⟩
      apply xe_tup (xs := [.int z.2, .int z.1])
      · lcg_sub
      · show 2 ≤ sizeLine
        decide
  · apply xb_cons
    have e1 : (Dt.cutD ((chain (ordd ps)).map pt) none (some (-1))) = (chain (ordd ps)).dropLast.map pt := by rw [cut_last, map_dropLast']
    have e2 : (Dt.cutD ((chain (ordd ps).reverse).map pt) none (some (-1))) = (chain (ordd ps).reverse).dropLast.map pt := by rw [cut_last, map_dropLast']
    have l1 := chain_len (ordd ps)
    have l2 := chain_len (ordd ps).reverse
    rw [List.length_reverse] at l2
    apply xs_set 2 scHull.nd rfl (.inl rfl) (x := .list ((hullL ps).map pt)) (ds1 := [some (.d (.list (ps.map pt))), some (.d (.list ((ordd ps).map pt))), none, none, none])
    · apply xe_to (x := .list ((chain (ordd ps)).dropLast.map pt ++ (chain (ordd ps).reverse).dropLast.map pt))
      · apply xe_op (x := .list ((chain (ordd ps)).dropLast.map pt)) (y := .list ((chain (ordd ps).reverse).dropLast.map pt)) (ds1 := [some (.d (.list (ps.map pt))), some (.d (.list ((ordd ps).map pt))), none, none, none])
        · rw [← e1]
          refine xe_cut (ds1 := [some (.d (.list (ps.map pt))), some (.d (.list ((ordd ps).map pt))), none, none, none]) ?_ po_none po_neg1 (fun _ _ _ q => po_none_g q) (fun _ _ _ q => po_neg1_g q)
          lcg_sub
          all_goals exact ⟨by omega, hoB⟩
        · rw [← e2]
          refine xe_cut (ds1 := [some (.d (.list (ps.map pt))), some (.d (.list ((ordd ps).map pt))), none, none, none]) ?_ po_none po_neg1 (fun _ _ _ q => po_none_g q) (fun _ _ _ q => po_neg1_g q)
          apply call_chain
          · assumption
          · assumption
          · decide
          · rfl
          · rfl
          · rfl
          · apply (xa_one (hs := rfl))
            rw [List.map_reverse]
            refine xe_rev ?_
            lcg_sub
          · exact ⟨by rw [List.length_reverse]; omega, fun p h => hoB p (List.mem_reverse.mp h)⟩
        · apply opd_cat
          rw [List.length_map, List.length_map, List.length_dropLast, List.length_dropLast]
          exact sizeL (by omega)
      · unfold hullL
        rw [List.map_append]
    · apply xb_cons
      apply xs_if
      · lcg_sub
      · intro hk
        have hlt : (hullL ps).length < 3 := by
          have := of_decide_eq_true hk
          omega
        apply xb_one
        refine xs_raise rfl (takes_of rfl rfl rfl rfl) R rfl (by decide) (fun F σ H' E' => hE (if_pos hlt) F H' (env_end E'))
      · intro hk
        have hlt : ¬ (hullL ps).length < 3 := by
          have := of_decide_eq_false hk
          omega
        apply xb_nil
        apply xb_one
        apply xs_ret
        · lcg_sub
        · exact if_neg hlt
end
end K81
set_option maxRecDepth 100000
set_option maxHeartbeats 0
namespace K81
open PySem PySem.Spec PyProof.Rows L2 Dt
local macro_rules | `(tactic| keq_hits) => `(tactic| first | exact Or.inl rfl | exact Or.inr (Or.inl rfl) | exact Or.inr (Or.inr rfl))
local macro_rules | `(tactic| keq_rows) => `(tactic| (apply xe_nmX; first
  | (refine xnm 0 rfl ?_ rfl (by decide) (by decide); keq_hits; done)
  | (refine xnm 1 rfl ?_ rfl (by decide) (by decide); keq_hits; done)
  | (refine xnm 2 rfl ?_ rfl (by decide) (by decide); keq_hits; done)
  | (refine xnm 3 rfl ?_ rfl (by decide) (by decide); keq_hits; done)
  | (refine xnm 4 rfl ?_ rfl (by decide) (by decide); keq_hits; done)
  | (refine xnm 5 rfl ?_ rfl (by decide) (by decide); keq_hits; done)
  | (refine xnm 6 rfl ?_ rfl (by decide) (by decide); keq_hits; done)
  | (refine xnm 7 rfl ?_ rfl (by decide) (by decide); keq_hits; done)
  | (refine xnm 8 rfl ?_ rfl (by decide) (by decide); keq_hits; done)
  | (refine xnm 9 rfl ?_ rfl (by decide) (by decide); keq_hits; done)
  | (refine xnm 10 rfl ?_ rfl (by decide) (by decide); keq_hits; done)
  | (refine xnm 11 rfl ?_ rfl (by decide) (by decide); keq_hits; done)
  | (refine xnm 12 rfl ?_ rfl (by decide) (by decide); keq_hits; done)
  | (refine xnm 13 rfl ?_ rfl (by decide) (by decide); keq_hits; done)
  | (refine xnm 14 rfl ?_ rfl (by decide) (by decide); keq_hits; done)
  | (refine xnm 15 rfl ?_ rfl (by decide) (by decide); keq_hits; done)
  | (refine xnm 16 rfl ?_ rfl (by decide) (by decide); keq_hits; done)
  | (refine xnm 17 rfl ?_ rfl (by decide) (by decide); keq_hits; done)
  | (refine xnm 18 rfl ?_ rfl (by decide) (by decide); keq_hits; done)
  | (refine xnm 19 rfl ?_ rfl (by decide) (by decide); keq_hits; done)
  | (refine xnm 20 rfl ?_ rfl (by decide) (by decide); keq_hits; done)
  | (refine xnm 21 rfl ?_ rfl (by decide) (by decide); keq_hits; done)
  | (refine xnm 22 rfl ?_ rfl (by decide) (by decide); keq_hits; done)
  | (refine xnm 23 rfl ?_ rfl (by decide) (by decide); keq_hits; done)))
local macro_rules | `(tactic| kas_types) => `(tactic| fail)
local macro_rules | `(tactic| kpf_c) => `(tactic| fail)
local macro_rules | `(tactic| lcg_off) => `(tactic| first
  | exact xe_int | exact xe_str | exact xe_non | exact xe_bl | keq_rows
  | apply xe_op | apply (xe_ix (hs := fun _ _ => rfl)) 
  | apply (xe_cmp (hm := nomark _)) | apply (xt_cmp (hm := nomark _)) | apply (xe_chain0 (hm := by with_unfolding_all rfl))
  | apply xe_not | apply xt_not | apply xe_un
  | apply xe_one | apply xe_and0 | apply xe_or0
  | (apply xt_w; first | apply xw_and0 | apply xw_or0) | apply xw_and0 | apply xw_or0 | apply xw_and1 | apply xw_or1
  | apply (xt_val (he := by intro _; rfl))
  | exact xa_nil | apply (xa_one (hs := rfl)) | apply (xa_cons (hs := rfl))
  | kpf_c
  | exact opd_add | exact opd_sub | exact opd_sub_bb | apply opd_mul | apply opd_mod | apply opd_div
  | exact opd_lt | exact opd_le | exact opd_gt | exact opd_ge | exact opd_eqI | exact opd_neI | exact opd_eqB | exact opd_neB | exact opd_eqS | exact opd_neS | exact und_neg
  | exact ixd_t0 | exact ixd_t1 | exact ixd_t2
  | exact cd_min2 rfl | exact cd_max2 rfl | exact cd_len | exact cd_lenT | exact cd_int | exact cd_abs | exact cd_list
  | kas_types)
local macro_rules | `(tactic| lcg_sub) => `(tactic| repeat' lcg_off)
abbrev sCell : Stmt := topS 19
abbrev sNums : Stmt := topS 20
abbrev sPool : Stmt := topS 21
abbrev sDraw : Stmt := topS 22
abbrev sKind : Stmt := topS 23
abbrev sEqual : Stmt := topS 24
abbrev sAngle : Stmt := topS 25
abbrev sPoint : Stmt := topS 26
abbrev sPoints : Stmt := topS 27
abbrev sLHull : Stmt := topS 28
abbrev sLCross : Stmt := topS 29
abbrev sLaw : Stmt := topS 30
local macro_rules | `(tactic| kas_types) => `(tactic| first
  | (apply xe_bi (n := "min"); rfl; exact Fx.min (by assumption); exact bt_min; exact hn_min; rfl; rfl)
  | (apply xe_bi (n := "max"); rfl; exact Fx.max (by assumption); exact bt_max; exact hn_max; rfl; rfl)
  | (apply xe_bi (n := "len"); rfl; exact Fx.len (by assumption); exact bt_len; exact hn_len; rfl; rfl))
/-- more of the top -/
structure Fy (mg : Str → Option Value) : Prop where
  int : mg "int" = none
  list : mg "list" = none
  isi : mg "isinstance" = none
  bool : mg "bool" = none
  str : mg "str" = none
  tuple : mg "tuple" = none
local macro_rules | `(tactic| kas_types) => `(tactic| first
  | (apply xe_ty (n := "int"); rfl; exact Fy.int (by assumption); exact bt_int; exact hn_int; rfl; rfl)
  | (apply xe_ty (n := "list"); rfl; exact Fy.list (by assumption); exact bt_list; exact hn_list; rfl; rfl))
section
variable {P : Program} {w : World} {K : PySem.W.Frag} {mg : Str → Option Value} {base : Heap}
/-! ### _law_cell -/
def cellV (ns : List Int) (k : Nat) : Int := ns.getD k 0
abbrev spCell (K : PySem.W.Frag) : Sp := SpS K (fun x : List Int × Nat => x.1) (fun x => [.int (x.2 : Nat)]) (fun _ => True) (fun x => .int (cellV x.1 x.2))
theorem scCell : FnScope ["script", "k"] ["script", "k"] (defScope sCell) := ⟨rfl, rfl, rfl, by decide +kernel, rfl, by decide +kernel, by decide +kernel⟩
theorem ok_cell (D : DefAt K mg "_law_cell" sCell) (T : Fx mg) : Cal P w K mg base CX0 "_law_cell" 1 ["script", "k"] (spCell K) := by
  refine cal_mkS 0 D scCell (fun _ _ _ _ _ _ us hl => match us, hl with | [_, _], _ => rfl) (fun _ => rfl) (by decide) (fun f cdv A outer s H E c x hr hp => ?_)
  obtain ⟨ns, k⟩ := x
  dsimp only at *
  apply xb_cons
  apply xs_if (k := decide (((k : Nat) : Int) < (ns.length : Nat))) (ds1 := [some (.scr ns), some (.d (.int (k : Nat)))])
  · apply (xt_cmp (hm := nomark _))
    · lcg_sub
    · exact xe_lenScr 0 rfl rfl (.inl rfl) T.len rfl (by decide) (by decide) rfl
    · exact opd_lt
  · intro h
    have hk : k < ns.length := by
      have := of_decide_eq_true h
      omega
    apply xb_one
    apply xs_ret
    · refine xe_ixScr 0 (j := k) (m := cellV ns k) rfl rfl (.inl rfl) ?_ ?_
      · lcg_sub
      · unfold cellV
        rw [List.getD_eq_getElem?_getD, List.getElem?_eq_getElem hk]
        rfl
    · rfl
  · intro h
    have hk : ¬ k < ns.length := by
      have := of_decide_eq_false h
      omega
    apply xb_nil
    apply xb_one
    apply xs_ret
    · lcg_sub
    · show PyData.int 0 = .int (cellV ns k)
      unfold cellV
      rw [List.getD_eq_getElem?_getD, List.getElem?_eq_none (by omega)]
      rfl
/-! ### _law_numbers -/
def mix1 (cell : Int) (k : Nat) : Int := (cell * 69621 + ((k : Nat) + 1) * 48271) % 2147483647
def mix2 (cell : Int) (k : Nat) : Int := (mix1 cell k * mix1 cell k + mix1 cell k * 16807 + (k : Nat) * 7919) % 2147483629
def mix3 (cell : Int) (k : Nat) : Int := (mix2 cell k * mix2 cell k + cell + 17 * (k : Nat)) % 2147483587
def numStep (cell : Int) (k : Nat) (left : Int) : Int × Int := if 10 ^ 18 ≤ cell ∧ 0 < left then (left % 4099, left / 4099) else (mix3 cell k / 5 % 4099, left)
def numsSt (cell : Int) : Nat → List Int × Int
  | 0 => ([], cell)
  | k + 1 => ((numsSt cell k).1 ++ [(numStep cell k (numsSt cell k).2).1], (numStep cell k (numsSt cell k).2).2)
@[irreducible] def numsV (cell : Int) (many : Nat) : List Int := (numsSt cell many).1
theorem numsSt_len (cell : Int) : ∀ k, (numsSt cell k).1.length = k
  | 0 => rfl
  | k + 1 => by
    show ((numsSt cell k).1 ++ [_]).length = k + 1
    rw [List.length_append, numsSt_len cell k]
    rfl
theorem numsV_len (cell : Int) (many : Nat) : (numsV cell many).length = many := by
  unfold numsV
  exact numsSt_len cell many
abbrev spNums (K : PySem.W.Frag) : Sp := SpD K (fun x : Int × Nat => [.int x.1, .int (x.2 : Nat)]) (fun x => x.2 ≤ 1000) (fun x => .list ((numsV x.1 x.2).map PyData.int))
abbrev nNums : List Str := ["cell", "many", "rows", "left", "k", "mixed"]
theorem scNums : FnScope nNums ["cell", "many"] (defScope sNums) := ⟨rfl, rfl, rfl, by decide +kernel, rfl, by decide +kernel, by decide +kernel⟩
theorem ok_nums (D : DefAt K mg "_law_numbers" sNums) (T : Fx mg) (T2 : Fy mg) : Cal P w K mg base CX0 "_law_numbers" 1 ["cell", "many"] (spNums K) := by
  refine cal_mk 0 D scNums (fun _ _ _ _ _ _ us hl => match us, hl with | [_, _], _ => rfl) (fun _ => rfl) (by decide) (fun f cdv A outer s H E c x hr hp => ?_)
  obtain ⟨cell, many⟩ := x
  dsimp only at *
  apply xb_cons
  apply xs_setOwn 2 scNums.nd rfl (.inl rfl)
  · exact xa_nil
  · exact Nat.zero_le _
  apply xb_cons
  apply xs_set 3 scNums.nd rfl (.inl rfl)
  · lcg_sub
  apply xb_cons
  refine xs_for .never rfl (xs := rngD 0 many) (ds1 := [some (.d (.int cell)), some (.d (.int (many : Nat))), some (.own []), some (.d (.int cell)), none, none]) ?_
    (fun i ds => ∃ a b, ds = [some (.d (.int cell)), some (.d (.int (many : Nat))), some (.own ((numsSt cell i).1.map PyData.int)), some (.d (.int (numsSt cell i).2)), a, b]) ⟨_, _, rfl⟩ (fun i x ds hx hJ => ?_) (fun ds hJ => ?_)
  · have e : many = ((many : Nat) : Int).toNat := rfl
    rw [e]
    apply xi_range1
    · rfl
    · exact T.range
    · lcg_sub
    · omega
    · omega
    · rfl
  · obtain ⟨hi, rfl⟩ := rngD_at hx
    rw [Int.zero_add]
    obtain ⟨a, b, rfl⟩ := hJ
    have hln := numsSt_len cell i
    generalize hL : numsSt cell i = L at *
    refine ⟨_, _, xg_name 4 scNums.nd rfl (.inl rfl), ?_⟩
    apply xb_one
    apply xs_if (k := decide (10 ^ 18 ≤ cell) && decide (0 < L.2)) (ds1 := [some (.d (.int cell)), some (.d (.int (many : Nat))), some (.own (L.1.map PyData.int)), some (.d (.int L.2)), some (.d (.int (i : Nat))), b])
    · apply xt_w
      apply xw_and0
      · apply (xt_cmp (hm := nomark _))
        · lcg_sub
        · apply xe_op
          · lcg_sub
          · lcg_sub
          · exact opd_pow ⟨by decide, by decide, by decide⟩
        · exact opd_ge
      · lcg_sub
    · intro h
      rw [Bool.and_eq_true] at h
      have h1 := of_decide_eq_true h.1
      have h2 := of_decide_eq_true h.2
      apply xb_cons
      refine xs_append 2 (xs := L.1.map PyData.int) (x := .int (L.2 % 4099)) (ds1 := [some (.d (.int cell)), some (.d (.int (many : Nat))), some (.own (L.1.map PyData.int)), some (.d (.int L.2)), some (.d (.int (i : Nat))), b]) rfl ⟨_, rfl⟩ rfl (.inl rfl) ?_ ?_ ?_
      · lcg_sub
        all_goals decide
      · rw [List.length_map]
        exact small1000 (by omega)
      apply xb_one
      apply xs_set 3 scNums.nd rfl (.inl rfl)
      · apply xe_op
        · lcg_sub
        · lcg_sub
        · exact opd_divC ⟨by decide, by decide⟩
      · refine ⟨some (.d (.int (i : Nat))), b, ?_⟩
        show [_, _, _, _, _, _] = [_, _, some (Sl.own (((numsSt cell (i+1)).1).map PyData.int)), some (Sl.d (.int (numsSt cell (i+1)).2)), _, _]
        have e : numsSt cell (i + 1) = (L.1 ++ [L.2 % 4099], L.2 / 4099) := by
          show ((numsSt cell i).1 ++ [(numStep cell i (numsSt cell i).2).1], (numStep cell i (numsSt cell i).2).2) = _
          rw [hL]
          unfold numStep
          rw [if_pos ⟨h1, h2⟩]
        rw [e, List.map_append]
        rfl
    · intro h
      have hn : ¬ (10 ^ 18 ≤ cell ∧ 0 < L.2) := fun z => by
        rw [decide_eq_true z.1, decide_eq_true z.2] at h
        cases h
      have m1 : 0 ≤ mix1 cell i ∧ mix1 cell i < 2147483647 := ⟨Int.emod_nonneg _ (by decide), Int.emod_lt_of_pos _ (by decide)⟩
      have m2 : 0 ≤ mix2 cell i ∧ mix2 cell i < 2147483629 := ⟨Int.emod_nonneg _ (by decide), Int.emod_lt_of_pos _ (by decide)⟩
      apply xb_cons
      apply xs_set 5 scNums.nd rfl (.inl rfl) (x := .int (mix1 cell i))
      · apply xe_op
        · apply xe_ty (n := "int")
          · rfl
          · exact T2.int
          · exact bt_int
          · exact hn_int
          · rfl
          · rfl
          · apply (xa_one (hs := rfl))
            apply xe_op
            · apply xe_op
              · lcg_sub
              · lcg_sub
              · exact opd_mulC (.inr ⟨by decide, by decide⟩)
            · apply xe_op
              · lcg_sub
              · lcg_sub
              · exact opd_mulC (.inr ⟨by decide, by decide⟩)
            · exact opd_add
          · exact cd_int
        · lcg_sub
        · exact opd_mod (by decide)
      apply xb_cons
      apply xs_set 5 scNums.nd rfl (.inl rfl) (x := .int (mix2 cell i))
      · apply xe_op
        · apply xe_ty (n := "int")
          · rfl
          · exact T2.int
          · exact bt_int
          · exact hn_int
          · rfl
          · rfl
          · apply (xa_one (hs := rfl))
            apply xe_op
            · apply xe_op
              · apply xe_op
                · lcg_sub
                · lcg_sub
                · exact opd_mulC (.inr ⟨by omega, by omega⟩)
              · apply xe_op
                · lcg_sub
                · lcg_sub
                · exact opd_mulC (.inr ⟨by decide, by decide⟩)
              · exact opd_add
            · apply xe_op
              · lcg_sub
              · lcg_sub
              · exact opd_mulC (.inr ⟨by decide, by decide⟩)
            · exact opd_add
          · exact cd_int
        · lcg_sub
        · exact opd_mod (by decide)
      apply xb_cons
      apply xs_set 5 scNums.nd rfl (.inl rfl) (x := .int (mix3 cell i))
      · apply xe_op
        · apply xe_ty (n := "int")
          · rfl
          · exact T2.int
          · exact bt_int
          · exact hn_int
          · rfl
          · rfl
          · apply (xa_one (hs := rfl))
            apply xe_op
            · apply xe_op
              · apply xe_op
                · lcg_sub
                · lcg_sub
                · exact opd_mulC (.inr ⟨by omega, by omega⟩)
              · lcg_sub
              · exact opd_add
            · apply xe_op
              · lcg_sub
              · lcg_sub
              · exact opd_mulC (.inl ⟨by decide, by decide⟩)
            · exact opd_add
          · exact cd_int
        · lcg_sub
        · exact opd_mod (by decide)
      apply xb_one
      refine xs_append 2 (xs := L.1.map PyData.int) (x := .int (mix3 cell i / 5 % 4099)) (ds1 := [some (.d (.int cell)), some (.d (.int (many : Nat))), some (.own (L.1.map PyData.int)), some (.d (.int L.2)), some (.d (.int (i : Nat))), some (.d (.int (mix3 cell i)))]) rfl ⟨_, rfl⟩ rfl (.inl rfl) ?_ ?_ ?_
      · apply xe_op
        · apply xe_op
          · lcg_sub
          · lcg_sub
          · exact opd_divC ⟨by decide, by decide⟩
        · lcg_sub
        · exact opd_mod (by decide)
      · rw [List.length_map]
        exact small1000 (by omega)
      · refine ⟨some (.d (.int (i : Nat))), some (.d (.int (mix3 cell i))), ?_⟩
        show [_, _, _, _, _, _] = [_, _, some (Sl.own (((numsSt cell (i+1)).1).map PyData.int)), some (Sl.d (.int (numsSt cell (i+1)).2)), _, _]
        have e : numsSt cell (i + 1) = (L.1 ++ [mix3 cell i / 5 % 4099], L.2) := by
          show ((numsSt cell i).1 ++ [(numStep cell i (numsSt cell i).2).1], (numStep cell i (numsSt cell i).2).2) = _
          rw [hL]
          unfold numStep
          rw [if_neg hn]
        rw [e, List.map_append]
        rfl
  · obtain ⟨a, b, rfl⟩ := hJ
    rw [rngD_len]
    apply xb_one
    apply xs_ret (x := .list ((numsV cell many).map PyData.int))
    · unfold numsV
      exact xe_frz 2 rfl rfl rfl (.inl rfl)
    · rfl
/-! ### _law_pool -/
theorem call_nums {X : Cx} {c : Dt.Ctx} {ds ds1 : Ds} {e : Expr} {es : List Expr} {p pos : Pos} {k : Nat} {a : Int} (C : Cal X.prog X.w X.K X.mg X.base CX0 "_law_numbers" 1 ["cell", "many"] (spNums X.K)) (hr : Room k X.A) (hk : 1 ≤ k)
    (hg : Gl X "_law_numbers") (he : starEach (e :: es) X.env = (false, eval e X.env) :: starEach es X.env) (hpl : (backTo pos (starEach es X.env)).any (·.1) = false) (h : XA X c (e :: es) ds [.int a, .int 24] ds1) : XE X c (.Call (.Name "_law_numbers" p) (e :: es) [] pos) ds (.list ((numsV a 24).map PyData.int)) ds1 :=
  xe_call C (hr.mono hk) (a, 24) h (show (24 : Nat) ≤ 1000 by decide) hg (by decide) he hpl
theorem call_cell (i : Nat) {X : Cx} {c : Dt.Ctx} {ds ds1 : Ds} {pn : Str} {npos p pos : Pos} {es : List Expr} {k j : Nat} {ns : List Int} (C : Cal X.prog X.w X.K X.mg X.base CX0 "_law_cell" 1 ["script", "k"] (spCell X.K)) (hr : Room k X.A) (hk : 1 ≤ k)
    (hg : Gl X "_law_cell") (he : starEach (.Name pn npos :: es) X.env = (false, eval (.Name pn npos) X.env) :: starEach es X.env) (hpl : (backTo pos (starEach es X.env)).any (·.1) = false) (hd : ds[i]? = some (some (.scr ns))) (hN : X.N[i]? = some pn) (hv : Vis X.env.scope pn) (h1 : (pn == ("__debug__" : Str)) = false) (h2 : (pn == ("__classdict__" : Str)) = false)
    (h : XA X c es ds [.int (j : Nat)] ds1) : XE X c (.Call (.Name "_law_cell" p) (.Name pn npos :: es) [] pos) ds (.int (cellV ns j)) ds1 :=
  xe_callS i C (hr.mono hk) (ns, j) hd hN hv h trivial hg h1 h2 (by decide) he hpl
def poolN (ns : List Int) : Nat → List Int
  | 0 => []
  | k + 1 => poolN ns k ++ numsV (cellV ns k + 11 * (k : Nat)) 24
theorem poolN_len (ns : List Int) : ∀ k, (poolN ns k).length = 24 * k
  | 0 => rfl
  | k + 1 => by
    show (poolN ns k ++ numsV _ 24).length = _
    rw [List.length_append, poolN_len ns k, numsV_len]
    omega
def rowsN (ns : List Int) : Nat := min 6 (max 1 ns.length)
def poolV (ns : List Int) : List Int := poolN ns (rowsN ns)
theorem poolV_len (ns : List Int) : 24 ≤ (poolV ns).length ∧ (poolV ns).length ≤ 144 := by
  unfold poolV
  rw [poolN_len]
  unfold rowsN
  omega
theorem mx_n (n : Nat) : mx 1 ((n : Nat) : Int) = ((max 1 n : Nat) : Int) := by
  unfold mx
  by_cases h : ((n : Nat) : Int) > 1
  · rw [if_pos h]
    omega
  · rw [if_neg h]
    omega
theorem mn_n (n : Nat) : mn 6 ((n : Nat) : Int) = ((min 6 n : Nat) : Int) := by
  unfold mn
  by_cases h : ((n : Nat) : Int) < 6
  · rw [if_pos h]
    omega
  · rw [if_neg h]
    omega
theorem rows_i (ns : List Int) : mn 6 (mx 1 ((ns.length : Nat) : Int)) = ((rowsN ns : Nat) : Int) := by
  rw [mx_n, mn_n]
  rfl
theorem rowsN_le (ns : List Int) : rowsN ns ≤ 6 := by
  unfold rowsN
  omega
abbrev spPool (K : PySem.W.Frag) : Sp := SpS K (fun ns : List Int => ns) (fun _ => []) (fun ns => ns.length ≤ 63) (fun ns => .list [.list ((poolV ns).map PyData.int), .list [.int 0]])
theorem scPool : FnScope ["script", "rows", "k"] ["script"] (defScope sPool) := ⟨rfl, rfl, rfl, by decide +kernel, rfl, by decide +kernel, by decide +kernel⟩
local macro_rules | `(tactic| kas_types) => `(tactic| (apply call_nums; assumption; assumption; decide; rfl; rfl; rfl))
theorem ok_pool (D : DefAt K mg "_law_pool" sPool) (T : Fx mg) (C1 : Cal P w K mg base CX0 "_law_cell" 1 ["script", "k"] (spCell K)) (C2 : Cal P w K mg base CX0 "_law_numbers" 1 ["cell", "many"] (spNums K)) : Cal P w K mg base CX0 "_law_pool" 2 ["script"] (spPool K) := by
  refine cal_mkS 1 D scPool (fun _ _ _ _ _ _ us hl => match us, hl with | [_], _ => rfl) (fun _ => rfl) (by decide) (fun f cdv A outer s H E c ns hr hp => ?_)
  apply xb_cons
  apply xs_set 1 scPool.nd rfl (.inl rfl) (x := .list [])
  · exact xe_lst xa_nil (Nat.zero_le _)
  apply xb_cons
  refine xs_for .never rfl (xs := rngD 0 (rowsN ns)) (ds1 := [some (.scr ns), some (.d (.list [])), none]) ?_
    (fun i ds => ∃ a, ds = [some (.scr ns), some (.d (.list ((poolN ns i).map PyData.int))), a]) ⟨_, rfl⟩ (fun i x ds hx hJ => ?_) (fun ds hJ => ?_)
  · have e : rowsN ns = (mn 6 (mx 1 ((ns.length : Nat) : Int))).toNat := by
      rw [rows_i]
      rfl
    rw [e]
    apply xi_range1
    · rfl
    · exact T.range
    · apply xe_bi (n := "min")
      · rfl
      · exact T.min
      · exact bt_min
      · exact hn_min
      · rfl
      · rfl
      · apply (xa_cons (hs := rfl))
        · lcg_sub
        · apply (xa_one (hs := rfl))
          apply xe_bi (n := "max")
          · rfl
          · exact T.max
          · exact bt_max
          · exact hn_max
          · rfl
          · rfl
          · apply (xa_cons (hs := rfl))
            · lcg_sub
            · apply (xa_one (hs := rfl))
              exact xe_lenScr 0 rfl rfl (.inl rfl) T.len rfl (by decide) (by decide) rfl
          · exact cd_max2 rfl
      · exact cd_min2 rfl
    · have h1 := rows_i ns
      have h2 := rowsN_le ns
      generalize mn 6 (mx 1 ((ns.length : Nat) : Int)) = m at *
      omega
    · have h1 := rows_i ns
      have h2 := rowsN_le ns
      generalize mn 6 (mx 1 ((ns.length : Nat) : Int)) = m at *
      omega
    · rfl
  · obtain ⟨hi, rfl⟩ := rngD_at hx
    rw [Int.zero_add]
    obtain ⟨a, rfl⟩ := hJ
    have hi6 : i < 6 := Nat.lt_of_lt_of_le hi (rowsN_le ns)
    refine ⟨_, _, xg_name 2 scPool.nd rfl (.inl rfl), ?_⟩
    apply xb_one
    apply xs_set 1 scPool.nd rfl (.inl rfl) (x := .list ((poolN ns (i + 1)).map PyData.int)) (ds1 := [some (.scr ns), some (.d (.list ((poolN ns i).map PyData.int))), some (.d (.int (i : Nat)))])
    · show XE _ _ _ _ (.list ((poolN ns i ++ numsV (cellV ns i + 11 * (i : Nat)) 24).map PyData.int)) _
      rw [List.map_append]
      apply xe_op
      · lcg_sub
      · apply call_nums (a := cellV ns i + 11 * ((i : Nat) : Int))
        · exact C2
        · assumption
        · decide
        · rfl
        · rfl
        · rfl
        · apply (xa_cons (hs := rfl))
          · apply xe_op (x := .int (cellV ns i)) (y := .int (11 * ((i : Nat) : Int)))
            · apply call_cell 0 C1 hr (by decide)
              · rfl
              · rfl
              · rfl
              · rfl
              · rfl
              · exact .inl rfl
              · decide
              · decide
              · lcg_sub
            · lcg_sub
              all_goals exact wide_mul (a := 65) (b := 65) (by omega) (by omega) (by decide) (by decide) (by decide)
            · exact opd_add
          · lcg_sub
      · apply opd_cat
        rw [List.length_map, List.length_map, poolN_len, numsV_len]
        exact sizeL (by omega)
    · exact ⟨_, rfl⟩
  · obtain ⟨a, rfl⟩ := hJ
    rw [rngD_len]
    apply xb_one
    apply xs_ret
    · apply xe_lst (xs := [.list ((poolV ns).map PyData.int), .list [.int 0]])
      · apply (xa_cons (hs := rfl))
        · unfold poolV
          lcg_sub
        · apply (xa_one (hs := rfl))
          apply xe_lst (xs := [.int 0])
          · lcg_sub
          · show 1 ≤ sizeLine
            decide
      · show 2 ≤ sizeLine
        decide
    · rfl
/-! ### _law_draw -/
def drawV (rows : List Int) (at_ many : Int) : Int := (rows.getD (at_ % (rows.length : Nat)).toNat 0 + at_ / (rows.length : Nat) * 1013 + at_ / (rows.length : Nat) * at_ * 7) % many
theorem drawV_bd {rows : List Int} {p many : Int} (h : 0 < many) : 0 ≤ drawV rows p many ∧ drawV rows p many < many := ⟨Int.emod_nonneg _ (by omega), Int.emod_lt_of_pos _ h⟩
abbrev okR (rows : List Int) : Prop := 24 ≤ rows.length ∧ rows.length ≤ 144
abbrev okQ (p : Int) : Prop := 0 ≤ p ∧ p < 1000000
theorem at_ints {rows : List Int} {j : Nat} (h : j < rows.length) : atI (rows.map PyData.int) ((j : Nat) : Int) = some (.int (rows.getD j 0)) := by
  refine atI_nat ?_
  rw [List.getElem?_map, List.getD_eq_getElem?_getD, List.getElem?_eq_getElem h]
  rfl
abbrev spDraw (K : PySem.W.Frag) : Sp := SpP K (fun x : List Int × Int × Int => x.1) (fun x => x.2.1) (fun x => [.int x.2.2]) (fun x => okR x.1 ∧ okQ x.2.1 ∧ 0 < x.2.2) (fun x => .int (drawV x.1 x.2.1 x.2.2)) (fun x => x.2.1 + 1)
theorem scDraw : FnScope ["pool", "many", "at", "turn"] ["pool", "many"] (defScope sDraw) := ⟨rfl, rfl, rfl, by decide +kernel, rfl, by decide +kernel, by decide +kernel⟩
theorem ok_draw (D : DefAt K mg "_law_draw" sDraw) (T : Fx mg) (T2 : Fy mg) : Cal P w K mg base CX0 "_law_draw" 1 ["pool", "many"] (spDraw K) := by
  refine cal_mkP 0 D scDraw (fun _ _ _ _ _ _ us hl => match us, hl with | [_, _], _ => rfl) (fun _ => rfl) (by decide) (fun f cdv A outer s H E c x hr hp => ?_)
  obtain ⟨rows, p, many⟩ := x
  obtain ⟨⟨r1, r2⟩, ⟨p1, p2⟩, hm⟩ := hp
  dsimp only at *
  have ed : p / ((rows.length : Nat) : Int) ≤ p := Int.ediv_le_self _ p1
  have ed0 : 0 ≤ p / ((rows.length : Nat) : Int) := Int.ediv_nonneg p1 (by omega)
  have em0 : 0 ≤ p % ((rows.length : Nat) : Int) := Int.emod_nonneg _ (by omega)
  have em1 : p % ((rows.length : Nat) : Int) < ((rows.length : Nat) : Int) := Int.emod_lt_of_pos _ (by omega)
  have em : atI (rows.map PyData.int) (p % ((rows.length : Nat) : Int)) = some (.int (rows.getD (p % ((rows.length : Nat) : Int)).toNat 0)) := by
    have e : (((p % ((rows.length : Nat) : Int)).toNat : Nat) : Int) = p % ((rows.length : Nat) : Int) := by omega
    have g := at_ints (rows := rows) (j := (p % ((rows.length : Nat) : Int)).toNat) (by omega)
    rw [e] at g
    exact g
  apply xb_cons
  apply xs_set 2 scDraw.nd rfl (.inl rfl) (x := .int p)
  · exact xe_poolPos 0 (rows := rows) rfl rfl (.inl rfl)
  apply xb_cons
  refine xs_poolSet 0 (rows := rows) (po := p) (j := p + 1) (ds1 := [some (.pool rows p), some (.d (.int many)), some (.d (.int p)), none]) rfl rfl (.inl rfl) ?_ ?_
  · lcg_sub
  apply xb_cons
  apply xs_set 3 scDraw.nd rfl (.inl rfl) (x := .int (p / ((rows.length : Nat) : Int))) (ds1 := [some (.pool rows (p + 1)), some (.d (.int many)), some (.d (.int p)), none])
  · apply xe_op
    · lcg_sub
    · apply xe_bi (n := "len")
      · rfl
      · exact T.len
      · exact bt_len
      · exact hn_len
      · rfl
      · rfl
      · apply (xa_one (hs := rfl))
        exact xe_poolRows 0 (po := p + 1) (rows := rows) rfl rfl (.inl rfl)
      · exact cd_len
    · rw [List.length_map]
      exact opd_divC ⟨by omega, by omega⟩
  apply xb_one
  apply xs_ret (x := .int (drawV rows p many)) (ds1 := [some (.pool rows (p + 1)), some (.d (.int many)), some (.d (.int p)), some (.d (.int (p / ((rows.length : Nat) : Int))))])
  · apply xe_op
    · apply xe_ty (n := "int")
      · rfl
      · exact T2.int
      · exact bt_int
      · exact hn_int
      · rfl
      · rfl
      · apply (xa_one (hs := rfl))
        apply xe_op
        · apply xe_op
          · apply (xe_ix (hs := fun _ _ => rfl))
            · exact xe_poolRows 0 (po := p + 1) (rows := rows) rfl rfl (.inl rfl)
            · apply xe_op
              · lcg_sub
              · apply xe_bi (n := "len")
                · rfl
                · exact T.len
                · exact bt_len
                · exact hn_len
                · rfl
                · rfl
                · apply (xa_one (hs := rfl))
                  exact xe_poolRows 0 (po := p + 1) (rows := rows) rfl rfl (.inl rfl)
                · exact cd_len
              · rw [List.length_map]
                exact opd_mod (by omega)
            · exact ixd_lst em
          · apply xe_op
            · lcg_sub
            · lcg_sub
            · exact opd_mulC (.inr ⟨by decide, by decide⟩)
          · exact opd_add
        · apply xe_op
          · apply xe_op
            · lcg_sub
            · lcg_sub
            · exact opd_mulC (.inr ⟨by omega, by omega⟩)
          · lcg_sub
          · exact opd_mulC (.inr ⟨by decide, by decide⟩)
        · exact opd_add
      · exact cd_int
    · lcg_sub
    · exact opd_mod hm
  · exact ⟨rfl, rfl⟩
end
end K81
set_option maxRecDepth 100000
set_option maxHeartbeats 0
namespace K81
open PySem PySem.Spec PyProof.Rows L2 Dt
local macro_rules | `(tactic| keq_hits) => `(tactic| first | exact Or.inl rfl | exact Or.inr (Or.inl rfl) | exact Or.inr (Or.inr rfl))
local macro_rules | `(tactic| keq_rows) => `(tactic| (apply xe_nmX; first
  | (refine xnm 0 rfl ?_ rfl (by decide) (by decide); keq_hits; done)
  | (refine xnm 1 rfl ?_ rfl (by decide) (by decide); keq_hits; done)
  | (refine xnm 2 rfl ?_ rfl (by decide) (by decide); keq_hits; done)
  | (refine xnm 3 rfl ?_ rfl (by decide) (by decide); keq_hits; done)
  | (refine xnm 4 rfl ?_ rfl (by decide) (by decide); keq_hits; done)
  | (refine xnm 5 rfl ?_ rfl (by decide) (by decide); keq_hits; done)
  | (refine xnm 6 rfl ?_ rfl (by decide) (by decide); keq_hits; done)
  | (refine xnm 7 rfl ?_ rfl (by decide) (by decide); keq_hits; done)
  | (refine xnm 8 rfl ?_ rfl (by decide) (by decide); keq_hits; done)
  | (refine xnm 9 rfl ?_ rfl (by decide) (by decide); keq_hits; done)
  | (refine xnm 10 rfl ?_ rfl (by decide) (by decide); keq_hits; done)
  | (refine xnm 11 rfl ?_ rfl (by decide) (by decide); keq_hits; done)
  | (refine xnm 12 rfl ?_ rfl (by decide) (by decide); keq_hits; done)
  | (refine xnm 13 rfl ?_ rfl (by decide) (by decide); keq_hits; done)
  | (refine xnm 14 rfl ?_ rfl (by decide) (by decide); keq_hits; done)
  | (refine xnm 15 rfl ?_ rfl (by decide) (by decide); keq_hits; done)
  | (refine xnm 16 rfl ?_ rfl (by decide) (by decide); keq_hits; done)
  | (refine xnm 17 rfl ?_ rfl (by decide) (by decide); keq_hits; done)
  | (refine xnm 18 rfl ?_ rfl (by decide) (by decide); keq_hits; done)
  | (refine xnm 19 rfl ?_ rfl (by decide) (by decide); keq_hits; done)
  | (refine xnm 20 rfl ?_ rfl (by decide) (by decide); keq_hits; done)
  | (refine xnm 21 rfl ?_ rfl (by decide) (by decide); keq_hits; done)
  | (refine xnm 22 rfl ?_ rfl (by decide) (by decide); keq_hits; done)
  | (refine xnm 23 rfl ?_ rfl (by decide) (by decide); keq_hits; done)))
local macro_rules | `(tactic| kas_types) => `(tactic| fail)
local macro_rules | `(tactic| kpf_c) => `(tactic| fail)
local macro_rules | `(tactic| lcg_off) => `(tactic| first
  | exact xe_int | exact xe_str | exact xe_non | exact xe_bl | keq_rows
  | apply xe_op | apply (xe_ix (hs := fun _ _ => rfl)) 
  | apply (xe_cmp (hm := nomark _)) | apply (xt_cmp (hm := nomark _)) | apply (xe_chain0 (hm := by with_unfolding_all rfl))
  | apply xe_not | apply xt_not | apply xe_un
  | apply xe_one | apply xe_and0 | apply xe_or0
  | (apply xt_w; first | apply xw_and0 | apply xw_or0) | apply xw_and0 | apply xw_or0 | apply xw_and1 | apply xw_or1
  | apply (xt_val (he := by intro _; rfl))
  | exact xa_nil | apply (xa_one (hs := rfl)) | apply (xa_cons (hs := rfl))
  | kpf_c
  | exact opd_add | exact opd_sub | exact opd_sub_bb | apply opd_mul | apply opd_mod | apply opd_div
  | exact opd_lt | exact opd_le | exact opd_gt | exact opd_ge | exact opd_eqI | exact opd_neI | exact opd_eqB | exact opd_neB | exact opd_eqS | exact opd_neS | exact und_neg
  | exact ixd_t0 | exact ixd_t1 | exact ixd_t2
  | exact cd_min2 rfl | exact cd_max2 rfl | exact cd_len | exact cd_lenT | exact cd_int | exact cd_abs | exact cd_list
  | kas_types)
local macro_rules | `(tactic| lcg_sub) => `(tactic| repeat' lcg_off)
section
variable {P : Program} {w : World} {K : PySem.W.Frag} {mg : Str → Option Value} {base : Heap}
/-! ### _law_kind -/
theorem bt_bool : bootBuiltins "bool" = some (.type "bool") := by decide +kernel
theorem bt_str : bootBuiltins "str" = some (.type "str") := by decide +kernel
theorem bt_tuple : bootBuiltins "tuple" = some (.type "tuple") := by decide +kernel
def kindD : PyData → Int
  | .bool _ => 1
  | .int _ => 2
  | .str _ => 3
  | .tuple _ => 4
  | .list _ => 5
  | .none => 6
  | _ => 0
abbrev spKind (K : PySem.W.Frag) : Sp := SpD K (fun x : PyData => [x]) (fun x => kindD x ≠ 0) (fun x => .int (kindD x))
theorem scKind : FnScope ["x"] ["x"] (defScope sKind) := ⟨rfl, rfl, rfl, by decide +kernel, rfl, by decide +kernel, by decide +kernel⟩
theorem ok_kind (D : DefAt K mg "_law_kind" sKind) (T2 : Fy mg) : Cal P w K mg base CX0 "_law_kind" 1 ["x"] (spKind K) := by
  refine cal_mk 0 D scKind (fun _ _ _ _ _ _ us hl => match us, hl with | [_], _ => rfl) (fun _ => rfl) (by decide) (fun f cdv A outer s H E c x hr hp => ?_)
  cases x
  case bool =>
    apply xb_cons
    apply xs_if (k := true)
    · apply (xt_val (he := by intro _; rfl))
      apply xe_isi (Tn := "bool") (T := "bool")
      · rfl
      · exact T2.isi
      · rfl
      · exact T2.bool
      · exact bt_bool
      · decide
      · lcg_sub
      · rfl
      · rfl
      · rfl
      · dsimp only [tyN]
        decide +kernel
    · intro _
      apply xb_one
      apply xs_ret
      · lcg_sub
      · rfl
    · intro z
      cases z
  case int =>
    apply xb_cons
    apply xs_if (k := false)
    · apply (xt_val (he := by intro _; rfl))
      apply xe_isi (Tn := "bool") (T := "bool")
      · rfl
      · exact T2.isi
      · rfl
      · exact T2.bool
      · exact bt_bool
      · decide
      · lcg_sub
      · rfl
      · rfl
      · rfl
      · dsimp only [tyN]
        decide +kernel
    · intro z
      cases z
    intro _
    apply xb_nil
    apply xb_cons
    apply xs_if (k := true)
    · apply (xt_val (he := by intro _; rfl))
      apply xe_isi (Tn := "int") (T := "int")
      · rfl
      · exact T2.isi
      · rfl
      · exact T2.int
      · exact bt_int
      · decide
      · lcg_sub
      · rfl
      · rfl
      · rfl
      · dsimp only [tyN]
        decide +kernel
    · intro _
      apply xb_one
      apply xs_ret
      · lcg_sub
      · rfl
    · intro z
      cases z
  case str =>
    apply xb_cons
    apply xs_if (k := false)
    · apply (xt_val (he := by intro _; rfl))
      apply xe_isi (Tn := "bool") (T := "bool")
      · rfl
      · exact T2.isi
      · rfl
      · exact T2.bool
      · exact bt_bool
      · decide
      · lcg_sub
      · rfl
      · rfl
      · rfl
      · dsimp only [tyN]
        decide +kernel
    · intro z
      cases z
    intro _
    apply xb_nil
    apply xb_cons
    apply xs_if (k := false)
    · apply (xt_val (he := by intro _; rfl))
      apply xe_isi (Tn := "int") (T := "int")
      · rfl
      · exact T2.isi
      · rfl
      · exact T2.int
      · exact bt_int
      · decide
      · lcg_sub
      · rfl
      · rfl
      · rfl
      · dsimp only [tyN]
        decide +kernel
    · intro z
      cases z
    intro _
    apply xb_nil
    apply xb_cons
    apply xs_if (k := true)
    · apply (xt_val (he := by intro _; rfl))
      apply xe_isi (Tn := "str") (T := "str")
      · rfl
      · exact T2.isi
      · rfl
      · exact T2.str
      · exact bt_str
      · decide
      · lcg_sub
      · rfl
      · rfl
      · rfl
      · dsimp only [tyN]
        decide +kernel
    · intro _
      apply xb_one
      apply xs_ret
      · lcg_sub
      · rfl
    · intro z
      cases z
  case tuple =>
    apply xb_cons
    apply xs_if (k := false)
    · apply (xt_val (he := by intro _; rfl))
      apply xe_isi (Tn := "bool") (T := "bool")
      · rfl
      · exact T2.isi
      · rfl
      · exact T2.bool
      · exact bt_bool
      · decide
      · lcg_sub
      · rfl
      · rfl
      · rfl
      · dsimp only [tyN]
        decide +kernel
    · intro z
      cases z
    intro _
    apply xb_nil
    apply xb_cons
    apply xs_if (k := false)
    · apply (xt_val (he := by intro _; rfl))
      apply xe_isi (Tn := "int") (T := "int")
      · rfl
      · exact T2.isi
      · rfl
      · exact T2.int
      · exact bt_int
      · decide
      · lcg_sub
      · rfl
      · rfl
      · rfl
      · dsimp only [tyN]
        decide +kernel
    · intro z
      cases z
    intro _
    apply xb_nil
    apply xb_cons
    apply xs_if (k := false)
    · apply (xt_val (he := by intro _; rfl))
      apply xe_isi (Tn := "str") (T := "str")
      · rfl
      · exact T2.isi
      · rfl
      · exact T2.str
      · exact bt_str
      · decide
      · lcg_sub
      · rfl
      · rfl
      · rfl
      · dsimp only [tyN]
        decide +kernel
    · intro z
      cases z
    intro _
    apply xb_nil
    apply xb_cons
    apply xs_if (k := true)
    · apply (xt_val (he := by intro _; rfl))
      apply xe_isi (Tn := "tuple") (T := "tuple")
      · rfl
      · exact T2.isi
      · rfl
      · exact T2.tuple
      · exact bt_tuple
      · decide
      · lcg_sub
      · rfl
      · rfl
      · rfl
      · dsimp only [tyN]
        decide +kernel
    · intro _
      apply xb_one
      apply xs_ret
      · lcg_sub
      · rfl
    · intro z
      cases z
  case list =>
    apply xb_cons
    apply xs_if (k := false)
    · apply (xt_val (he := by intro _; rfl))
      apply xe_isi (Tn := "bool") (T := "bool")
      · rfl
      · exact T2.isi
      · rfl
      · exact T2.bool
      · exact bt_bool
      · decide
      · lcg_sub
      · rfl
      · rfl
      · rfl
      · dsimp only [tyN]
        decide +kernel
    · intro z
      cases z
    intro _
    apply xb_nil
    apply xb_cons
    apply xs_if (k := false)
    · apply (xt_val (he := by intro _; rfl))
      apply xe_isi (Tn := "int") (T := "int")
      · rfl
      · exact T2.isi
      · rfl
      · exact T2.int
      · exact bt_int
      · decide
      · lcg_sub
      · rfl
      · rfl
      · rfl
      · dsimp only [tyN]
        decide +kernel
    · intro z
      cases z
    intro _
    apply xb_nil
    apply xb_cons
    apply xs_if (k := false)
    · apply (xt_val (he := by intro _; rfl))
      apply xe_isi (Tn := "str") (T := "str")
      · rfl
      · exact T2.isi
      · rfl
      · exact T2.str
      · exact bt_str
      · decide
      · lcg_sub
      · rfl
      · rfl
      · rfl
      · dsimp only [tyN]
        decide +kernel
    · intro z
      cases z
    intro _
    apply xb_nil
    apply xb_cons
    apply xs_if (k := false)
    · apply (xt_val (he := by intro _; rfl))
      apply xe_isi (Tn := "tuple") (T := "tuple")
      · rfl
      · exact T2.isi
      · rfl
      · exact T2.tuple
      · exact bt_tuple
      · decide
      · lcg_sub
      · rfl
      · rfl
      · rfl
      · dsimp only [tyN]
        decide +kernel
    · intro z
      cases z
    intro _
    apply xb_nil
    apply xb_cons
    apply xs_if (k := true)
    · apply (xt_val (he := by intro _; rfl))
      apply xe_isi (Tn := "list") (T := "list")
      · rfl
      · exact T2.isi
      · rfl
      · exact T2.list
      · exact bt_list
      · decide
      · lcg_sub
      · rfl
      · rfl
      · rfl
      · dsimp only [tyN]
        decide +kernel
    · intro _
      apply xb_one
      apply xs_ret
      · lcg_sub
      · rfl
    · intro z
      cases z
  case none =>
    apply xb_cons
    apply xs_if (k := false)
    · apply (xt_val (he := by intro _; rfl))
      apply xe_isi (Tn := "bool") (T := "bool")
      · rfl
      · exact T2.isi
      · rfl
      · exact T2.bool
      · exact bt_bool
      · decide
      · lcg_sub
      · rfl
      · rfl
      · rfl
      · dsimp only [tyN]
        decide +kernel
    · intro z
      cases z
    intro _
    apply xb_nil
    apply xb_cons
    apply xs_if (k := false)
    · apply (xt_val (he := by intro _; rfl))
      apply xe_isi (Tn := "int") (T := "int")
      · rfl
      · exact T2.isi
      · rfl
      · exact T2.int
      · exact bt_int
      · decide
      · lcg_sub
      · rfl
      · rfl
      · rfl
      · dsimp only [tyN]
        decide +kernel
    · intro z
      cases z
    intro _
    apply xb_nil
    apply xb_cons
    apply xs_if (k := false)
    · apply (xt_val (he := by intro _; rfl))
      apply xe_isi (Tn := "str") (T := "str")
      · rfl
      · exact T2.isi
      · rfl
      · exact T2.str
      · exact bt_str
      · decide
      · lcg_sub
      · rfl
      · rfl
      · rfl
      · dsimp only [tyN]
        decide +kernel
    · intro z
      cases z
    intro _
    apply xb_nil
    apply xb_cons
    apply xs_if (k := false)
    · apply (xt_val (he := by intro _; rfl))
      apply xe_isi (Tn := "tuple") (T := "tuple")
      · rfl
      · exact T2.isi
      · rfl
      · exact T2.tuple
      · exact bt_tuple
      · decide
      · lcg_sub
      · rfl
      · rfl
      · rfl
      · dsimp only [tyN]
        decide +kernel
    · intro z
      cases z
    intro _
    apply xb_nil
    apply xb_cons
    apply xs_if (k := false)
    · apply (xt_val (he := by intro _; rfl))
      apply xe_isi (Tn := "list") (T := "list")
      · rfl
      · exact T2.isi
      · rfl
      · exact T2.list
      · exact bt_list
      · decide
      · lcg_sub
      · rfl
      · rfl
      · rfl
      · dsimp only [tyN]
        decide +kernel
    · intro z
      cases z
    intro _
    apply xb_nil
    apply xb_cons
    apply xs_if (k := true)
    · apply (xt_cmp (hm := nomark _))
      · lcg_sub
      · lcg_sub
      · exact opd_isN
    · intro _
      apply xb_one
      apply xs_ret
      · lcg_sub
      · rfl
    · intro z
      cases z
  all_goals exact absurd rfl hp
theorem call_kind {X : Cx} {c : Dt.Ctx} {ds ds1 : Ds} {e : Expr} {es : List Expr} {p pos : Pos} {k : Nat} {x : PyData} (C : Cal X.prog X.w X.K X.mg X.base CX0 "_law_kind" 1 ["x"] (spKind X.K)) (hr : Room k X.A) (hk : 1 ≤ k)
    (hg : Gl X "_law_kind") (he : starEach (e :: es) X.env = (false, eval e X.env) :: starEach es X.env) (hpl : (backTo pos (starEach es X.env)).any (·.1) = false) (h : XA X c (e :: es) ds [x] ds1) (hx : kindD x ≠ 0) : XE X c (.Call (.Name "_law_kind" p) (e :: es) [] pos) ds (.int (kindD x)) ds1 :=
  xe_call C (hr.mono hk) x h hx hg (by decide) he hpl
theorem call_equalG {β : Type} [DecidableEq β] {Di : β → PyData} {X : Cx} {c : Dt.Ctx} {ds ds1 : Ds} {e : Expr} {es : List Expr} {p pos : Pos} {k j : Nat} {a b : β} (C : Cal X.prog X.w X.K X.mg X.base CX0 "_law_equal" j ["x", "due"] (SpD X.K (fun p : β × β => [Di p.1, Di p.2]) (fun _ => True) (fun p => .bool (decide (p.1 = p.2))))) (hr : Room k X.A) (hk : j ≤ k)
    (hg : Gl X "_law_equal") (he : starEach (e :: es) X.env = (false, eval e X.env) :: starEach es X.env) (hpl : (backTo pos (starEach es X.env)).any (·.1) = false) (h : XA X c (e :: es) ds [Di a, Di b] ds1) : XE X c (.Call (.Name "_law_equal" p) (e :: es) [] pos) ds (.bool (decide (a = b))) ds1 :=
  xe_call C (hr.mono hk) (a, b) h trivial hg (by decide) he hpl
theorem scEqual : FnScope ["x", "due", "k"] ["x", "due"] (defScope sEqual) := ⟨rfl, rfl, rfl, by decide +kernel, rfl, by decide +kernel, by decide +kernel⟩
theorem ok_equalI (D : DefAt K mg "_law_equal" sEqual) (T2 : Fy mg) (C1 : Cal P w K mg base CX0 "_law_kind" 1 ["x"] (spKind K)) : Cal P w K mg base CX0 "_law_equal" 2 ["x", "due"] (SpD K (fun p : Int × Int => [.int p.1, .int p.2]) (fun _ => True) (fun p => .bool (decide (p.1 = p.2)))) := by
  refine cal_mk 1 D scEqual (fun _ _ _ _ _ _ us hl => match us, hl with | [_, _], _ => rfl) (fun _ => rfl) (by decide) (fun f cdv A outer s H E c x hr hp => ?_)
  obtain ⟨x, y⟩ := x
  dsimp only at *
  apply xb_cons
  apply xs_if (k := false) (ds1 := [some (.d (.int x)), some (.d (.int y)), none])
  · apply xt_to (k := (!decide ((2 : Int) = 2)) || decide ((2 : Int) = 0))
    · apply xt_w
      apply xw_or0
      · apply (xt_cmp (hm := nomark _))
        · apply call_kind (x := .int x) C1 hr (by omega)
          · rfl
          · rfl
          · rfl
          · lcg_sub
          · show (2 : Int) ≠ 0
            decide
        · apply call_kind (x := .int y) C1 hr (by omega)
          · rfl
          · rfl
          · rfl
          · lcg_sub
          · show (2 : Int) ≠ 0
            decide
        · exact opd_neI
      · apply xw_or1
        apply (xt_cmp (hm := nomark _))
        · apply call_kind (x := .int x) C1 hr (by omega)
          · rfl
          · rfl
          · rfl
          · lcg_sub
          · show (2 : Int) ≠ 0
            decide
        · lcg_sub
        · exact opd_eqI
    · decide
  · intro z
    cases z
  intro _
  apply xb_nil
  apply xb_cons
  apply xs_if (k := false) (ds1 := [some (.d (.int x)), some (.d (.int y)), none])
  · apply xt_w
    refine xw_or (k := false) (m := false) (ds1 := [some (.d (.int x)), some (.d (.int y)), none]) (ds2 := [some (.d (.int x)), some (.d (.int y)), none]) ?_ (fun _ => ?_) (fun z => nomatch z)
    · apply (xt_val (he := by intro _; rfl))
      apply xe_isi (Tn := "tuple") (T := "tuple")
      · rfl
      · exact T2.isi
      · rfl
      · exact T2.tuple
      · exact bt_tuple
      · decide
      · lcg_sub
      · rfl
      · rfl
      · rfl
      · dsimp only [tyN]
        decide +kernel
    · apply xw_or1
      · apply (xt_val (he := by intro _; rfl))
        apply xe_isi (Tn := "list") (T := "list")
        · rfl
        · exact T2.isi
        · rfl
        · exact T2.list
        · exact bt_list
        · decide
        · lcg_sub
        · rfl
        · rfl
        · rfl
        · dsimp only [tyN]
          decide +kernel
  · intro z
    cases z
  intro _
  apply xb_nil
  apply xb_one
  apply xs_ret
  · lcg_sub
  · rfl
theorem ok_equalT {β γ : Type} [DecidableEq β] [DecidableEq γ] (Di : β → PyData) (items : γ → List β) (hl : ∀ x, (items x).length ≤ 1000) (hinj : ∀ x y, items x = items y → x = y) (k : Nat) (hk : 1 ≤ k) (D : DefAt K mg "_law_equal" sEqual) (T : Fx mg) (T2 : Fy mg) (C1 : Cal P w K mg base CX0 "_law_kind" 1 ["x"] (spKind K))
    (C2 : Cal P w K mg base CX0 "_law_equal" k ["x", "due"] (SpD K (fun p : β × β => [Di p.1, Di p.2]) (fun _ => True) (fun p => .bool (decide (p.1 = p.2))))) :
    Cal P w K mg base CX0 "_law_equal" (k + 1) ["x", "due"] (SpD K (fun p : γ × γ => [.tuple ((items p.1).map Di), .tuple ((items p.2).map Di)]) (fun _ => True) (fun p => .bool (decide (p.1 = p.2)))) := by
  refine cal_mk k D scEqual (fun _ _ _ _ _ _ us hl => match us, hl with | [_, _], _ => rfl) (fun _ => rfl) (by decide) (fun f cdv A outer s H E c x hr hp => ?_)
  obtain ⟨x, y⟩ := x
  dsimp only at *
  have hlx := hl x
  have hly := hl y
  have hxy := hinj x y
  have hyx : x = y → items x = items y := fun e => by rw [e]
  have hdec : decide (x = y) = decide (items x = items y) := decide_eq_decide.mpr ⟨hyx, hxy⟩
  rw [hdec]
  generalize items x = xs at *
  generalize items y = ys at *
  apply xb_cons
  apply xs_if (k := false) (ds1 := [some (.d (.tuple (xs.map Di))), some (.d (.tuple (ys.map Di))), none])
  · apply xt_to (k := (!decide ((4 : Int) = 4)) || decide ((4 : Int) = 0))
    · apply xt_w
      apply xw_or0
      · apply (xt_cmp (hm := nomark _))
        · apply call_kind (x := .tuple (xs.map Di)) C1 hr (by omega)
          · rfl
          · rfl
          · rfl
          · lcg_sub
          · show (4 : Int) ≠ 0
            decide
        · apply call_kind (x := .tuple (ys.map Di)) C1 hr (by omega)
          · rfl
          · rfl
          · rfl
          · lcg_sub
          · show (4 : Int) ≠ 0
            decide
        · exact opd_neI
      · apply xw_or1
        apply (xt_cmp (hm := nomark _))
        · apply call_kind (x := .tuple (xs.map Di)) C1 hr (by omega)
          · rfl
          · rfl
          · rfl
          · lcg_sub
          · show (4 : Int) ≠ 0
            decide
        · lcg_sub
        · exact opd_eqI
    · decide
  · intro z
    cases z
  intro _
  apply xb_nil
  apply xb_cons
  apply xs_if (k := true) (ds1 := [some (.d (.tuple (xs.map Di))), some (.d (.tuple (ys.map Di))), none])
  · apply xt_w
    refine xw_or (k := true) (m := false) (ds1 := [some (.d (.tuple (xs.map Di))), some (.d (.tuple (ys.map Di))), none]) (ds2 := [some (.d (.tuple (xs.map Di))), some (.d (.tuple (ys.map Di))), none]) ?_ (fun z => nomatch z) (fun _ => rfl)
    · apply (xt_val (he := by intro _; rfl))
      apply xe_isi (Tn := "tuple") (T := "tuple")
      · rfl
      · exact T2.isi
      · rfl
      · exact T2.tuple
      · exact bt_tuple
      · decide
      · lcg_sub
      · rfl
      · rfl
      · rfl
      · dsimp only [tyN]
        decide +kernel
  · intro _
    apply xb_cons
    apply xs_if (k := !decide (((xs.length : Nat) : Int) = (ys.length : Nat))) (ds1 := [some (.d (.tuple (xs.map Di))), some (.d (.tuple (ys.map Di))), none])
    · apply (xt_cmp (hm := nomark _))
      · apply xe_bi (n := "len") (z := .int ((xs.length : Nat) : Int))
        · rfl
        · exact T.len
        · exact bt_len
        · exact hn_len
        · rfl
        · rfl
        · apply (xa_one (hs := rfl))
          lcg_sub
        · have g := cd_lenT (X := (bodyCx CX0 P w K mg base ["x", "due", "k"] "_law_equal" sEqual f cdv A outer s H E).nox) (xs := xs.map Di)
          rw [List.length_map] at g
          exact g
      · apply xe_bi (n := "len") (z := .int ((ys.length : Nat) : Int))
        · rfl
        · exact T.len
        · exact bt_len
        · exact hn_len
        · rfl
        · rfl
        · apply (xa_one (hs := rfl))
          lcg_sub
        · have g := cd_lenT (X := (bodyCx CX0 P w K mg base ["x", "due", "k"] "_law_equal" sEqual f cdv A outer s H E).nox) (xs := ys.map Di)
          rw [List.length_map] at g
          exact g
      · exact opd_neI
    · intro h
      apply xb_one
      apply xs_ret
      · lcg_sub
      · show PyData.bool false = .bool (decide (xs = ys))
        have hne : ¬ xs = ys := fun e => by
          rw [e, decide_eq_true rfl] at h
          cases h
        rw [decide_eq_false hne]
    intro h
    have hlen : xs.length = ys.length := by
      by_cases e : ((xs.length : Nat) : Int) = (ys.length : Nat)
      · omega
      · rw [decide_eq_false e] at h
        cases h
    apply xb_nil
    apply xb_cons
    refine xs_for .never rfl (xs := rngD 0 ys.length) (ds1 := [some (.d (.tuple (xs.map Di))), some (.d (.tuple (ys.map Di))), none]) ?_
      (fun i ds => xs.take i = ys.take i ∧ ∃ a, ds = [some (.d (.tuple (xs.map Di))), some (.d (.tuple (ys.map Di))), a]) ⟨rfl, _, rfl⟩ (fun i x ds hx hJ => ?_) (fun ds hJ => ?_)
    · have e : ys.length = ((ys.length : Nat) : Int).toNat := rfl
      rw [e]
      apply xi_range1
      · rfl
      · exact T.range
      · apply xe_bi (n := "len") (z := .int ((ys.length : Nat) : Int))
        · rfl
        · exact T.len
        · exact bt_len
        · exact hn_len
        · rfl
        · rfl
        · apply (xa_one (hs := rfl))
          lcg_sub
        · have g := cd_lenT (X := (bodyCx CX0 P w K mg base ["x", "due", "k"] "_law_equal" sEqual f cdv A outer s H E).nox) (xs := ys.map Di)
          rw [List.length_map] at g
          exact g
      · omega
      · omega
      · rfl
    · obtain ⟨hi, rfl⟩ := rngD_at hx
      rw [Int.zero_add]
      obtain ⟨ht, a, rfl⟩ := hJ
      have hix : xs[i]? = some xs[i] := List.getElem?_eq_getElem (by omega)
      have hiy : ys[i]? = some ys[i] := List.getElem?_eq_getElem hi
      generalize xs[i] = xi at hix
      generalize ys[i] = yi at hiy
      refine ⟨_, _, xg_name 2 scEqual.nd rfl (.inl rfl), ?_⟩
      apply xb_one
      apply xs_if (k := !decide (xi = yi)) (ds1 := [some (.d (.tuple (xs.map Di))), some (.d (.tuple (ys.map Di))), some (.d (.int (i : Nat)))])
      · apply xt_not
        apply (xt_val (he := by intro _; rfl))
        apply call_equalG (a := xi) (b := yi) (Di := Di) C2 hr (Nat.le_refl _)
        · rfl
        · rfl
        · rfl
        · apply (xa_cons (hs := rfl))
          · apply (xe_ix (hs := fun _ _ => rfl))
            · lcg_sub
            · lcg_sub
            · exact ixd_tup (atI_nat (by rw [List.getElem?_map, hix]; rfl))
          · apply (xa_one (hs := rfl))
            apply (xe_ix (hs := fun _ _ => rfl))
            · lcg_sub
            · lcg_sub
            · exact ixd_tup (atI_nat (by rw [List.getElem?_map, hiy]; rfl))
      · intro h
        apply xb_one
        apply xs_ret
        · lcg_sub
        · show PyData.bool false = .bool (decide (xs = ys))
          have hne : ¬ xs = ys := fun e => by
            rw [e, hiy] at hix
            cases hix
            rw [decide_eq_true rfl] at h
            cases h
          rw [decide_eq_false hne]
      · intro h
        have e : xi = yi := by
          by_cases e : xi = yi
          · exact e
          · rw [decide_eq_false e] at h
            cases h
        apply xb_nil
        refine ⟨?_, _, rfl⟩
        rw [take_succ_at hix, take_succ_at hiy, ht, e]
    · obtain ⟨ht, a, rfl⟩ := hJ
      rw [rngD_len] at ht
      rw [← hlen, List.take_length, hlen, List.take_length] at ht
      apply xb_one
      apply xs_ret
      · lcg_sub
      · show PyData.bool true = .bool (decide (xs = ys))
        rw [decide_eq_true ht]
  · intro z
    cases z
theorem ok_equalL {β γ : Type} [DecidableEq β] [DecidableEq γ] (Di : β → PyData) (items : γ → List β) (hl : ∀ x, (items x).length ≤ 1000) (hinj : ∀ x y, items x = items y → x = y) (k : Nat) (hk : 1 ≤ k) (D : DefAt K mg "_law_equal" sEqual) (T : Fx mg) (T2 : Fy mg) (C1 : Cal P w K mg base CX0 "_law_kind" 1 ["x"] (spKind K))
    (C2 : Cal P w K mg base CX0 "_law_equal" k ["x", "due"] (SpD K (fun p : β × β => [Di p.1, Di p.2]) (fun _ => True) (fun p => .bool (decide (p.1 = p.2))))) :
    Cal P w K mg base CX0 "_law_equal" (k + 1) ["x", "due"] (SpD K (fun p : γ × γ => [.list ((items p.1).map Di), .list ((items p.2).map Di)]) (fun _ => True) (fun p => .bool (decide (p.1 = p.2)))) := by
  refine cal_mk k D scEqual (fun _ _ _ _ _ _ us hl => match us, hl with | [_, _], _ => rfl) (fun _ => rfl) (by decide) (fun f cdv A outer s H E c x hr hp => ?_)
  obtain ⟨x, y⟩ := x
  dsimp only at *
  have hlx := hl x
  have hly := hl y
  have hxy := hinj x y
  have hyx : x = y → items x = items y := fun e => by rw [e]
  have hdec : decide (x = y) = decide (items x = items y) := decide_eq_decide.mpr ⟨hyx, hxy⟩
  rw [hdec]
  generalize items x = xs at *
  generalize items y = ys at *
  apply xb_cons
  apply xs_if (k := false) (ds1 := [some (.d (.list (xs.map Di))), some (.d (.list (ys.map Di))), none])
  · apply xt_to (k := (!decide ((5 : Int) = 5)) || decide ((5 : Int) = 0))
    · apply xt_w
      apply xw_or0
      · apply (xt_cmp (hm := nomark _))
        · apply call_kind (x := .list (xs.map Di)) C1 hr (by omega)
          · rfl
          · rfl
          · rfl
          · lcg_sub
          · show (5 : Int) ≠ 0
            decide
        · apply call_kind (x := .list (ys.map Di)) C1 hr (by omega)
          · rfl
          · rfl
          · rfl
          · lcg_sub
          · show (5 : Int) ≠ 0
            decide
        · exact opd_neI
      · apply xw_or1
        apply (xt_cmp (hm := nomark _))
        · apply call_kind (x := .list (xs.map Di)) C1 hr (by omega)
          · rfl
          · rfl
          · rfl
          · lcg_sub
          · show (5 : Int) ≠ 0
            decide
        · lcg_sub
        · exact opd_eqI
    · decide
  · intro z
    cases z
  intro _
  apply xb_nil
  apply xb_cons
  apply xs_if (k := true) (ds1 := [some (.d (.list (xs.map Di))), some (.d (.list (ys.map Di))), none])
  · apply xt_w
    refine xw_or (k := false) (m := true) (ds1 := [some (.d (.list (xs.map Di))), some (.d (.list (ys.map Di))), none]) (ds2 := [some (.d (.list (xs.map Di))), some (.d (.list (ys.map Di))), none]) ?_ (fun _ => ?_) (fun z => nomatch z)
    · apply (xt_val (he := by intro _; rfl))
      apply xe_isi (Tn := "tuple") (T := "tuple")
      · rfl
      · exact T2.isi
      · rfl
      · exact T2.tuple
      · exact bt_tuple
      · decide
      · lcg_sub
      · rfl
      · rfl
      · rfl
      · dsimp only [tyN]
        decide +kernel
    · apply xw_or1
      · apply (xt_val (he := by intro _; rfl))
        apply xe_isi (Tn := "list") (T := "list")
        · rfl
        · exact T2.isi
        · rfl
        · exact T2.list
        · exact bt_list
        · decide
        · lcg_sub
        · rfl
        · rfl
        · rfl
        · dsimp only [tyN]
          decide +kernel
  · intro _
    apply xb_cons
    apply xs_if (k := !decide (((xs.length : Nat) : Int) = (ys.length : Nat))) (ds1 := [some (.d (.list (xs.map Di))), some (.d (.list (ys.map Di))), none])
    · apply (xt_cmp (hm := nomark _))
      · apply xe_bi (n := "len") (z := .int ((xs.length : Nat) : Int))
        · rfl
        · exact T.len
        · exact bt_len
        · exact hn_len
        · rfl
        · rfl
        · apply (xa_one (hs := rfl))
          lcg_sub
        · have g := cd_len (X := (bodyCx CX0 P w K mg base ["x", "due", "k"] "_law_equal" sEqual f cdv A outer s H E).nox) (xs := xs.map Di)
          rw [List.length_map] at g
          exact g
      · apply xe_bi (n := "len") (z := .int ((ys.length : Nat) : Int))
        · rfl
        · exact T.len
        · exact bt_len
        · exact hn_len
        · rfl
        · rfl
        · apply (xa_one (hs := rfl))
          lcg_sub
        · have g := cd_len (X := (bodyCx CX0 P w K mg base ["x", "due", "k"] "_law_equal" sEqual f cdv A outer s H E).nox) (xs := ys.map Di)
          rw [List.length_map] at g
          exact g
      · exact opd_neI
    · intro h
      apply xb_one
      apply xs_ret
      · lcg_sub
      · show PyData.bool false = .bool (decide (xs = ys))
        have hne : ¬ xs = ys := fun e => by
          rw [e, decide_eq_true rfl] at h
          cases h
        rw [decide_eq_false hne]
    intro h
    have hlen : xs.length = ys.length := by
      by_cases e : ((xs.length : Nat) : Int) = (ys.length : Nat)
      · omega
      · rw [decide_eq_false e] at h
        cases h
    apply xb_nil
    apply xb_cons
    refine xs_for .never rfl (xs := rngD 0 ys.length) (ds1 := [some (.d (.list (xs.map Di))), some (.d (.list (ys.map Di))), none]) ?_
      (fun i ds => xs.take i = ys.take i ∧ ∃ a, ds = [some (.d (.list (xs.map Di))), some (.d (.list (ys.map Di))), a]) ⟨rfl, _, rfl⟩ (fun i x ds hx hJ => ?_) (fun ds hJ => ?_)
    · have e : ys.length = ((ys.length : Nat) : Int).toNat := rfl
      rw [e]
      apply xi_range1
      · rfl
      · exact T.range
      · apply xe_bi (n := "len") (z := .int ((ys.length : Nat) : Int))
        · rfl
        · exact T.len
        · exact bt_len
        · exact hn_len
        · rfl
        · rfl
        · apply (xa_one (hs := rfl))
          lcg_sub
        · have g := cd_len (X := (bodyCx CX0 P w K mg base ["x", "due", "k"] "_law_equal" sEqual f cdv A outer s H E).nox) (xs := ys.map Di)
          rw [List.length_map] at g
          exact g
      · omega
      · omega
      · rfl
    · obtain ⟨hi, rfl⟩ := rngD_at hx
      rw [Int.zero_add]
      obtain ⟨ht, a, rfl⟩ := hJ
      have hix : xs[i]? = some xs[i] := List.getElem?_eq_getElem (by omega)
      have hiy : ys[i]? = some ys[i] := List.getElem?_eq_getElem hi
      generalize xs[i] = xi at hix
      generalize ys[i] = yi at hiy
      refine ⟨_, _, xg_name 2 scEqual.nd rfl (.inl rfl), ?_⟩
      apply xb_one
      apply xs_if (k := !decide (xi = yi)) (ds1 := [some (.d (.list (xs.map Di))), some (.d (.list (ys.map Di))), some (.d (.int (i : Nat)))])
      · apply xt_not
        apply (xt_val (he := by intro _; rfl))
        apply call_equalG (a := xi) (b := yi) (Di := Di) C2 hr (Nat.le_refl _)
        · rfl
        · rfl
        · rfl
        · apply (xa_cons (hs := rfl))
          · apply (xe_ix (hs := fun _ _ => rfl))
            · lcg_sub
            · lcg_sub
            · exact ixd_lst (atI_nat (by rw [List.getElem?_map, hix]; rfl))
          · apply (xa_one (hs := rfl))
            apply (xe_ix (hs := fun _ _ => rfl))
            · lcg_sub
            · lcg_sub
            · exact ixd_lst (atI_nat (by rw [List.getElem?_map, hiy]; rfl))
      · intro h
        apply xb_one
        apply xs_ret
        · lcg_sub
        · show PyData.bool false = .bool (decide (xs = ys))
          have hne : ¬ xs = ys := fun e => by
            rw [e, hiy] at hix
            cases hix
            rw [decide_eq_true rfl] at h
            cases h
          rw [decide_eq_false hne]
      · intro h
        have e : xi = yi := by
          by_cases e : xi = yi
          · exact e
          · rw [decide_eq_false e] at h
            cases h
        apply xb_nil
        refine ⟨?_, _, rfl⟩
        rw [take_succ_at hix, take_succ_at hiy, ht, e]
    · obtain ⟨ht, a, rfl⟩ := hJ
      rw [rngD_len] at ht
      rw [← hlen, List.take_length, hlen, List.take_length] at ht
      apply xb_one
      apply xs_ret
      · lcg_sub
      · show PyData.bool true = .bool (decide (xs = ys))
        rw [decide_eq_true ht]
  · intro z
    cases z
end
end K81
set_option maxRecDepth 100000
set_option maxHeartbeats 0
namespace K81
open PySem PySem.Spec PyProof.Rows L2 Dt
local macro_rules | `(tactic| keq_hits) => `(tactic| first | exact Or.inl rfl | exact Or.inr (Or.inl rfl) | exact Or.inr (Or.inr rfl))
local macro_rules | `(tactic| keq_rows) => `(tactic| (apply xe_nmX; first
  | (refine xnm 0 rfl ?_ rfl (by decide) (by decide); keq_hits; done)
  | (refine xnm 1 rfl ?_ rfl (by decide) (by decide); keq_hits; done)
  | (refine xnm 2 rfl ?_ rfl (by decide) (by decide); keq_hits; done)
  | (refine xnm 3 rfl ?_ rfl (by decide) (by decide); keq_hits; done)
  | (refine xnm 4 rfl ?_ rfl (by decide) (by decide); keq_hits; done)
  | (refine xnm 5 rfl ?_ rfl (by decide) (by decide); keq_hits; done)
  | (refine xnm 6 rfl ?_ rfl (by decide) (by decide); keq_hits; done)
  | (refine xnm 7 rfl ?_ rfl (by decide) (by decide); keq_hits; done)
  | (refine xnm 8 rfl ?_ rfl (by decide) (by decide); keq_hits; done)
  | (refine xnm 9 rfl ?_ rfl (by decide) (by decide); keq_hits; done)
  | (refine xnm 10 rfl ?_ rfl (by decide) (by decide); keq_hits; done)
  | (refine xnm 11 rfl ?_ rfl (by decide) (by decide); keq_hits; done)
  | (refine xnm 12 rfl ?_ rfl (by decide) (by decide); keq_hits; done)
  | (refine xnm 13 rfl ?_ rfl (by decide) (by decide); keq_hits; done)
  | (refine xnm 14 rfl ?_ rfl (by decide) (by decide); keq_hits; done)
  | (refine xnm 15 rfl ?_ rfl (by decide) (by decide); keq_hits; done)
  | (refine xnm 16 rfl ?_ rfl (by decide) (by decide); keq_hits; done)
  | (refine xnm 17 rfl ?_ rfl (by decide) (by decide); keq_hits; done)
  | (refine xnm 18 rfl ?_ rfl (by decide) (by decide); keq_hits; done)
  | (refine xnm 19 rfl ?_ rfl (by decide) (by decide); keq_hits; done)
  | (refine xnm 20 rfl ?_ rfl (by decide) (by decide); keq_hits; done)
  | (refine xnm 21 rfl ?_ rfl (by decide) (by decide); keq_hits; done)
  | (refine xnm 22 rfl ?_ rfl (by decide) (by decide); keq_hits; done)
  | (refine xnm 23 rfl ?_ rfl (by decide) (by decide); keq_hits; done)))
local macro_rules | `(tactic| kas_types) => `(tactic| fail)
local macro_rules | `(tactic| kpf_c) => `(tactic| fail)
local macro_rules | `(tactic| lcg_off) => `(tactic| first
  | exact xe_int | exact xe_str | exact xe_non | exact xe_bl | keq_rows
  | apply xe_op | apply (xe_ix (hs := fun _ _ => rfl)) 
  | apply (xe_cmp (hm := nomark _)) | apply (xt_cmp (hm := nomark _)) | apply (xe_chain0 (hm := by with_unfolding_all rfl))
  | apply xe_not | apply xt_not | apply xe_un
  | apply xe_one | apply xe_and0 | apply xe_or0
  | (apply xt_w; first | apply xw_and0 | apply xw_or0) | apply xw_and0 | apply xw_or0 | apply xw_and1 | apply xw_or1
  | apply (xt_val (he := by intro _; rfl))
  | exact xa_nil | apply (xa_one (hs := rfl)) | apply (xa_cons (hs := rfl))
  | kpf_c
  | exact opd_add | exact opd_sub | exact opd_sub_bb | apply opd_mul | apply opd_mod | apply opd_div
  | exact opd_lt | exact opd_le | exact opd_gt | exact opd_ge | exact opd_eqI | exact opd_neI | exact opd_eqB | exact opd_neB | exact opd_eqS | exact opd_neS | exact und_neg
  | exact ixd_t0 | exact ixd_t1 | exact ixd_t2
  | exact cd_min2 rfl | exact cd_max2 rfl | exact cd_len | exact cd_lenT | exact cd_int | exact cd_abs | exact cd_list
  | kas_types)
local macro_rules | `(tactic| lcg_sub) => `(tactic| repeat' lcg_off)
section
variable {P : Program} {w : World} {K : PySem.W.Frag} {mg : Str → Option Value} {base : Heap}
theorem call_draw (i : Nat) {X : Cx} {c : Dt.Ctx} {ds ds1 : Ds} {pn : Str} {npos p pos : Pos} {es : List Expr} {k : Nat} {rows rows0 : List Int} {po po0 many : Int} (C : Cal X.prog X.w X.K X.mg X.base CX0 "_law_draw" 1 ["pool", "many"] (spDraw X.K)) (hr : Room k X.A) (hk : 1 ≤ k)
    (hg : Gl X "_law_draw") (he : starEach (.Name pn npos :: es) X.env = (false, eval (.Name pn npos) X.env) :: starEach es X.env) (hpl : (backTo pos (starEach es X.env)).any (·.1) = false) (hd : ds[i]? = some (some (.pool rows0 po0))) (hN : X.N[i]? = some pn) (hv : Vis X.env.scope pn) (h1 : (pn == ("__debug__" : Str)) = false) (h2 : (pn == ("__classdict__" : Str)) = false)
    (h : XA X c es ds [.int many] ds1) (hd1 : ds1[i]? = some (some (.pool rows po))) (hR : okR rows) (hq : okQ po) (hm : 0 < many) : XE X c (.Call (.Name "_law_draw" p) (.Name pn npos :: es) [] pos) ds (.int (drawV rows po many)) (ds1.set i (some (.pool rows (po + 1)))) :=
  xe_callP i C (hr.mono hk) (rows, po, many) hd hN hv h hd1 ⟨hR, hq, hm⟩ hg h1 h2 (by decide) he hpl
/-! ### _law_angle -/
def parts : List Int := [0, 0, 5000000, 1234567, 1]
def angleV (rows : List Int) (po most : Int) : Int :=
  if drawV rows po (2 * most + 1) - most < most then (drawV rows po (2 * most + 1) - most) * 10000000 + parts.getD (drawV rows (po + 1) 5).toNat 0 else (drawV rows po (2 * most + 1) - most) * 10000000
theorem parts_bd (j : Nat) : 0 ≤ parts.getD j 0 ∧ parts.getD j 0 ≤ 5000000 := by
  match j with
  | 0 => decide
  | 1 => decide
  | 2 => decide
  | 3 => decide
  | 4 => decide
  | j + 5 =>
    refine ⟨Int.le_refl _, ?_⟩
    show (0 : Int) ≤ 5000000
    decide
theorem angleV_bd {rows : List Int} {po most : Int} (h : 0 < most ∧ most ≤ 200) : -10000000000 ≤ angleV rows po most ∧ angleV rows po most ≤ 10000000000 := by
  have h1 := drawV_bd (rows := rows) (p := po) (many := 2 * most + 1) (by omega)
  have h2 := parts_bd (drawV rows (po + 1) 5).toNat
  unfold angleV
  generalize drawV rows po (2 * most + 1) = d at *
  generalize parts.getD (drawV rows (po + 1) 5).toNat 0 = q at *
  split <;> omega
abbrev spAngle (K : PySem.W.Frag) : Sp := SpP K (fun x : List Int × Int × Int => x.1) (fun x => x.2.1) (fun x => [.int x.2.2]) (fun x => okR x.1 ∧ 0 ≤ x.2.1 ∧ x.2.1 < 999000 ∧ 0 < x.2.2 ∧ x.2.2 ≤ 200) (fun x => .int (angleV x.1 x.2.1 x.2.2)) (fun x => x.2.1 + 2)
abbrev nAngle : List Str := ["pool", "most", "whole", "part", "angle"]
theorem scAngle : FnScope nAngle ["pool", "most"] (defScope sAngle) := ⟨rfl, rfl, rfl, by decide +kernel, rfl, by decide +kernel, by decide +kernel⟩
theorem ok_angle (D : DefAt K mg "_law_angle" sAngle) (C1 : Cal P w K mg base CX0 "_law_draw" 1 ["pool", "many"] (spDraw K)) : Cal P w K mg base CX0 "_law_angle" 2 ["pool", "most"] (spAngle K) := by
  refine cal_mkP 1 D scAngle (fun _ _ _ _ _ _ us hl => match us, hl with | [_, _], _ => rfl) (fun _ => rfl) (by decide) (fun f cdv A outer s H E c x hr hp => ?_)
  obtain ⟨rows, po, most⟩ := x
  obtain ⟨hR, p1, p2, m1, m2⟩ := hp
  dsimp only at *
  have b1 := drawV_bd (rows := rows) (p := po) (many := 2 * most + 1) (by omega)
  have b2 := drawV_bd (rows := rows) (p := po + 1) (many := 5) (by omega)
  apply xb_cons
  apply xs_set 2 scAngle.nd rfl (.inl rfl) (x := .int (drawV rows po (2 * most + 1) - most)) (ds1 := [some (.pool rows (po + 1)), some (.d (.int most)), none, none, none])
  · apply xe_op (ds1 := [some (.pool rows (po + 1)), some (.d (.int most)), none, none, none])
    · apply call_draw 0 (ds1 := [some (.pool rows po), some (.d (.int most)), none, none, none]) C1 hr (by decide)
      · rfl
      · rfl
      · rfl
      · rfl
      · rfl
      · exact .inl rfl
      · decide
      · decide
      · apply (xa_one (hs := rfl))
        apply xe_op (x := .int (2 * most)) (y := .int 1)
        · lcg_sub
          exact wide_mul (a := 65) (b := 65) (by omega) (by omega) (by decide) (by decide) (by decide)
        · lcg_sub
        · exact opd_add
      · rfl
      · exact hR
      · exact ⟨by omega, by omega⟩
      · omega
    · lcg_sub
    · exact opd_sub
  apply xb_cons
  apply xs_set 3 scAngle.nd rfl (.inl rfl) (x := .int (parts.getD (drawV rows (po + 1) 5).toNat 0)) (ds1 := [some (.pool rows (po + 2)), some (.d (.int most)), some (.d (.int (drawV rows po (2 * most + 1) - most))), none, none])
  · have e : po + 2 = po + 1 + 1 := by omega
    rw [e]
    apply (xe_ix (hs := fun _ _ => rfl) (x := .list (parts.map PyData.int)) (y := .int (drawV rows (po + 1) 5)) (ds1 := [some (.pool rows (po + 1)), some (.d (.int most)), some (.d (.int (drawV rows po (2 * most + 1) - most))), none, none]))
    · apply xe_lst
      · show XA _ _ _ _ [.int 0, .int 0, .int 5000000, .int 1234567, .int 1] _
        lcg_sub
      · show 5 ≤ sizeLine
        decide
    · apply call_draw 0 (ds1 := [some (.pool rows (po + 1)), some (.d (.int most)), some (.d (.int (drawV rows po (2 * most + 1) - most))), none, none]) C1 hr (by decide)
      · rfl
      · rfl
      · rfl
      · rfl
      · rfl
      · exact .inl rfl
      · decide
      · decide
      · lcg_sub
      · rfl
      · exact hR
      · exact ⟨by omega, by omega⟩
      · omega
    · have e : (((drawV rows (po + 1) 5).toNat : Nat) : Int) = drawV rows (po + 1) 5 := by omega
      have g := at_ints (rows := parts) (j := (drawV rows (po + 1) 5).toNat) (by show _ < 5; omega)
      rw [e] at g
      exact ixd_lst g
  generalize hwh : drawV rows po (2 * most + 1) - most = whole at *
  generalize hpt : parts.getD (drawV rows (po + 1) 5).toNat 0 = part at *
  have hav : angleV rows po most = if whole < most then whole * 10000000 + part else whole * 10000000 := by
    unfold angleV
    rw [hwh, hpt]
  apply xb_cons
  apply xs_set 4 scAngle.nd rfl (.inl rfl) (x := .int (whole * 10000000)) (ds1 := [some (.pool rows (po + 2)), some (.d (.int most)), some (.d (.int whole)), some (.d (.int part)), none])
  · apply xe_op
    · lcg_sub
    · lcg_sub
    · exact opd_mulC (.inr ⟨by decide, by decide⟩)
  apply xb_cons
  apply xs_if (k := decide (whole < most)) (ds1 := [some (.pool rows (po + 2)), some (.d (.int most)), some (.d (.int whole)), some (.d (.int part)), some (.d (.int (whole * 10000000)))])
  · lcg_sub
  · intro h
    apply xb_one
    apply xs_set 4 scAngle.nd rfl (.inl rfl) (x := .int (whole * 10000000 + part)) (ds1 := [some (.pool rows (po + 2)), some (.d (.int most)), some (.d (.int whole)), some (.d (.int part)), some (.d (.int (whole * 10000000)))])
    · lcg_sub
    apply xb_one
    apply xs_ret (ds1 := [some (.pool rows (po + 2)), some (.d (.int most)), some (.d (.int whole)), some (.d (.int part)), some (.d (.int (whole * 10000000 + part)))])
    · lcg_sub
    · refine ⟨?_, rfl⟩
      rw [hav, if_pos (of_decide_eq_true h)]
  · intro h
    apply xb_nil
    apply xb_one
    apply xs_ret (ds1 := [some (.pool rows (po + 2)), some (.d (.int most)), some (.d (.int whole)), some (.d (.int part)), some (.d (.int (whole * 10000000)))])
    · lcg_sub
    · refine ⟨?_, rfl⟩
      rw [hav, if_neg (of_decide_eq_false h)]
/-! ### _law_point -/
def most1 (d : Int) : Int := [80, 10].getD d.toNat 0
def most2 (d : Int) : Int := [179, 12].getD d.toNat 0
theorem most1_bd {d : Int} (h : 0 ≤ d ∧ d < 2) : 0 < most1 d ∧ most1 d ≤ 200 := by
  rcases (show d = 0 ∨ d = 1 by omega) with rfl | rfl <;> decide
theorem most2_bd {d : Int} (h : 0 ≤ d ∧ d < 2) : 0 < most2 d ∧ most2 d ≤ 200 := by
  rcases (show d = 0 ∨ d = 1 by omega) with rfl | rfl <;> decide
def pointV (rows : List Int) (po : Int) : Pt := (angleV rows (po + 1) (most1 (drawV rows po 2)), angleV rows (po + 4) (most2 (drawV rows (po + 3) 2)))
theorem pointV_in (rows : List Int) (po : Int) : inB (pointV rows po) := by
  have h1 := angleV_bd (rows := rows) (po := po + 1) (most1_bd (drawV_bd (rows := rows) (p := po) (by omega)))
  have h2 := angleV_bd (rows := rows) (po := po + 4) (most2_bd (drawV_bd (rows := rows) (p := po + 3) (by omega)))
  exact ⟨h1.1, h1.2, h2.1, h2.2⟩
theorem call_angle (i : Nat) {X : Cx} {c : Dt.Ctx} {ds ds1 : Ds} {pn : Str} {npos p pos : Pos} {es : List Expr} {k : Nat} {rows rows0 : List Int} {po po0 most : Int} (C : Cal X.prog X.w X.K X.mg X.base CX0 "_law_angle" 2 ["pool", "most"] (spAngle X.K)) (hr : Room k X.A) (hk : 2 ≤ k)
    (hg : Gl X "_law_angle") (he : starEach (.Name pn npos :: es) X.env = (false, eval (.Name pn npos) X.env) :: starEach es X.env) (hpl : (backTo pos (starEach es X.env)).any (·.1) = false) (hd : ds[i]? = some (some (.pool rows0 po0))) (hN : X.N[i]? = some pn) (hv : Vis X.env.scope pn) (h1 : (pn == ("__debug__" : Str)) = false) (h2 : (pn == ("__classdict__" : Str)) = false)
    (h : XA X c es ds [.int most] ds1) (hd1 : ds1[i]? = some (some (.pool rows po))) (hR : okR rows) (hq : 0 ≤ po ∧ po < 999000) (hm : 0 < most ∧ most ≤ 200) : XE X c (.Call (.Name "_law_angle" p) (.Name pn npos :: es) [] pos) ds (.int (angleV rows po most)) (ds1.set i (some (.pool rows (po + 2)))) :=
  xe_callP i C (hr.mono hk) (rows, po, most) hd hN hv h hd1 ⟨hR, hq.1, hq.2, hm.1, hm.2⟩ hg h1 h2 (by decide) he hpl
abbrev spPoint (K : PySem.W.Frag) : Sp := SpP K (fun x : List Int × Int => x.1) (fun x => x.2) (fun _ => []) (fun x => okR x.1 ∧ 0 ≤ x.2 ∧ x.2 < 998000) (fun x => pt (pointV x.1 x.2)) (fun x => x.2 + 6)
theorem scPoint : FnScope ["pool"] ["pool"] (defScope sPoint) := ⟨rfl, rfl, rfl, by decide +kernel, rfl, by decide +kernel, by decide +kernel⟩
theorem ok_point (D : DefAt K mg "_law_point" sPoint) (C1 : Cal P w K mg base CX0 "_law_draw" 1 ["pool", "many"] (spDraw K)) (C2 : Cal P w K mg base CX0 "_law_angle" 2 ["pool", "most"] (spAngle K)) : Cal P w K mg base CX0 "_law_point" 3 ["pool"] (spPoint K) := by
  refine cal_mkP 2 D scPoint (fun _ _ _ _ _ _ us hl => match us, hl with | [_], _ => rfl) (fun _ => rfl) (by decide) (fun f cdv A outer s H E c x hr hp => ?_)
  obtain ⟨rows, po⟩ := x
  obtain ⟨hR, p1, p2⟩ := hp
  dsimp only at *
  have b1 := drawV_bd (rows := rows) (p := po) (many := 2) (by omega)
  have b2 := drawV_bd (rows := rows) (p := po + 3) (many := 2) (by omega)
  apply xb_one
  apply xs_ret (ds1 := [some (.pool rows (po + 6))]) (x := pt (pointV rows po))
  · apply xe_tup (xs := [.int (pointV rows po).1, .int (pointV rows po).2])
    · apply (xa_cons (hs := rfl) (ds1 := [some (.pool rows (po + 3))]))
      · have e : po + 3 = po + 1 + 2 := by omega
        rw [e]
        apply call_angle 0 (ds1 := [some (.pool rows (po + 1))]) C2 hr (by decide)
        · rfl
        · rfl
        · rfl
        · rfl
        · rfl
        · exact .inl rfl
        · decide
        · decide
        · apply (xa_one (hs := rfl))
          apply (xe_ix (hs := fun _ _ => rfl) (x := .list ([80, 10].map PyData.int)) (y := .int (drawV rows po 2)) (ds1 := [some (.pool rows po)]))
          · apply xe_lst
            · show XA _ _ _ _ [.int 80, .int 10] _
              lcg_sub
            · show 2 ≤ sizeLine
              decide
          · apply call_draw 0 (ds1 := [some (.pool rows po)]) C1 hr (by decide)
            · rfl
            · rfl
            · rfl
            · rfl
            · rfl
            · exact .inl rfl
            · decide
            · decide
            · lcg_sub
            · rfl
            · exact hR
            · exact ⟨by omega, by omega⟩
            · omega
          · have e : (((drawV rows po 2).toNat : Nat) : Int) = drawV rows po 2 := by omega
            have g := at_ints (rows := [80, 10]) (j := (drawV rows po 2).toNat) (by show _ < 2; omega)
            rw [e] at g
            exact ixd_lst g
        · rfl
        · exact hR
        · omega
        · exact most1_bd b1
      · apply (xa_one (hs := rfl))
        have e : po + 6 = po + 4 + 2 := by omega
        rw [e]
        apply call_angle 0 (ds1 := [some (.pool rows (po + 4))]) C2 hr (by decide)
        · rfl
        · rfl
        · rfl
        · rfl
        · rfl
        · exact .inl rfl
        · decide
        · decide
        · apply (xa_one (hs := rfl))
          apply (xe_ix (hs := fun _ _ => rfl) (x := .list ([179, 12].map PyData.int)) (y := .int (drawV rows (po + 3) 2)) (ds1 := [some (.pool rows (po + 3))]))
          · apply xe_lst
            · show XA _ _ _ _ [.int 179, .int 12] _
              lcg_sub
            · show 2 ≤ sizeLine
              decide
          · have e : po + 4 = po + 3 + 1 := by omega
            rw [e]
            apply call_draw 0 (ds1 := [some (.pool rows (po + 3))]) C1 hr (by decide)
            · rfl
            · rfl
            · rfl
            · rfl
            · rfl
            · exact .inl rfl
            · decide
            · decide
            · lcg_sub
            · rfl
            · exact hR
            · exact ⟨by omega, by omega⟩
            · omega
          · have e : (((drawV rows (po + 3) 2).toNat : Nat) : Int) = drawV rows (po + 3) 2 := by omega
            have g := at_ints (rows := [179, 12]) (j := (drawV rows (po + 3) 2).toNat) (by show _ < 2; omega)
            rw [e] at g
            exact ixd_lst g
        · rfl
        · exact hR
        · omega
        · exact most2_bd b2
    · show 2 ≤ sizeLine
      decide
  · exact ⟨rfl, rfl⟩
end
end K81
set_option maxRecDepth 100000
set_option maxHeartbeats 0
namespace K81
open PySem PySem.Spec PyProof.Rows L2 Dt
local macro_rules | `(tactic| keq_hits) => `(tactic| first | exact Or.inl rfl | exact Or.inr (Or.inl rfl) | exact Or.inr (Or.inr rfl))
local macro_rules | `(tactic| keq_rows) => `(tactic| (apply xe_nmX; first
  | (refine xnm 0 rfl ?_ rfl (by decide) (by decide); keq_hits; done)
  | (refine xnm 1 rfl ?_ rfl (by decide) (by decide); keq_hits; done)
  | (refine xnm 2 rfl ?_ rfl (by decide) (by decide); keq_hits; done)
  | (refine xnm 3 rfl ?_ rfl (by decide) (by decide); keq_hits; done)
  | (refine xnm 4 rfl ?_ rfl (by decide) (by decide); keq_hits; done)
  | (refine xnm 5 rfl ?_ rfl (by decide) (by decide); keq_hits; done)
  | (refine xnm 6 rfl ?_ rfl (by decide) (by decide); keq_hits; done)
  | (refine xnm 7 rfl ?_ rfl (by decide) (by decide); keq_hits; done)
  | (refine xnm 8 rfl ?_ rfl (by decide) (by decide); keq_hits; done)
  | (refine xnm 9 rfl ?_ rfl (by decide) (by decide); keq_hits; done)
  | (refine xnm 10 rfl ?_ rfl (by decide) (by decide); keq_hits; done)
  | (refine xnm 11 rfl ?_ rfl (by decide) (by decide); keq_hits; done)
  | (refine xnm 12 rfl ?_ rfl (by decide) (by decide); keq_hits; done)
  | (refine xnm 13 rfl ?_ rfl (by decide) (by decide); keq_hits; done)
  | (refine xnm 14 rfl ?_ rfl (by decide) (by decide); keq_hits; done)
  | (refine xnm 15 rfl ?_ rfl (by decide) (by decide); keq_hits; done)
  | (refine xnm 16 rfl ?_ rfl (by decide) (by decide); keq_hits; done)
  | (refine xnm 17 rfl ?_ rfl (by decide) (by decide); keq_hits; done)
  | (refine xnm 18 rfl ?_ rfl (by decide) (by decide); keq_hits; done)
  | (refine xnm 19 rfl ?_ rfl (by decide) (by decide); keq_hits; done)
  | (refine xnm 20 rfl ?_ rfl (by decide) (by decide); keq_hits; done)
  | (refine xnm 21 rfl ?_ rfl (by decide) (by decide); keq_hits; done)
  | (refine xnm 22 rfl ?_ rfl (by decide) (by decide); keq_hits; done)
  | (refine xnm 23 rfl ?_ rfl (by decide) (by decide); keq_hits; done)))
local macro_rules | `(tactic| kas_types) => `(tactic| fail)
local macro_rules | `(tactic| kpf_c) => `(tactic| fail)
local macro_rules | `(tactic| lcg_off) => `(tactic| first
  | exact xe_int | exact xe_str | exact xe_non | exact xe_bl | keq_rows
  | apply xe_op | apply (xe_ix (hs := fun _ _ => rfl)) 
  | apply (xe_cmp (hm := nomark _)) | apply (xt_cmp (hm := nomark _)) | apply (xe_chain0 (hm := by with_unfolding_all rfl))
  | apply xe_not | apply xt_not | apply xe_un
  | apply xe_one | apply xe_and0 | apply xe_or0
  | (apply xt_w; first | apply xw_and0 | apply xw_or0) | apply xw_and0 | apply xw_or0 | apply xw_and1 | apply xw_or1
  | apply (xt_val (he := by intro _; rfl))
  | exact xa_nil | apply (xa_one (hs := rfl)) | apply (xa_cons (hs := rfl))
  | kpf_c
  | exact opd_add | exact opd_sub | exact opd_sub_bb | apply opd_mul | apply opd_mod | apply opd_div
  | exact opd_lt | exact opd_le | exact opd_gt | exact opd_ge | exact opd_eqI | exact opd_neI | exact opd_eqB | exact opd_neB | exact opd_eqS | exact opd_neS | exact und_neg
  | exact ixd_t0 | exact ixd_t1 | exact ixd_t2
  | exact cd_min2 rfl | exact cd_max2 rfl | exact cd_len | exact cd_lenT | exact cd_int | exact cd_abs | exact cd_list
  | kas_types)
local macro_rules | `(tactic| lcg_sub) => `(tactic| repeat' lcg_off)
section
variable {P : Program} {w : World} {K : PySem.W.Frag} {mg : Str → Option Value} {base : Heap}
/-! ### _law_points -/
theorem call_point (i : Nat) {X : Cx} {c : Dt.Ctx} {ds : Ds} {pn : Str} {npos p pos : Pos} {k : Nat} {rows : List Int} {po : Int} (C : Cal X.prog X.w X.K X.mg X.base CX0 "_law_point" 3 ["pool"] (spPoint X.K)) (hr : Room k X.A) (hk : 3 ≤ k)
    (hg : Gl X "_law_point") (he : starEach (.Name pn npos :: []) X.env = (false, eval (.Name pn npos) X.env) :: starEach [] X.env) (hpl : (backTo pos (starEach [] X.env)).any (·.1) = false) (hd : ds[i]? = some (some (.pool rows po))) (hN : X.N[i]? = some pn) (hv : Vis X.env.scope pn) (h1 : (pn == ("__debug__" : Str)) = false) (h2 : (pn == ("__classdict__" : Str)) = false)
    (hR : okR rows) (hq : 0 ≤ po ∧ po < 998000) : XE X c (.Call (.Name "_law_point" p) [.Name pn npos] [] pos) ds (pt (pointV rows po)) (ds.set i (some (.pool rows (po + 6)))) :=
  xe_callP i C (hr.mono hk) (rows, po) hd hN hv xa_nil hd ⟨hR, hq.1, hq.2⟩ hg h1 h2 (by decide) he hpl
def foundN (rows : List Int) (po : Int) (many : Nat) : Nat → List Pt
  | 0 => []
  | k + 1 => if (foundN rows po many k).length < many ∧ pointV rows (po + 6 * (k : Nat)) ∉ foundN rows po many k then foundN rows po many k ++ [pointV rows (po + 6 * (k : Nat))] else foundN rows po many k
def fillP (k : Nat) : Pt := (10000000 * (k : Nat) + 7, 10000000 * (k : Nat) + 3)
def pointsV (rows : List Int) (po : Int) (many : Nat) : List Pt := foundN rows po many (3 * many) ++ (List.range (many - (foundN rows po many (3 * many)).length)).map fillP
theorem foundN_len (rows : List Int) (po : Int) (many : Nat) : ∀ k, (foundN rows po many k).length ≤ many
  | 0 => Nat.zero_le _
  | k + 1 => by
    have ih := foundN_len rows po many k
    unfold foundN
    split
    · rename_i h
      rw [List.length_append, List.length_singleton]
      omega
    · exact ih
theorem foundN_in (rows : List Int) (po : Int) (many : Nat) : ∀ k, inBs (foundN rows po many k)
  | 0 => fun p h => nomatch h
  | k + 1 => by
    have ih := foundN_in rows po many k
    unfold foundN
    split
    · intro p hp
      rcases List.mem_append.mp hp with h | h
      · exact ih p h
      · rw [List.mem_singleton.mp h]
        exact pointV_in _ _
    · exact ih
theorem pointsV_len (rows : List Int) (po : Int) (many : Nat) : (pointsV rows po many).length = many := by
  have := foundN_len rows po many (3 * many)
  unfold pointsV
  rw [List.length_append, List.length_map, List.length_range]
  omega
theorem pointsV_in (rows : List Int) (po : Int) (many : Nat) (h : many ≤ 20) : inBs (pointsV rows po many) := by
  intro p hp
  rcases List.mem_append.mp hp with h | h
  · exact foundN_in _ _ _ _ p h
  · obtain ⟨k, hk, rfl⟩ := List.mem_map.mp h
    have := List.mem_range.mp hk
    unfold fillP inB
    dsimp only
    omega
theorem any_pt {xs : List Pt} {x : Pt} : ((xs.map pt).any fun z => PyData.eqv z (pt x)) = decide (x ∈ xs) := by
  induction xs with
  | nil => rfl
  | cons y r ih =>
    rw [List.map_cons, List.any_cons, ih, eqv_pt]
    by_cases h : x ∈ r
    · rw [decide_eq_true h, Bool.or_true, decide_eq_true (List.mem_cons_of_mem _ h)]
    · by_cases h2 : y = x
      · rw [decide_eq_true h2, Bool.true_or, decide_eq_true (by rw [h2]; exact List.mem_cons_self)]
      · rw [decide_eq_false h, decide_eq_false h2, decide_eq_false fun z => (List.mem_cons.mp z).elim (fun e => h2 e.symm) h]
        rfl
theorem shp_pts (xs : List Pt) : SeqAt.shaped (.list (xs.map pt)) = true := by
  have h1 : (PyData.list (xs.map pt)).canLay0 = true := by
    simp only [PyData.canLay0]
    induction xs with
    | nil => rfl
    | cons x r ih =>
      rw [List.map_cons, PyData.canLayAll0, lay_pt, ih]
      rfl
  have h2 : PyData.depthAll (xs.map pt) ≤ 2 := by
    induction xs with
    | nil =>
      simp only [List.map_nil, PyData.depthAll]
      first | omega | decide
    | cons x r ih =>
      simp only [List.map_cons, PyData.depthAll, dep_pt]
      have ih' := ih (by
        simp only [PyData.canLay0] at h1 ⊢
        rw [List.map_cons, PyData.canLayAll0] at h1
        exact ((Bool.and_eq_true _ _).mp h1).2)
      omega
  show ((PyData.list (xs.map pt)).canLay0 && decide ((PyData.list (xs.map pt)).depth ≤ 64)) = true
  rw [h1, Bool.true_and, decide_eq_true_eq]
  simp only [PyData.depth]
  omega
abbrev spPoints (K : PySem.W.Frag) : Sp := SpP K (fun x : List Int × Int × Nat => x.1) (fun x => x.2.1) (fun x => [.int (x.2.2 : Nat)]) (fun x => okR x.1 ∧ 0 ≤ x.2.1 ∧ x.2.1 < 900000 ∧ x.2.2 ≤ 20) (fun x => .list ((pointsV x.1 x.2.1 x.2.2).map pt)) (fun x => x.2.1 + 18 * (x.2.2 : Nat))
abbrev nPoints : List Str := ["pool", "many", "found", "k", "point"]
theorem scPoints : FnScope nPoints ["pool", "many"] (defScope sPoints) := ⟨rfl, rfl, rfl, by decide +kernel, rfl, by decide +kernel, by decide +kernel⟩
theorem ok_points (D : DefAt K mg "_law_points" sPoints) (T : Fx mg) (C1 : Cal P w K mg base CX0 "_law_point" 3 ["pool"] (spPoint K)) : Cal P w K mg base CX0 "_law_points" 4 ["pool", "many"] (spPoints K) := by
  refine cal_mkP 3 D scPoints (fun _ _ _ _ _ _ us hl => match us, hl with | [_, _], _ => rfl) (fun _ => rfl) (by decide) (fun f cdv A outer s H E c x hr hp => ?_)
  obtain ⟨rows, po, many⟩ := x
  obtain ⟨hR, p1, p2, hm⟩ := hp
  dsimp only at *
  apply xb_cons
  apply xs_setOwn 2 scPoints.nd rfl (.inl rfl)
  · exact xa_nil
  · exact Nat.zero_le _
  apply xb_cons
  refine xs_for .never rfl (xs := rngD 0 (3 * many)) (ds1 := [some (.pool rows po), some (.d (.int (many : Nat))), some (.own []), none, none]) ?_
    (fun i ds => ∃ a b, ds = [some (.pool rows (po + 6 * (i : Nat))), some (.d (.int (many : Nat))), some (.own ((foundN rows po many i).map pt)), a, b]) ⟨none, none, by rw [show po + 6 * ((0 : Nat) : Int) = po by omega]; rfl⟩ (fun i x ds hx hJ => ?_) (fun ds hJ => ?_)
  · have e : 3 * many = (3 * ((many : Nat) : Int)).toNat := by omega
    rw [e]
    apply xi_range1
    · rfl
    · exact T.range
    · lcg_sub
      exact wide_mul (a := 65) (b := 65) (by omega) (by omega) (by decide) (by decide) (by decide)
    · omega
    · omega
    · rfl
  · obtain ⟨hi, rfl⟩ := rngD_at hx
    rw [Int.zero_add]
    obtain ⟨a, b, rfl⟩ := hJ
    have hfl := foundN_len rows po many i
    have e6 : po + 6 * ((i + 1 : Nat) : Int) = po + 6 * (i : Nat) + 6 := by omega
    have hnx : foundN rows po many (i + 1) = if (foundN rows po many i).length < many ∧ pointV rows (po + 6 * (i : Nat)) ∉ foundN rows po many i then foundN rows po many i ++ [pointV rows (po + 6 * (i : Nat))] else foundN rows po many i := rfl
    generalize foundN rows po many i = fd at *
    refine ⟨_, _, xg_name 3 scPoints.nd rfl (.inl rfl), ?_⟩
    apply xb_cons
    apply xs_set 4 scPoints.nd rfl (.inl rfl) (x := pt (pointV rows (po + 6 * (i : Nat)))) (ds1 := [some (.pool rows (po + 6 * (i : Nat) + 6)), some (.d (.int (many : Nat))), some (.own (fd.map pt)), some (.d (.int (i : Nat))), b])
    · apply call_point 0 (ds := [some (.pool rows (po + 6 * (i : Nat))), some (.d (.int (many : Nat))), some (.own (fd.map pt)), some (.d (.int (i : Nat))), b]) C1 hr (by decide)
      · rfl
      · rfl
      · rfl
      · rfl
      · rfl
      · exact .inl rfl
      · decide
      · decide
      · exact hR
      · omega
    generalize pointV rows (po + 6 * (i : Nat)) = pv at *
    apply xb_one
    apply xs_if (k := decide (((fd.length : Nat) : Int) < (many : Nat)) && !decide (pv ∈ fd)) (ds1 := [some (.pool rows (po + 6 * (i : Nat) + 6)), some (.d (.int (many : Nat))), some (.own (fd.map pt)), some (.d (.int (i : Nat))), some (.d (pt pv))])
    · apply xt_w
      apply xw_and0
      · apply (xt_cmp (hm := nomark _))
        · apply xe_to
          · exact xe_lenOwn 2 (xs := fd.map pt) rfl rfl (.inl rfl) T.len rfl (by decide) (by decide) rfl
          · rw [List.length_map]
        · lcg_sub
        · exact opd_lt
      · apply xw_and1
        apply xt_to
        · refine xt_notInOwn 2 (xs := fd.map pt) (x := pt pv) (ds1 := [some (.pool rows (po + 6 * (i : Nat) + 6)), some (.d (.int (many : Nat))), some (.own (fd.map pt)), some (.d (.int (i : Nat))), some (.d (pt pv))]) (units65 hr) rfl rfl (.inl rfl) ?_ (shp_pt _) (shp_pts _) (by decide) (by decide) rfl
          lcg_sub
        · rw [any_pt]
    · intro h
      rw [Bool.and_eq_true] at h
      have h1 := of_decide_eq_true h.1
      have h2 : pv ∉ fd := by
        intro z
        have h2 := h.2
        rw [decide_eq_true z] at h2
        cases h2
      apply xb_one
      refine xs_append 2 (xs := fd.map pt) (x := pt pv) (ds1 := [some (.pool rows (po + 6 * (i : Nat) + 6)), some (.d (.int (many : Nat))), some (.own (fd.map pt)), some (.d (.int (i : Nat))), some (.d (pt pv))]) rfl ⟨_, rfl⟩ rfl (.inl rfl) ?_ ?_ ?_
      · lcg_sub
      · rw [List.length_map]
        exact small1000 (by omega)
      · refine ⟨some (.d (.int (i : Nat))), some (.d (pt pv)), ?_⟩
        rw [e6, hnx, if_pos ⟨by omega, h2⟩, List.map_append]
        rfl
    · intro h
      apply xb_nil
      refine ⟨some (.d (.int (i : Nat))), some (.d (pt pv)), ?_⟩
      rw [e6, hnx, if_neg]
      rintro ⟨z1, z2⟩
      rw [decide_eq_true (by omega), decide_eq_false z2] at h
      cases h
  · obtain ⟨a, b, rfl⟩ := hJ
    rw [rngD_len]
    have e18 : po + 6 * ((3 * many : Nat) : Int) = po + 18 * (many : Nat) := by omega
    rw [e18]
    have hfl := foundN_len rows po many (3 * many)
    have hres : pointsV rows po many = foundN rows po many (3 * many) ++ (List.range (many - (foundN rows po many (3 * many)).length)).map fillP := rfl
    rw [hres]
    generalize foundN rows po many (3 * many) = fd at *
    apply xb_cons
    refine xs_for .never rfl (xs := rngD 0 (many - fd.length)) (ds1 := [some (.pool rows (po + 18 * (many : Nat))), some (.d (.int (many : Nat))), some (.own (fd.map pt)), a, b]) ?_
      (fun i ds => ∃ a b, ds = [some (.pool rows (po + 18 * (many : Nat))), some (.d (.int (many : Nat))), some (.own ((fd ++ (List.range i).map fillP).map pt)), a, b]) ⟨a, b, by rw [List.range_zero, List.map_nil, List.append_nil]⟩ (fun i x ds hx hJ => ?_) (fun ds hJ => ?_)
    · have e : many - fd.length = (((many : Nat) : Int) - (fd.length : Nat)).toNat := by omega
      rw [e]
      apply xi_range1
      · rfl
      · exact T.range
      · apply xe_op
        · lcg_sub
        · apply xe_to
          · exact xe_lenOwn 2 (xs := fd.map pt) rfl rfl (.inl rfl) T.len rfl (by decide) (by decide) rfl
          · rw [List.length_map]
        · exact opd_sub
      · omega
      · omega
      · rfl
    · obtain ⟨hi, rfl⟩ := rngD_at hx
      rw [Int.zero_add]
      obtain ⟨a, b, rfl⟩ := hJ
      refine ⟨_, _, xg_name 3 scPoints.nd rfl (.inl rfl), ?_⟩
      apply xb_one
      refine xs_append 2 (xs := (fd ++ (List.range i).map fillP).map pt) (x := pt (fillP i)) (ds1 := [some (.pool rows (po + 18 * (many : Nat))), some (.d (.int (many : Nat))), some (.own ((fd ++ (List.range i).map fillP).map pt)), some (.d (.int (i : Nat))), b]) rfl ⟨_, rfl⟩ rfl (.inl rfl) ?_ ?_ ?_
      · apply xe_tup (xs := [.int (10000000 * (i : Nat) + 7), .int (10000000 * (i : Nat) + 3)])
        · lcg_sub
          all_goals exact wide_mul (a := 65) (b := 65) (by omega) (by omega) (by decide) (by decide) (by decide)
        · show 2 ≤ sizeLine
          decide
      · rw [List.length_map, List.length_append, List.length_map, List.length_range]
        exact small1000 (by omega)
      · refine ⟨some (.d (.int (i : Nat))), b, ?_⟩
        have e : fd ++ (List.range (i + 1)).map fillP = (fd ++ (List.range i).map fillP) ++ [fillP i] := by
          rw [List.range_succ, List.map_append, List.append_assoc]
          rfl
        rw [e, List.map_append (l₂ := [fillP i])]
        rfl
    · obtain ⟨a, b, rfl⟩ := hJ
      rw [rngD_len]
      apply xb_one
      apply xs_ret
      · exact xe_frz 2 rfl rfl rfl (.inl rfl)
      · exact ⟨rfl, rfl⟩
/-! ### _law_hull -/
def hullD (ps : List Pt) : PyData := if (hullL ps).length < 3 then .none else .list ((hullL ps).map pt)
theorem hullO_some {ps : List Pt} {d : PyData} (h : hullO ps = some d) : hullD ps = d := by
  unfold hullO at h
  unfold hullD
  split at h
  · cases h
  · rename_i z
    rw [if_neg z]
    exact Option.some.inj h
theorem hullO_none {ps : List Pt} (h : hullO ps = none) : hullD ps = .none := by
  unfold hullO at h
  unfold hullD
  split at h
  · rename_i z
    rw [if_pos z]
  · cases h
abbrev spLHull (K : PySem.W.Frag) : Sp := SpD K (fun ps : List Pt => [.list (ps.map pt)]) (fun ps => ps.length < 64 ∧ inBs ps) hullD
theorem scLHull : FnScope ["points", "e"] ["points"] (defScope sLHull) := ⟨rfl, rfl, rfl, by decide +kernel, rfl, by decide +kernel, by decide +kernel⟩
theorem ok_lhull {C : Addr} (D : DefAt K mg "_law_hull" sLHull) (R : ErrAt K mg "NoHalves" C) (C1 : Cal P w K mg base (L2.CX P w) "hull_of" 4 ["points"] (spHull K C)) : Cal P w K mg base CX0 "_law_hull" 5 ["points"] (spLHull K) := by
  refine cal_mk 4 D scLHull (fun _ _ _ _ _ _ us hl => match us, hl with | [_], _ => rfl) (fun _ => rfl) (by decide) (fun f cdv A outer s H E c ps hr hp => ?_)
  apply xb_one
  apply xs_tryNone 1 C1 R hr ps (ds1 := [some (.d (.list (ps.map pt))), none])
  · rfl
  · rfl
  · exact scLHull.nd
  · rfl
  · rfl
  · rfl
  · rfl
  · decide
  · decide
  · rfl
  · rfl
  · intro pn xe
    lcg_sub
  · exact hp
  · intro d hd
    exact (hullO_some hd).symm
  · intro hn
    exact (hullO_none hn).symm
/-! ### _law_cross -/
abbrev spLCross (K : PySem.W.Frag) : Sp := SpD K (fun x : Pt × Pt × Pt => [pt x.1, pt x.2.1, pt x.2.2]) (fun x => inB x.1 ∧ inB x.2.1 ∧ inB x.2.2) (fun x => .int (cross x.1 x.2.1 x.2.2))
theorem scLCross : FnScope ["a", "b", "c"] ["a", "b", "c"] (defScope sLCross) := ⟨rfl, rfl, rfl, by decide +kernel, rfl, by decide +kernel, by decide +kernel⟩
local macro_rules | `(tactic| kas_types) => `(tactic| first | exact ixd_p0 | exact ixd_p1)
theorem ok_lcross (D : DefAt K mg "_law_cross" sLCross) : Cal P w K mg base CX0 "_law_cross" 1 ["a", "b", "c"] (spLCross K) := by
  refine cal_mk 0 D scLCross (fun _ _ _ _ _ _ us hl => match us, hl with | [_, _, _], _ => rfl) (fun _ => rfl) (by decide) (fun f cdv A outer s H E c x hr hp => ?_)
  obtain ⟨p, q, r⟩ := x
  obtain ⟨⟨a1, a2, a3, a4⟩, ⟨b1, b2, b3, b4⟩, c1, c2, c3, c4⟩ := hp
  dsimp only at *
  apply xb_one
  apply xs_ret (x := .int (cross p q r))
  · unfold cross
    lcg_sub
    all_goals exact mulB (by omega) (by omega) (by omega) (by omega)
  · rfl
end
end K81
set_option maxRecDepth 100000
set_option maxHeartbeats 0
namespace K81
open PySem PySem.Spec PyProof.Rows L2 Dt
local macro_rules | `(tactic| keq_hits) => `(tactic| first | exact Or.inl rfl | exact Or.inr (Or.inl rfl) | exact Or.inr (Or.inr rfl))
local macro_rules | `(tactic| keq_rows) => `(tactic| (apply xe_nmX; first
  | (refine xnm 0 rfl ?_ rfl (by decide) (by decide); keq_hits; done)
  | (refine xnm 1 rfl ?_ rfl (by decide) (by decide); keq_hits; done)
  | (refine xnm 2 rfl ?_ rfl (by decide) (by decide); keq_hits; done)
  | (refine xnm 3 rfl ?_ rfl (by decide) (by decide); keq_hits; done)
  | (refine xnm 4 rfl ?_ rfl (by decide) (by decide); keq_hits; done)
  | (refine xnm 5 rfl ?_ rfl (by decide) (by decide); keq_hits; done)
  | (refine xnm 6 rfl ?_ rfl (by decide) (by decide); keq_hits; done)
  | (refine xnm 7 rfl ?_ rfl (by decide) (by decide); keq_hits; done)
  | (refine xnm 8 rfl ?_ rfl (by decide) (by decide); keq_hits; done)
  | (refine xnm 9 rfl ?_ rfl (by decide) (by decide); keq_hits; done)
  | (refine xnm 10 rfl ?_ rfl (by decide) (by decide); keq_hits; done)
  | (refine xnm 11 rfl ?_ rfl (by decide) (by decide); keq_hits; done)
  | (refine xnm 12 rfl ?_ rfl (by decide) (by decide); keq_hits; done)
  | (refine xnm 13 rfl ?_ rfl (by decide) (by decide); keq_hits; done)
  | (refine xnm 14 rfl ?_ rfl (by decide) (by decide); keq_hits; done)
  | (refine xnm 15 rfl ?_ rfl (by decide) (by decide); keq_hits; done)
  | (refine xnm 16 rfl ?_ rfl (by decide) (by decide); keq_hits; done)
  | (refine xnm 17 rfl ?_ rfl (by decide) (by decide); keq_hits; done)
  | (refine xnm 18 rfl ?_ rfl (by decide) (by decide); keq_hits; done)
  | (refine xnm 19 rfl ?_ rfl (by decide) (by decide); keq_hits; done)
  | (refine xnm 20 rfl ?_ rfl (by decide) (by decide); keq_hits; done)
  | (refine xnm 21 rfl ?_ rfl (by decide) (by decide); keq_hits; done)
  | (refine xnm 22 rfl ?_ rfl (by decide) (by decide); keq_hits; done)
  | (refine xnm 23 rfl ?_ rfl (by decide) (by decide); keq_hits; done)))
local macro_rules | `(tactic| kas_types) => `(tactic| fail)
local macro_rules | `(tactic| kpf_c) => `(tactic| fail)
local macro_rules | `(tactic| lcg_off) => `(tactic| first
  | exact xe_int | exact xe_str | exact xe_non | exact xe_bl | keq_rows
  | apply xe_op | apply (xe_ix (hs := fun _ _ => rfl)) 
  | apply (xe_cmp (hm := nomark _)) | apply (xt_cmp (hm := nomark _)) | apply (xe_chain0 (hm := by with_unfolding_all rfl))
  | apply xe_not | apply xt_not | apply xe_un
  | apply xe_one | apply xe_and0 | apply xe_or0
  | (apply xt_w; first | apply xw_and0 | apply xw_or0) | apply xw_and0 | apply xw_or0 | apply xw_and1 | apply xw_or1
  | apply (xt_val (he := by intro _; rfl))
  | exact xa_nil | apply (xa_one (hs := rfl)) | apply (xa_cons (hs := rfl))
  | kpf_c
  | exact opd_add | exact opd_sub | exact opd_sub_bb | apply opd_mul | apply opd_mod | apply opd_div
  | exact opd_lt | exact opd_le | exact opd_gt | exact opd_ge | exact opd_eqI | exact opd_neI | exact opd_eqB | exact opd_neB | exact opd_eqS | exact opd_neS | exact und_neg
  | exact ixd_t0 | exact ixd_t1 | exact ixd_t2
  | exact cd_min2 rfl | exact cd_max2 rfl | exact cd_len | exact cd_lenT | exact cd_int | exact cd_abs | exact cd_list
  | kas_types)
local macro_rules | `(tactic| lcg_sub) => `(tactic| repeat' lcg_off)
/-! ### joining -/
theorem xb_mono {X : Cx} {c : Dt.Ctx} {st : List Stmt} {ds : Ds} {Q : Post} {J : Ds → Prop} (h : XB X c st ds { Q with nx := J }) (hJ : ∀ ds, J ds → Q.nx ds) : XB X c st ds Q :=
  ⟨fun F σ H D E m => h.run F σ H D E ⟨fun F' σ' H' ds' s' E' e => m.nx F' σ' H' ds' s' E' (hJ ds' e), m.rt, m.bk, m.ct⟩⟩
theorem xs_ifJ {X : Cx} {c : Dt.Ctx} {e : Expr} {t : List Stmt} {pos : Pos} {ds ds1 : Ds} {Q : Post} {k : Bool} (J : Ds → Prop) (hc : XT X c e ds k ds1) (h1 : k = true → XB X c t ds1 { Q with nx := J }) (h2 : k = false → J ds1) (hJ : ∀ ds, J ds → Q.nx ds) : XS X c (.If e t [] pos) ds Q :=
  xs_if hc (fun hk => xb_mono (h1 hk) hJ) (fun hk => xb_nil (hJ _ (h2 hk)))
/-! ### what the law needs of the plain functions -/
def leastV (ps : List Pt) : Pt := minPair (swp (nth ps 0)) ((ps.drop 1).map swp)
structure Facts (ps more : List Pt) : Prop where
  none_iff : (hullL ps).length < 3 ↔ ∀ a ∈ ps, ∀ b ∈ ps, cross (nth ps 0) a b = 0
  simple : ¬ (hullL ps).length < 3 → isSimple (hullL ps) = true
  area : ¬ (hullL ps).length < 3 → 0 < area2 (hullL ps)
  least : ¬ (hullL ps).length < 3 → swp (nth (hullL ps) 0) = leastV ps
  left : ¬ (hullL ps).length < 3 → ∀ k, k < (hullL ps).length → ∀ p ∈ ps, 0 ≤ cross (nth (hullL ps) k) (nth (hullL ps) ((k + 1) % (hullL ps).length)) p
  turn : ¬ (hullL ps).length < 3 → ∀ k, k < (hullL ps).length → 0 < cross (nth (hullL ps) k) (nth (hullL ps) ((k + 1) % (hullL ps).length)) (nth (hullL ps) ((k + 2) % (hullL ps).length))
  notOut : ¬ (hullL ps).length < 3 → ∀ p ∈ ps, whereF (hullL ps) p ≠ "outside"
  notIn : ¬ (hullL ps).length < 3 → ∀ p ∈ hullL ps, whereF (hullL ps) p ≠ "inside"
  again : ¬ (hullL ps).length < 3 → hullL (hullL ps) = hullL ps
  back : ¬ (hullL ps).length < 3 → hullL ps.reverse = hullL ps
  wide : ¬ (hullL ps).length < 3 → ¬ (hullL (ps ++ more)).length < 3
  wideA : ¬ (hullL ps).length < 3 → area2 (hullL ps) ≤ area2 (hullL (ps ++ more))
  halfA : ¬ (hullL ps).length < 3 → ∀ i k, okHalf (hullL ps) i k → area2 (partOf (hullL ps) i k) + area2 (partOf (hullL ps) k i) = area2 (hullL ps)
  halfS : ¬ (hullL ps).length < 3 → ∀ i k, okHalf (hullL ps) i k → isSimple (partOf (hullL ps) i k) = true ∧ 0 < area2 (partOf (hullL ps) i k)
  halfO : ¬ (hullL ps).length < 3 → ∀ i k, okHalf (hullL ps) i k → ∀ z, (whereF (hullL ps) z = "outside" ↔ whereF (partOf (hullL ps) i k) z = "outside" ∧ whereF (partOf (hullL ps) k i) z = "outside")
  halfI : ¬ (hullL ps).length < 3 → ∀ i k, okHalf (hullL ps) i k → ∀ z, ¬ (whereF (partOf (hullL ps) i k) z = "inside" ∧ whereF (partOf (hullL ps) k i) z = "inside")
section
variable {X : Cx} {c : Dt.Ctx} {ds ds1 : Ds} {e : Expr} {es : List Expr} {p pos : Pos} {k : Nat}
theorem call_simple {ps : List Pt} (C : Cal X.prog X.w X.K X.mg X.base CX0 "is_simple" 4 ["polygon"] (spSimple X.K)) (hr : Room k X.A) (hk : 4 ≤ k)
    (hg : Gl X "is_simple") (he : starEach (e :: es) X.env = (false, eval e X.env) :: starEach es X.env) (hpl : (backTo pos (starEach es X.env)).any (·.1) = false) (h : XA X c (e :: es) ds [.list (ps.map pt)] ds1) (ho : okP ps ∧ inBs ps) : XE X c (.Call (.Name "is_simple" p) (e :: es) [] pos) ds (.bool (isSimple ps)) ds1 :=
  xe_call C (hr.mono hk) ps h ho hg (by decide) he hpl
theorem call_turning {ps : List Pt} (C : Cal X.prog X.w X.K X.mg X.base CX0 "turning" 3 ["polygon"] (spTurning X.K)) (hr : Room k X.A) (hk : 3 ≤ k)
    (hg : Gl X "turning") (he : starEach (e :: es) X.env = (false, eval e X.env) :: starEach es X.env) (hpl : (backTo pos (starEach es X.env)).any (·.1) = false) (h : XA X c (e :: es) ds [.list (ps.map pt)] ds1) (ho : okP ps ∧ inBs ps) : XE X c (.Call (.Name "turning" p) (e :: es) [] pos) ds (.int (sgn (area2 ps))) ds1 :=
  xe_call C (hr.mono hk) ps h ho hg (by decide) he hpl
theorem call_where {ps : List Pt} {z : Pt} (C : Cal X.prog X.w X.K X.mg X.base CX0 "where" 3 ["polygon", "point"] (spWhere X.K)) (hr : Room k X.A) (hk : 3 ≤ k)
    (hg : Gl X "where") (he : starEach (e :: es) X.env = (false, eval e X.env) :: starEach es X.env) (hpl : (backTo pos (starEach es X.env)).any (·.1) = false) (h : XA X c (e :: es) ds [.list (ps.map pt), pt z] ds1) (ho : okP ps ∧ inBs ps) (hz : inB z) : XE X c (.Call (.Name "where" p) (e :: es) [] pos) ds (.str (whereF ps z)) ds1 :=
  xe_call C (hr.mono hk) (ps, z) h ⟨ho.1, ho.2, hz⟩ hg (by decide) he hpl
theorem call_halves {ps : List Pt} {i j : Nat} (C : Cal X.prog X.w X.K X.mg X.base CX0 "halves" 2 ["polygon", "i", "k"] (spHalves X.K)) (hr : Room k X.A) (hk : 2 ≤ k)
    (hg : Gl X "halves") (he : starEach (e :: es) X.env = (false, eval e X.env) :: starEach es X.env) (hpl : (backTo pos (starEach es X.env)).any (·.1) = false) (h : XA X c (e :: es) ds [.list (ps.map pt), .int (i : Nat), .int (j : Nat)] ds1) (ho : okHalf ps i j) : XE X c (.Call (.Name "halves" p) (e :: es) [] pos) ds (.tuple [.list ((partOf ps i j).map pt), .list ((partOf ps j i).map pt)]) ds1 :=
  xe_call C (hr.mono hk) (ps, i, j) h ho hg (by decide) he hpl
theorem call_lhull {ps : List Pt} (C : Cal X.prog X.w X.K X.mg X.base CX0 "_law_hull" 5 ["points"] (spLHull X.K)) (hr : Room k X.A) (hk : 5 ≤ k)
    (hg : Gl X "_law_hull") (he : starEach (e :: es) X.env = (false, eval e X.env) :: starEach es X.env) (hpl : (backTo pos (starEach es X.env)).any (·.1) = false) (h : XA X c (e :: es) ds [.list (ps.map pt)] ds1) (ho : ps.length < 64 ∧ inBs ps) : XE X c (.Call (.Name "_law_hull" p) (e :: es) [] pos) ds (hullD ps) ds1 :=
  xe_call C (hr.mono hk) ps h ho hg (by decide) he hpl
theorem call_hullof {Cl : Addr} {ps : List Pt} (C : Cal X.prog X.w X.K X.mg X.base (L2.CX X.prog X.w) "hull_of" 4 ["points"] (spHull X.K Cl)) (hr : Room k X.A) (hk : 4 ≤ k)
    (hg : Gl X "hull_of") (he : starEach (e :: es) X.env = (false, eval e X.env) :: starEach es X.env) (hpl : (backTo pos (starEach es X.env)).any (·.1) = false) (h : XA X c (e :: es) ds [.list (ps.map pt)] ds1) (ho : ps.length < 64 ∧ inBs ps) (h3 : ¬ (hullL ps).length < 3) : XE X c (.Call (.Name "hull_of" p) (e :: es) [] pos) ds (.list ((hullL ps).map pt)) ds1 :=
  xe_callX C (hr.mono hk) ps h ho (by unfold hullO; rw [if_neg h3]) hg (by decide) he hpl
theorem call_lcross {a b d : Pt} (C : Cal X.prog X.w X.K X.mg X.base CX0 "_law_cross" 1 ["a", "b", "c"] (spLCross X.K)) (hr : Room k X.A) (hk : 1 ≤ k)
    (hg : Gl X "_law_cross") (he : starEach (e :: es) X.env = (false, eval e X.env) :: starEach es X.env) (hpl : (backTo pos (starEach es X.env)).any (·.1) = false) (h : XA X c (e :: es) ds [pt a, pt b, pt d] ds1) (ho : inB a ∧ inB b ∧ inB d) : XE X c (.Call (.Name "_law_cross" p) (e :: es) [] pos) ds (.int (cross a b d)) ds1 :=
  xe_call C (hr.mono hk) (a, b, d) h ho hg (by decide) he hpl
theorem call_points (i : Nat) {pn : Str} {npos : Pos} {rows rows0 : List Int} {po po0 : Int} {many : Nat} (C : Cal X.prog X.w X.K X.mg X.base CX0 "_law_points" 4 ["pool", "many"] (spPoints X.K)) (hr : Room k X.A) (hk : 4 ≤ k)
    (hg : Gl X "_law_points") (he : starEach (.Name pn npos :: es) X.env = (false, eval (.Name pn npos) X.env) :: starEach es X.env) (hpl : (backTo pos (starEach es X.env)).any (·.1) = false) (hd : ds[i]? = some (some (.pool rows0 po0))) (hN : X.N[i]? = some pn) (hv : Vis X.env.scope pn) (h1 : (pn == ("__debug__" : Str)) = false) (h2 : (pn == ("__classdict__" : Str)) = false)
    (h : XA X c es ds [.int (many : Nat)] ds1) (hd1 : ds1[i]? = some (some (.pool rows po))) (hR : okR rows) (hq : 0 ≤ po ∧ po < 900000) (hm : many ≤ 20) : XE X c (.Call (.Name "_law_points" p) (.Name pn npos :: es) [] pos) ds (.list ((pointsV rows po many).map pt)) (ds1.set i (some (.pool rows (po + 18 * (many : Nat))))) :=
  xe_callP i C (hr.mono hk) (rows, po, many) hd hN hv h hd1 ⟨hR, hq.1, hq.2, hm⟩ hg h1 h2 (by decide) he hpl
end
def gridV (rows : List Int) (po : Int) : Nat → List Pt
  | 0 => []
  | k + 1 => gridV rows po k ++ [(10000000 * drawV rows (po + 2 * (k : Nat)) 5, 10000000 * drawV rows (po + 2 * (k : Nat) + 1) 5)]
theorem gridV_len (rows : List Int) (po : Int) : ∀ k, (gridV rows po k).length = k
  | 0 => rfl
  | k + 1 => by
    unfold gridV
    rw [List.length_append, gridV_len rows po k]
    rfl
theorem gridV_in (rows : List Int) (po : Int) : ∀ k, inBs (gridV rows po k)
  | 0 => fun p h => nomatch h
  | k + 1 => by
    intro p hp
    unfold gridV at hp
    rcases List.mem_append.mp hp with h | h
    · exact gridV_in rows po k p h
    · rw [List.mem_singleton.mp h]
      have h1 := drawV_bd (rows := rows) (p := po + 2 * (k : Nat)) (many := 5) (by omega)
      have h2 := drawV_bd (rows := rows) (p := po + 2 * (k : Nat) + 1) (many := 5) (by omega)
      unfold inB
      dsimp only
      omega
def unpt : PyData → Pt
  | .tuple [.int a, .int b] => (a, b)
  | _ => o0
theorem unpt_pt (p : Pt) : unpt (pt p) = p := rfl
theorem fil_pts (ps : List Pt) (k : Pt → Bool) (f : PyData → PyData) : ((ps.map pt).filter (fun x => k (unpt x))).map f = (ps.filter k).map (fun p => f (pt p)) := by
  rw [List.filter_map, List.map_map]
  rfl
end K81
set_option maxRecDepth 100000
set_option maxHeartbeats 0
namespace K81
open PySem PySem.Spec PyProof.Rows L2 Dt
local macro_rules | `(tactic| keq_hits) => `(tactic| first | exact Or.inl rfl | exact Or.inr (Or.inl rfl) | exact Or.inr (Or.inr rfl))
local macro_rules | `(tactic| keq_rows) => `(tactic| (apply xe_nmX; first
  | (refine xnm 0 rfl ?_ rfl (by decide) (by decide); keq_hits; done)
  | (refine xnm 1 rfl ?_ rfl (by decide) (by decide); keq_hits; done)
  | (refine xnm 2 rfl ?_ rfl (by decide) (by decide); keq_hits; done)
  | (refine xnm 3 rfl ?_ rfl (by decide) (by decide); keq_hits; done)
  | (refine xnm 4 rfl ?_ rfl (by decide) (by decide); keq_hits; done)
  | (refine xnm 5 rfl ?_ rfl (by decide) (by decide); keq_hits; done)
  | (refine xnm 6 rfl ?_ rfl (by decide) (by decide); keq_hits; done)
  | (refine xnm 7 rfl ?_ rfl (by decide) (by decide); keq_hits; done)
  | (refine xnm 8 rfl ?_ rfl (by decide) (by decide); keq_hits; done)
  | (refine xnm 9 rfl ?_ rfl (by decide) (by decide); keq_hits; done)
  | (refine xnm 10 rfl ?_ rfl (by decide) (by decide); keq_hits; done)
  | (refine xnm 11 rfl ?_ rfl (by decide) (by decide); keq_hits; done)
  | (refine xnm 12 rfl ?_ rfl (by decide) (by decide); keq_hits; done)
  | (refine xnm 13 rfl ?_ rfl (by decide) (by decide); keq_hits; done)
  | (refine xnm 14 rfl ?_ rfl (by decide) (by decide); keq_hits; done)
  | (refine xnm 15 rfl ?_ rfl (by decide) (by decide); keq_hits; done)
  | (refine xnm 16 rfl ?_ rfl (by decide) (by decide); keq_hits; done)
  | (refine xnm 17 rfl ?_ rfl (by decide) (by decide); keq_hits; done)
  | (refine xnm 18 rfl ?_ rfl (by decide) (by decide); keq_hits; done)
  | (refine xnm 19 rfl ?_ rfl (by decide) (by decide); keq_hits; done)
  | (refine xnm 20 rfl ?_ rfl (by decide) (by decide); keq_hits; done)
  | (refine xnm 21 rfl ?_ rfl (by decide) (by decide); keq_hits; done)
  | (refine xnm 22 rfl ?_ rfl (by decide) (by decide); keq_hits; done)
  | (refine xnm 23 rfl ?_ rfl (by decide) (by decide); keq_hits; done)))
local macro_rules | `(tactic| kas_types) => `(tactic| fail)
local macro_rules | `(tactic| kpf_c) => `(tactic| fail)
local macro_rules | `(tactic| lcg_off) => `(tactic| first
  | exact xe_int | exact xe_str | exact xe_non | exact xe_bl | keq_rows
  | apply xe_op | apply (xe_ix (hs := fun _ _ => rfl)) 
  | apply (xe_cmp (hm := nomark _)) | apply (xt_cmp (hm := nomark _)) | apply (xe_chain0 (hm := by with_unfolding_all rfl))
  | apply xe_not | apply xt_not | apply xe_un
  | apply xe_one | apply xe_and0 | apply xe_or0
  | (apply xt_w; first | apply xw_and0 | apply xw_or0) | apply xw_and0 | apply xw_or0 | apply xw_and1 | apply xw_or1
  | apply (xt_val (he := by intro _; rfl))
  | exact xa_nil | apply (xa_one (hs := rfl)) | apply (xa_cons (hs := rfl))
  | kpf_c
  | exact opd_add | exact opd_sub | exact opd_sub_bb | apply opd_mul | apply opd_mod | apply opd_div
  | exact opd_lt | exact opd_le | exact opd_gt | exact opd_ge | exact opd_eqI | exact opd_neI | exact opd_eqB | exact opd_neB | exact opd_eqS | exact opd_neS | exact und_neg
  | exact ixd_t0 | exact ixd_t1 | exact ixd_t2
  | exact cd_min2 rfl | exact cd_max2 rfl | exact cd_len | exact cd_lenT | exact cd_int | exact cd_abs | exact cd_list
  | kas_types)
local macro_rules | `(tactic| lcg_sub) => `(tactic| repeat' lcg_off)
local macro_rules | `(tactic| kas_types) => `(tactic| first
  | (apply xe_bi (n := "len"); rfl; exact Fx.len (by assumption); exact bt_len; exact hn_len; rfl; rfl))
local macro_rules | `(tactic| kas_types) => `(tactic| first
  | (apply xe_ty (n := "int"); rfl; exact Fy.int (by assumption); exact bt_int; exact hn_int; rfl; rfl)
  | (apply xe_ty (n := "list"); rfl; exact Fy.list (by assumption); exact bt_list; exact hn_list; rfl; rfl))
local macro_rules | `(tactic| kas_types) => `(tactic| first
  | (apply call_simple; assumption; assumption; decide; rfl; rfl; rfl)
  | (apply call_turning; assumption; assumption; decide; rfl; rfl; rfl)
  | (apply call_area; assumption; assumption; decide; rfl; rfl; rfl)
  | (apply call_where; assumption; assumption; decide; rfl; rfl; rfl)
  | (apply call_halves; assumption; assumption; decide; rfl; rfl; rfl)
  | (apply call_lhull; assumption; assumption; decide; rfl; rfl; rfl)
  | (apply call_hullof; assumption; assumption; decide; rfl; rfl; rfl)
  | (apply call_lcross; assumption; assumption; decide; rfl; rfl; rfl))
local macro_rules | `(tactic| kpf_c) => `(tactic| first | exact cd_lenP | apply ixd_pts | exact ixd_p0 | exact ixd_p1 | exact opd_notB)
abbrev nLaw : List Str := ["script", "pool", "points", "k", "hull", "lines", "a", "b", "n", "point", "more", "wide", "i", "one", "two", "place", "parts"]
theorem scLaw : FnScope nLaw ["script"] (defScope sLaw) := ⟨rfl, rfl, rfl, by decide +kernel, rfl, by decide +kernel, by decide +kernel⟩
section
variable {P : Program} {w : World} {K : PySem.W.Frag} {mg : Str → Option Value} {base : Heap}
abbrev stL (i : Nat) : Stmt := (defBody sLaw).getD i (.Pass ⟨0, 0, 0, 0⟩)
abbrev lawTail (i : Nat) : List Stmt := (defBody sLaw).drop i
abbrev Sm := { x : List Pt // x.length ≤ 1000 }
structure Calls (P : Program) (w : World) (K : PySem.W.Frag) (mg : Str → Option Value) (base : Heap) (Cl : Addr) : Prop where
  draw : Cal P w K mg base CX0 "_law_draw" 1 ["pool", "many"] (spDraw K)
  points : Cal P w K mg base CX0 "_law_points" 4 ["pool", "many"] (spPoints K)
  lhull : Cal P w K mg base CX0 "_law_hull" 5 ["points"] (spLHull K)
  lcross : Cal P w K mg base CX0 "_law_cross" 1 ["a", "b", "c"] (spLCross K)
  simple : Cal P w K mg base CX0 "is_simple" 4 ["polygon"] (spSimple K)
  turning : Cal P w K mg base CX0 "turning" 3 ["polygon"] (spTurning K)
  area : Cal P w K mg base CX0 "double_area" 2 ["polygon"] (spArea K)
  whr : Cal P w K mg base CX0 "where" 3 ["polygon", "point"] (spWhere K)
  halves : Cal P w K mg base CX0 "halves" 2 ["polygon", "i", "k"] (spHalves K)
  hullof : Cal P w K mg base (L2.CX P w) "hull_of" 4 ["points"] (spHull K Cl)
  equal : Cal P w K mg base CX0 "_law_equal" 4 ["x", "due"] (SpD K (fun p : Sm × Sm => [.list (p.1.1.map pt), .list (p.2.1.map pt)]) (fun _ => True) (fun p => .bool (decide (p.1 = p.2))))
/-- the law's own frame -/
abbrev lawCx (P : Program) (w : World) (K : PySem.W.Frag) (mg : Str → Option Value) (base : Heap) (f : Addr) (cdv : Value) (A : Around) (outer : List Env) (s : Shared) (H : Hp) (E : XK) : Cx := (bodyCx CX0 P w K mg base nLaw "law" sLaw f cdv A outer s H E).nox
abbrev lawPost : Post := { nx := fun _ => False, rt := fun d _ => d = .bool true }
/-- what stands when the points are drawn -/
def At2 (ns : List Int) (rows : List Int) (ds : Ds) : Prop := ∃ (ps : List Pt) (po : Int), 3 ≤ ps.length ∧ ps.length ≤ 8 ∧ inBs ps ∧ 0 ≤ po ∧ po ≤ 1000 ∧
  ds = [some (.scr ns), some (.pool rows po), some (.d (.list (ps.map pt))), none, none, none, none, none, none, none, none, none, none, none, none, none, none]
theorem law_one {Cl : Addr} (T : Fx mg) (T2 : Fy mg) (C : Calls P w K mg base Cl) {f : Addr} {cdv : Value} {A : Around} {outer : List Env} {s : Shared} {H : Hp} {E : XK} {c : Dt.Ctx} {ns rows : List Int} (hr : Room 5 (A.deeper (envOfC "law" (defScope sLaw) s.heap.objs.size f cdv))) (hR : okR rows)
    (hrest : ∀ ds, At2 ns rows ds → XB (lawCx P w K mg base f cdv A outer s H E) c (lawTail 3) ds lawPost) :
    XB (lawCx P w K mg base f cdv A outer s H E) c (lawTail 1) (some (.scr ns) :: some (.pool rows 0) :: startD (nLaw.drop 2) []) lawPost := by
  have b0 := drawV_bd (rows := rows) (p := 0) (many := 5) (by omega)
  obtain ⟨m1, hm1⟩ : ∃ m1 : Nat, 4 + drawV rows 0 5 = (m1 : Nat) := ⟨(4 + drawV rows 0 5).toNat, by omega⟩
  refine xb_cons (st := stL 1) (sts := lawTail 2) ?_
  apply xs_set 2 scLaw.nd rfl (.inr rfl) (x := .list ((pointsV rows 1 m1).map pt)) (ds1 := [some (.scr ns), some (.pool rows (1 + 18 * (m1 : Nat))), none, none, none, none, none, none, none, none, none, none, none, none, none, none, none])
  · apply call_points 1 (ds1 := [some (.scr ns), some (.pool rows 1), none, none, none, none, none, none, none, none, none, none, none, none, none, none, none]) C.points hr (by decide)
    · rfl
    · rfl
    · rfl
    · rfl
    · rfl
    · exact .inr (.inl rfl)
    · decide
    · decide
    · apply (xa_one (hs := rfl))
      apply xe_to (x := .int (4 + drawV rows 0 5))
      · apply xe_op
        · lcg_sub
        · apply call_draw 1 (po := 0) (rows := rows) (many := 5) (ds1 := [some (.scr ns), some (.pool rows 0), none, none, none, none, none, none, none, none, none, none, none, none, none, none, none]) C.draw hr (by decide)
          · rfl
          · rfl
          · rfl
          · rfl
          · rfl
          · exact .inr (.inl rfl)
          · decide
          · decide
          · lcg_sub
          · rfl
          · exact hR
          · exact ⟨by omega, by omega⟩
          · omega
        · exact opd_add
      · rw [hm1]
    · rfl
    · exact hR
    · omega
    · omega
  obtain ⟨p1, hp1⟩ : ∃ p1 : Int, p1 = 1 + 18 * ((m1 : Nat) : Int) := ⟨_, rfl⟩
  rw [← hp1]
  refine xb_cons (st := stL 2) (sts := lawTail 3) ?_
  apply xs_ifJ (k := decide (drawV rows p1 2 = 0)) (ds1 := [some (.scr ns), some (.pool rows (p1 + 1)), some (.d (.list ((pointsV rows 1 m1).map pt))), none, none, none, none, none, none, none, none, none, none, none, none, none, none]) (At2 ns rows)
  · apply (xt_cmp (hm := nomark _))
    · apply call_draw 1 (po := p1) (rows := rows) (many := 2) (ds1 := [some (.scr ns), some (.pool rows p1), some (.d (.list ((pointsV rows 1 m1).map pt))), none, none, none, none, none, none, none, none, none, none, none, none, none, none]) C.draw hr (by decide)
      · rfl
      · rfl
      · rfl
      · rfl
      · rfl
      · exact .inr (.inl rfl)
      · decide
      · decide
      · lcg_sub
      · rfl
      · exact hR
      · exact ⟨by omega, by omega⟩
      · omega
    · lcg_sub
    · exact opd_eqI
  · intro _
    have b1 := drawV_bd (rows := rows) (p := p1 + 1) (many := 5) (by omega)
    obtain ⟨m2, hm2⟩ : ∃ m2 : Nat, 3 + drawV rows (p1 + 1) 5 = (m2 : Nat) := ⟨(3 + drawV rows (p1 + 1) 5).toNat, by omega⟩
    apply xb_one
    apply xs_set 2 scLaw.nd rfl (.inr rfl) (x := .list ((gridV rows (p1 + 2) m2).map pt)) (ds1 := [some (.scr ns), some (.pool rows (p1 + 2 + 2 * (m2 : Nat))), some (.d (.list ((pointsV rows 1 m1).map pt))), none, none, none, none, none, none, none, none, none, none, none, none, none, none])
    · apply xe_lcO (own := [("k", 3)]) rfl scLaw.nd (blkOk_by (N := nLaw) (sc := defScope sLaw) (by decide +kernel))
      · refine lc_J (xs := rngD 0 m2) (ds1 := [some (.scr ns), some (.pool rows (p1 + 2)), some (.d (.list ((pointsV rows 1 m1).map pt))), none, none, none, none, none, none, none, none, none, none, none, none, none, none]) [("k", 3)] ?_
          (fun i acc ds => acc = (gridV rows (p1 + 2) i).map pt ∧ ds = [some (.scr ns), some (.pool rows (p1 + 2 + 2 * (i : Nat))), some (.d (.list ((pointsV rows 1 m1).map pt))), none, none, none, none, none, none, none, none, none, none, none, none, none, none]) ⟨rfl, by rw [show p1 + 2 + 2 * ((0 : Nat) : Int) = p1 + 2 by omega]; rfl⟩ (by rw [rngD_len]; exact sizeL (by omega)) (fun c' hM i x acc ds hx hle hJ => ?_) (fun acc ds hle hJ => ?_)
        · have e : m2 = (3 + drawV rows (p1 + 1) 5).toNat := by omega
          rw [e]
          apply xi_range1
          · rfl
          · exact T.range
          · apply xe_op
            · lcg_sub
            · have e : p1 + 2 = p1 + 1 + 1 := by omega
              rw [e]
              apply call_draw 1 (po := p1 + 1) (rows := rows) (many := 5) (ds1 := [some (.scr ns), some (.pool rows (p1 + 1)), some (.d (.list ((pointsV rows 1 m1).map pt))), none, none, none, none, none, none, none, none, none, none, none, none, none, none]) C.draw hr (by decide)
              · rfl
              · rfl
              · rfl
              · rfl
              · rfl
              · exact .inr (.inl rfl)
              · decide
              · decide
              · lcg_sub
              · rfl
              · exact hR
              · exact ⟨by omega, by omega⟩
              · omega
            · exact opd_add
          · omega
          · omega
          · rfl
        · obtain ⟨hi, rfl⟩ := rngD_at hx
          rw [Int.zero_add]
          obtain ⟨rfl, rfl⟩ := hJ
          have hnx : gridV rows (p1 + 2) (i + 1) = gridV rows (p1 + 2) i ++ [(10000000 * drawV rows (p1 + 2 + 2 * (i : Nat)) 5, 10000000 * drawV rows (p1 + 2 + 2 * (i : Nat) + 1) 5)] := rfl
          have e2 : p1 + 2 + 2 * ((i + 1 : Nat) : Int) = p1 + 2 + 2 * (i : Nat) + 1 + 1 := by omega
          refine ⟨[3], _, fun s' H' C' cl fp => xg_name 3 scLaw.nd rfl (.inl rfl), by decide, true, _, fun s' H' C' cl fp => xifs_nil, fun _ => ⟨pt (10000000 * drawV rows (p1 + 2 + 2 * (i : Nat)) 5, 10000000 * drawV rows (p1 + 2 + 2 * (i : Nat) + 1) 5), [some (.scr ns), some (.pool rows (p1 + 2 + 2 * (i : Nat) + 1 + 1)), some (.d (.list ((pointsV rows 1 m1).map pt))), some (.d (.int (i : Nat))), none, none, none, none, none, none, none, none, none, none, none, none, none], fun s' H' C' cl fp => ?_, ?_, ?_⟩, fun z => nomatch z⟩
          · apply xe_tup (xs := [.int (10000000 * drawV rows (p1 + 2 + 2 * (i : Nat)) 5), .int (10000000 * drawV rows (p1 + 2 + 2 * (i : Nat) + 1) 5)])
            · apply (xa_cons (hs := rfl) (ds1 := [some (.scr ns), some (.pool rows (p1 + 2 + 2 * (i : Nat) + 1)), some (.d (.list ((pointsV rows 1 m1).map pt))), some (.d (.int (i : Nat))), none, none, none, none, none, none, none, none, none, none, none, none, none]))
              · apply xe_op
                · lcg_sub
                · apply call_draw 1 (po := p1 + 2 + 2 * (i : Nat)) (rows := rows) (many := 5) (ds1 := [some (.scr ns), some (.pool rows (p1 + 2 + 2 * (i : Nat))), some (.d (.list ((pointsV rows 1 m1).map pt))), some (.d (.int (i : Nat))), none, none, none, none, none, none, none, none, none, none, none, none, none]) C.draw hr (by decide)
                  · rfl
                  · rfl
                  · rfl
                  · rfl
                  · rfl
                  · first | exact .inl rfl | exact .inr (.inl rfl) | exact .inr (.inr rfl)
                  · decide
                  · decide
                  · lcg_sub
                  · rfl
                  · exact hR
                  · exact ⟨by omega, by omega⟩
                  · omega
                · exact opd_mulC (.inl ⟨by decide, by decide⟩)
              · apply (xa_one (hs := rfl))
                apply xe_op
                · lcg_sub
                · apply call_draw 1 (po := p1 + 2 + 2 * (i : Nat) + 1) (rows := rows) (many := 5) (ds1 := [some (.scr ns), some (.pool rows (p1 + 2 + 2 * (i : Nat) + 1)), some (.d (.list ((pointsV rows 1 m1).map pt))), some (.d (.int (i : Nat))), none, none, none, none, none, none, none, none, none, none, none, none, none]) C.draw hr (by decide)
                  · rfl
                  · rfl
                  · rfl
                  · rfl
                  · rfl
                  · first | exact .inl rfl | exact .inr (.inl rfl) | exact .inr (.inr rfl)
                  · decide
                  · decide
                  · lcg_sub
                  · rfl
                  · exact hR
                  · exact ⟨by omega, by omega⟩
                  · omega
                · exact opd_mulC (.inl ⟨by decide, by decide⟩)
            · show 2 ≤ sizeLine
              decide
          · rw [hnx, List.map_append]
            rfl
          · rw [e2]
            rfl
        · obtain ⟨rfl, rfl⟩ := hJ
          rw [rngD_len]
          exact ⟨rfl, rfl⟩
    · refine ⟨gridV rows (p1 + 2) m2, p1 + 2 + 2 * (m2 : Nat), by rw [gridV_len]; omega, by rw [gridV_len]; omega, gridV_in _ _ _, by omega, by omega, rfl⟩
  · intro _
    exact ⟨pointsV rows 1 m1, p1 + 1, by rw [pointsV_len]; omega, by rw [pointsV_len]; omega, pointsV_in _ _ _ (by omega), by omega, by omega, rfl⟩
  · exact hrest
end
end K81
set_option maxRecDepth 100000
set_option maxHeartbeats 0
namespace K81
open PySem PySem.Spec PyProof.Rows L2 Dt
local macro_rules | `(tactic| keq_hits) => `(tactic| first | exact Or.inl rfl | exact Or.inr (Or.inl rfl) | exact Or.inr (Or.inr rfl))
local macro_rules | `(tactic| keq_rows) => `(tactic| (apply xe_nmX; first
  | (refine xnm 0 rfl ?_ rfl (by decide) (by decide); keq_hits; done)
  | (refine xnm 1 rfl ?_ rfl (by decide) (by decide); keq_hits; done)
  | (refine xnm 2 rfl ?_ rfl (by decide) (by decide); keq_hits; done)
  | (refine xnm 3 rfl ?_ rfl (by decide) (by decide); keq_hits; done)
  | (refine xnm 4 rfl ?_ rfl (by decide) (by decide); keq_hits; done)
  | (refine xnm 5 rfl ?_ rfl (by decide) (by decide); keq_hits; done)
  | (refine xnm 6 rfl ?_ rfl (by decide) (by decide); keq_hits; done)
  | (refine xnm 7 rfl ?_ rfl (by decide) (by decide); keq_hits; done)
  | (refine xnm 8 rfl ?_ rfl (by decide) (by decide); keq_hits; done)
  | (refine xnm 9 rfl ?_ rfl (by decide) (by decide); keq_hits; done)
  | (refine xnm 10 rfl ?_ rfl (by decide) (by decide); keq_hits; done)
  | (refine xnm 11 rfl ?_ rfl (by decide) (by decide); keq_hits; done)
  | (refine xnm 12 rfl ?_ rfl (by decide) (by decide); keq_hits; done)
  | (refine xnm 13 rfl ?_ rfl (by decide) (by decide); keq_hits; done)
  | (refine xnm 14 rfl ?_ rfl (by decide) (by decide); keq_hits; done)
  | (refine xnm 15 rfl ?_ rfl (by decide) (by decide); keq_hits; done)
  | (refine xnm 16 rfl ?_ rfl (by decide) (by decide); keq_hits; done)
  | (refine xnm 17 rfl ?_ rfl (by decide) (by decide); keq_hits; done)
  | (refine xnm 18 rfl ?_ rfl (by decide) (by decide); keq_hits; done)
  | (refine xnm 19 rfl ?_ rfl (by decide) (by decide); keq_hits; done)
  | (refine xnm 20 rfl ?_ rfl (by decide) (by decide); keq_hits; done)
  | (refine xnm 21 rfl ?_ rfl (by decide) (by decide); keq_hits; done)
  | (refine xnm 22 rfl ?_ rfl (by decide) (by decide); keq_hits; done)
  | (refine xnm 23 rfl ?_ rfl (by decide) (by decide); keq_hits; done)))
local macro_rules | `(tactic| kas_types) => `(tactic| fail)
local macro_rules | `(tactic| kpf_c) => `(tactic| fail)
local macro_rules | `(tactic| lcg_off) => `(tactic| first
  | exact xe_int | exact xe_str | exact xe_non | exact xe_bl | keq_rows
  | apply xe_op | apply (xe_ix (hs := fun _ _ => rfl)) 
  | apply (xe_cmp (hm := nomark _)) | apply (xt_cmp (hm := nomark _)) | apply (xe_chain0 (hm := by with_unfolding_all rfl))
  | apply xe_not | apply xt_not | apply xe_un
  | apply xe_one | apply xe_and0 | apply xe_or0
  | (apply xt_w; first | apply xw_and0 | apply xw_or0) | apply xw_and0 | apply xw_or0 | apply xw_and1 | apply xw_or1
  | apply (xt_val (he := by intro _; rfl))
  | exact xa_nil | apply (xa_one (hs := rfl)) | apply (xa_cons (hs := rfl))
  | kpf_c
  | exact opd_add | exact opd_sub | exact opd_sub_bb | apply opd_mul | apply opd_mod | apply opd_div
  | exact opd_lt | exact opd_le | exact opd_gt | exact opd_ge | exact opd_eqI | exact opd_neI | exact opd_eqB | exact opd_neB | exact opd_eqS | exact opd_neS | exact und_neg
  | exact ixd_t0 | exact ixd_t1 | exact ixd_t2
  | exact cd_min2 rfl | exact cd_max2 rfl | exact cd_len | exact cd_lenT | exact cd_int | exact cd_abs | exact cd_list
  | kas_types)
local macro_rules | `(tactic| lcg_sub) => `(tactic| repeat' lcg_off)
local macro_rules | `(tactic| kas_types) => `(tactic| first
  | (apply xe_bi (n := "len"); rfl; exact Fx.len (by assumption); exact bt_len; exact hn_len; rfl; rfl))
local macro_rules | `(tactic| kas_types) => `(tactic| first
  | (apply xe_ty (n := "int"); rfl; exact Fy.int (by assumption); exact bt_int; exact hn_int; rfl; rfl)
  | (apply xe_ty (n := "list"); rfl; exact Fy.list (by assumption); exact bt_list; exact hn_list; rfl; rfl))
local macro_rules | `(tactic| kas_types) => `(tactic| first
  | (apply call_simple; assumption; assumption; decide; rfl; rfl; rfl)
  | (apply call_turning; assumption; assumption; decide; rfl; rfl; rfl)
  | (apply call_area; assumption; assumption; decide; rfl; rfl; rfl)
  | (apply call_where; assumption; assumption; decide; rfl; rfl; rfl)
  | (apply call_halves; assumption; assumption; decide; rfl; rfl; rfl)
  | (apply call_lhull; assumption; assumption; decide; rfl; rfl; rfl)
  | (apply call_hullof; assumption; assumption; decide; rfl; rfl; rfl)
  | (apply call_lcross; assumption; assumption; decide; rfl; rfl; rfl))
local macro_rules | `(tactic| kpf_c) => `(tactic| first | exact cd_lenP | apply ixd_pts | exact ixd_p0 | exact ixd_p1 | exact opd_notB)
section
variable {P : Program} {w : World} {K : PySem.W.Frag} {mg : Str → Option Value} {base : Heap}
def isNoneH (ps : List Pt) : Bool := decide ((hullL ps).length < 3)
theorem isNone_hull (ps : List Pt) : isNone (hullD ps) = isNoneH ps := by
  unfold hullD isNoneH
  split
  · rename_i h
    rw [decide_eq_true h]
    rfl
  · rename_i h
    rw [decide_eq_false h]
    rfl
theorem filter_nil {α : Type} {l : List α} {k : α → Bool} : l.filter k = [] ↔ ∀ x ∈ l, k x = false := by
  rw [List.filter_eq_nil_iff]
  constructor
  · intro h x hx
    have := h x hx
    cases e : k x with
    | true => exact absurd e this
    | false => rfl
  · intro h x hx e
    rw [h x hx] at e
    cases e
theorem law_two {Cl : Addr} (T : Fx mg) (T2 : Fy mg) (C : Calls P w K mg base Cl) {f : Addr} {cdv : Value} {A : Around} {outer : List Env} {s : Shared} {H : Hp} {E : XK} {c : Dt.Ctx} {ns rows : List Int} (hr : Room 5 (A.deeper (envOfC "law" (defScope sLaw) s.heap.objs.size f cdv))) (hR : okR rows) {ps : List Pt} {po : Int} (hl3 : 3 ≤ ps.length) (hl8 : ps.length ≤ 8) (hB : inBs ps) (hN : (hullL ps).length < 3 ↔ ∀ a ∈ ps, ∀ b ∈ ps, cross (nth ps 0) a b = 0)
    (hrest : ¬ (hullL ps).length < 3 → ∀ a ls, XB (lawCx P w K mg base f cdv A outer s H E) c (lawTail 8) [some (.scr ns), some (.pool rows po), some (.d (.list (ps.map pt))), none, some (.d (hullD ps)), some (.d (.list ls)), a, none, none, none, none, none, none, none, none, none, none] lawPost) :
    XB (lawCx P w K mg base f cdv A outer s H E) c (lawTail 3) [some (.scr ns), some (.pool rows po), some (.d (.list (ps.map pt))), none, none, none, none, none, none, none, none, none, none, none, none, none, none] lawPost := by
  obtain ⟨C1, C2, C3, C4, C5, C6, C7, C8, C9, C10, C11⟩ := C
  refine xb_cons (st := stL 3) (sts := lawTail 4) ?_
  apply xs_set 4 scLaw.nd rfl (.inl rfl) (x := hullD ps) (ds1 := [some (.scr ns), some (.pool rows po), some (.d (.list (ps.map pt))), none, none, none, none, none, none, none, none, none, none, none, none, none, none])
  · lcg_sub
    try exact ⟨by omega, hB⟩
  refine xb_cons (st := stL 4) (sts := lawTail 5) ?_
  apply xs_set 5 scLaw.nd rfl (.inl rfl) (x := .list []) (ds1 := [some (.scr ns), some (.pool rows po), some (.d (.list (ps.map pt))), none, some (.d (hullD ps)), none, none, none, none, none, none, none, none, none, none, none, none])
  · exact xe_lst xa_nil (Nat.zero_le _)
  refine xb_cons (st := stL 5) (sts := lawTail 6) ?_
  refine xs_for .never rfl (xs := ps.map pt) (ds1 := [some (.scr ns), some (.pool rows po), some (.d (.list (ps.map pt))), none, some (.d (hullD ps)), some (.d (.list [])), none, none, none, none, none, none, none, none, none, none, none]) ?_
    (fun i ds => ∃ (a : Option Sl) (ls : List PyData), ls.length ≤ 8 * i ∧ (ls = [] ↔ ∀ a ∈ ps.take i, ∀ b ∈ ps, cross (nth ps 0) a b = 0) ∧ ds = [some (.scr ns), some (.pool rows po), some (.d (.list (ps.map pt))), none, some (.d (hullD ps)), some (.d (.list ls)), a, none, none, none, none, none, none, none, none, none, none]) ⟨none, [], Nat.le_refl _, ⟨fun _ a h => (nomatch h), fun _ => rfl⟩, rfl⟩ (fun i x ds hx hJ => ?_) (fun ds hJ => ?_)
  · apply xi_list
    lcg_sub
  · obtain ⟨a, ls, hls, hiff, rfl⟩ := hJ
    rw [List.getElem?_map] at hx
    cases hs : ps[i]? with
    | none => rw [hs] at hx; cases hx
    | some z =>
      rw [hs] at hx
      cases hx
      have hzm : z ∈ ps := List.mem_of_getElem? hs
      have hi : i < ps.length := (List.getElem?_eq_some_iff.mp hs).1
      refine ⟨_, _, xg_name 6 scLaw.nd rfl (.inr rfl), ?_⟩
      apply xb_one
      have hfl := List.length_filter_le (fun b => !decide (cross (nth ps 0) z b = 0)) ps
      apply xs_set 5 scLaw.nd rfl (.inl rfl) (x := .list (ls ++ (ps.filter (fun b => !decide (cross (nth ps 0) z b = 0))).map (fun _ => PyData.int 1))) (ds1 := [some (.scr ns), some (.pool rows po), some (.d (.list (ps.map pt))), none, some (.d (hullD ps)), some (.d (.list ls)), some (.d (pt z)), none, none, none, none, none, none, none, none, none, none])
      · apply xe_op (x := .list ls) (y := .list ((ps.filter (fun b => !decide (cross (nth ps 0) z b = 0))).map (fun _ => PyData.int 1)))
        · lcg_sub
        · apply xe_lcO (own := [("b", 7)]) rfl scLaw.nd (blkOk_by (N := nLaw) (sc := defScope sLaw) (by decide +kernel))
          rw [← fil_pts ps (fun b => !decide (cross (nth ps 0) z b = 0)) (fun _ => PyData.int 1)]
          refine lc_fil (xs := ps.map pt) (ds1 := [some (.scr ns), some (.pool rows po), some (.d (.list (ps.map pt))), none, some (.d (hullD ps)), some (.d (.list ls)), some (.d (pt z)), none, none, none, none, none, none, none, none, none, none]) [("b", 7)] ?_ (by rw [List.length_map]; exact sizeL (by omega)) (fun _ => PyData.int 1) _ rfl (fun c' hM x hx => ?_)
          · apply xi_list
            lcg_sub
          · obtain ⟨q, hq, rfl⟩ := List.mem_map.mp hx
            refine ⟨[7], _, [some (.scr ns), some (.pool rows po), some (.d (.list (ps.map pt))), none, some (.d (hullD ps)), some (.d (.list ls)), some (.d (pt z)), some (.d (pt q)), none, none, none, none, none, none, none, none, none], fun s' H' C' cl fp => xg_name 7 scLaw.nd rfl (.inl rfl), by decide, fun s' H' C' cl fp => ?_, rfl, fun _ => ⟨_, fun s' H' C' cl fp => xe_int, rfl⟩⟩
            apply xifs_one
            apply (xt_cmp (hm := nomark _))
            · apply call_lcross (a := nth ps 0) (b := z) (d := q) C4 hr (by decide)
              · rfl
              · rfl
              · rfl
              · apply (xa_cons (hs := rfl))
                · apply (xe_ix (hs := fun _ _ => rfl))
                  · lcg_sub
                  · lcg_sub
                  · exact ixd_lst (atI_nat (j := 0) (by rw [List.getElem?_map, nth_at (by omega)]; rfl))
                · lcg_sub
              · exact ⟨hB _ (nth_mem (by omega)), hB _ hzm, hB _ hq⟩
            · lcg_sub
            · exact opd_neI
        · apply opd_cat
          rw [List.length_map]
          exact sizeL (by omega)
      · refine ⟨some (.d (pt z)), _, ?_, ?_, rfl⟩
        · rw [List.length_append, List.length_map]
          omega
        · rw [List.append_eq_nil_iff, hiff, List.map_eq_nil_iff, filter_nil, take_succ_at hs]
          constructor
          · rintro ⟨h1, h2⟩ a ha b hb
            rcases List.mem_append.mp ha with h | h
            · exact h1 a h b hb
            · rw [List.mem_singleton.mp h]
              have := h2 b hb
              rw [Bool.not_eq_false'] at this
              exact of_decide_eq_true this
          · intro h
            refine ⟨fun a ha b hb => h a (List.mem_append_left _ ha) b hb, fun b hb => ?_⟩
            rw [Bool.not_eq_false', decide_eq_true_eq]
            exact h z (List.mem_append_right _ (List.mem_singleton.mpr rfl)) b hb
  · obtain ⟨a, ls, hls, hiff, rfl⟩ := hJ
    rw [List.length_map, List.take_length, ← hN] at hiff
    refine xb_cons (st := stL 6) (sts := lawTail 7) ?_
    apply xs_if (k := false) (ds1 := [some (.scr ns), some (.pool rows po), some (.d (.list (ps.map pt))), none, some (.d (hullD ps)), some (.d (.list ls)), a, none, none, none, none, none, none, none, none, none, none])
    · apply xt_to
      · apply (xt_cmp (hm := nomark _))
        · apply (xe_cmp (hm := nomark _))
          · lcg_sub
          · lcg_sub
          · exact opd_isN
        · apply (xe_cmp (hm := nomark _))
          · lcg_sub
          · lcg_sub
          · exact opd_eqI
        · exact opd_neB
      · rw [isNone_hull]
        unfold isNoneH
        by_cases h : (hullL ps).length < 3
        · rw [decide_eq_true h, hiff.mpr h]
          rfl
        · have h2 : ¬ ((ls.length : Nat) : Int) = 0 := fun z => h (hiff.mp (List.length_eq_zero_iff.mp (by omega)))
          rw [decide_eq_false h, decide_eq_false h2]
          rfl
    · intro z
      cases z
    intro _
    apply xb_nil
    refine xb_cons (st := stL 7) (sts := lawTail 8) ?_
    apply xs_if (k := isNoneH ps) (ds1 := [some (.scr ns), some (.pool rows po), some (.d (.list (ps.map pt))), none, some (.d (hullD ps)), some (.d (.list ls)), a, none, none, none, none, none, none, none, none, none, none])
    · rw [← isNone_hull]
      apply (xt_cmp (hm := nomark _))
      · lcg_sub
      · lcg_sub
      · exact opd_isN
    · intro _
      apply xb_one
      apply xs_ret
      · lcg_sub
      · rfl
    · intro h
      apply xb_nil
      exact hrest (of_decide_eq_false h) a ls
end
end K81
set_option maxRecDepth 100000
set_option maxHeartbeats 0
namespace K81
open PySem PySem.Spec PyProof.Rows L2 Dt
local macro_rules | `(tactic| keq_hits) => `(tactic| first | exact Or.inl rfl | exact Or.inr (Or.inl rfl) | exact Or.inr (Or.inr rfl))
local macro_rules | `(tactic| keq_rows) => `(tactic| (apply xe_nmX; first
  | (refine xnm 0 rfl ?_ rfl (by decide) (by decide); keq_hits; done)
  | (refine xnm 1 rfl ?_ rfl (by decide) (by decide); keq_hits; done)
  | (refine xnm 2 rfl ?_ rfl (by decide) (by decide); keq_hits; done)
  | (refine xnm 3 rfl ?_ rfl (by decide) (by decide); keq_hits; done)
  | (refine xnm 4 rfl ?_ rfl (by decide) (by decide); keq_hits; done)
  | (refine xnm 5 rfl ?_ rfl (by decide) (by decide); keq_hits; done)
  | (refine xnm 6 rfl ?_ rfl (by decide) (by decide); keq_hits; done)
  | (refine xnm 7 rfl ?_ rfl (by decide) (by decide); keq_hits; done)
  | (refine xnm 8 rfl ?_ rfl (by decide) (by decide); keq_hits; done)
  | (refine xnm 9 rfl ?_ rfl (by decide) (by decide); keq_hits; done)
  | (refine xnm 10 rfl ?_ rfl (by decide) (by decide); keq_hits; done)
  | (refine xnm 11 rfl ?_ rfl (by decide) (by decide); keq_hits; done)
  | (refine xnm 12 rfl ?_ rfl (by decide) (by decide); keq_hits; done)
  | (refine xnm 13 rfl ?_ rfl (by decide) (by decide); keq_hits; done)
  | (refine xnm 14 rfl ?_ rfl (by decide) (by decide); keq_hits; done)
  | (refine xnm 15 rfl ?_ rfl (by decide) (by decide); keq_hits; done)
  | (refine xnm 16 rfl ?_ rfl (by decide) (by decide); keq_hits; done)
  | (refine xnm 17 rfl ?_ rfl (by decide) (by decide); keq_hits; done)
  | (refine xnm 18 rfl ?_ rfl (by decide) (by decide); keq_hits; done)
  | (refine xnm 19 rfl ?_ rfl (by decide) (by decide); keq_hits; done)
  | (refine xnm 20 rfl ?_ rfl (by decide) (by decide); keq_hits; done)
  | (refine xnm 21 rfl ?_ rfl (by decide) (by decide); keq_hits; done)
  | (refine xnm 22 rfl ?_ rfl (by decide) (by decide); keq_hits; done)
  | (refine xnm 23 rfl ?_ rfl (by decide) (by decide); keq_hits; done)))
local macro_rules | `(tactic| kas_types) => `(tactic| fail)
local macro_rules | `(tactic| kpf_c) => `(tactic| fail)
local macro_rules | `(tactic| lcg_off) => `(tactic| first
  | exact xe_int | exact xe_str | exact xe_non | exact xe_bl | keq_rows
  | apply xe_op | apply (xe_ix (hs := fun _ _ => rfl)) 
  | apply (xe_cmp (hm := nomark _)) | apply (xt_cmp (hm := nomark _)) | apply (xe_chain0 (hm := by with_unfolding_all rfl))
  | apply xe_not | apply xt_not | apply xe_un
  | apply xe_one | apply xe_and0 | apply xe_or0
  | (apply xt_w; first | apply xw_and0 | apply xw_or0) | apply xw_and0 | apply xw_or0 | apply xw_and1 | apply xw_or1
  | apply (xt_val (he := by intro _; rfl))
  | exact xa_nil | apply (xa_one (hs := rfl)) | apply (xa_cons (hs := rfl))
  | kpf_c
  | exact opd_add | exact opd_sub | exact opd_sub_bb | apply opd_mul | apply opd_mod | apply opd_div
  | exact opd_lt | exact opd_le | exact opd_gt | exact opd_ge | exact opd_eqI | exact opd_neI | exact opd_eqB | exact opd_neB | exact opd_eqS | exact opd_neS | exact und_neg
  | exact ixd_t0 | exact ixd_t1 | exact ixd_t2
  | exact cd_min2 rfl | exact cd_max2 rfl | exact cd_len | exact cd_lenT | exact cd_int | exact cd_abs | exact cd_list
  | kas_types)
local macro_rules | `(tactic| lcg_sub) => `(tactic| repeat' lcg_off)
local macro_rules | `(tactic| kas_types) => `(tactic| first
  | (apply xe_bi (n := "len"); rfl; exact Fx.len (by assumption); exact bt_len; exact hn_len; rfl; rfl))
local macro_rules | `(tactic| kas_types) => `(tactic| first
  | (apply xe_ty (n := "int"); rfl; exact Fy.int (by assumption); exact bt_int; exact hn_int; rfl; rfl)
  | (apply xe_ty (n := "list"); rfl; exact Fy.list (by assumption); exact bt_list; exact hn_list; rfl; rfl))
local macro_rules | `(tactic| kas_types) => `(tactic| first
  | (apply call_simple; assumption; assumption; decide; rfl; rfl; rfl)
  | (apply call_turning; assumption; assumption; decide; rfl; rfl; rfl)
  | (apply call_area; assumption; assumption; decide; rfl; rfl; rfl)
  | (apply call_where; assumption; assumption; decide; rfl; rfl; rfl)
  | (apply call_halves; assumption; assumption; decide; rfl; rfl; rfl)
  | (apply call_lhull; assumption; assumption; decide; rfl; rfl; rfl)
  | (apply call_hullof; assumption; assumption; decide; rfl; rfl; rfl)
  | (apply call_lcross; assumption; assumption; decide; rfl; rfl; rfl))
local macro_rules | `(tactic| kpf_c) => `(tactic| first | exact cd_lenP | apply ixd_pts | exact ixd_p0 | exact ixd_p1 | exact opd_notB)
theorem ixd_nat {X : Cx} {ps : List Pt} {i : Nat} (h : i < ps.length) : IxD X (.list (ps.map pt)) (.int ((i : Nat) : Int)) (pt (nth ps i)) := by
  refine ixd_lst (atI_nat ?_)
  rw [List.getElem?_map, nth_at h]
  rfl
theorem ixd_zero {X : Cx} {ps : List Pt} (h : 0 < ps.length) : IxD X (.list (ps.map pt)) (.int 0) (pt (nth ps 0)) := ixd_nat (i := 0) h
theorem opd_nePt {X : Cx} {a b : Pt} (hu : X.A.units + 64 < cLine) : OpD X (compareOp .NotEq) (pt a) (pt b) (.bool (!decide (a = b))) := by
  rw [← eqv_pt]
  exact opd_neD hu (shp_pt a) (shp_pt b)
theorem opd_ninP {X : Cx} {a : Pt} {ps : List Pt} (hu : X.A.units + 65 < cLine) : OpD X (compareOp .NotIn) (pt a) (.list (ps.map pt)) (.bool (!decide (a ∈ ps))) := by
  rw [← any_pt]
  exact opd_notInD hu (shp_pt a) (shp_pts ps)
theorem opd_inP {X : Cx} {a : Pt} {ps : List Pt} (hu : X.A.units + 65 < cLine) : OpD X (compareOp .In) (pt a) (.list (ps.map pt)) (.bool (decide (a ∈ ps))) := by
  rw [← any_pt]
  exact opd_inD hu (shp_pt a) (shp_pts ps)
theorem sgn_pos {v : Int} (h : 0 < v) : sgn v = 1 := by
  unfold sgn
  rw [decide_eq_true h, decide_eq_false (by omega)]
  rfl
section
variable {P : Program} {w : World} {K : PySem.W.Frag} {mg : Str → Option Value} {base : Heap}
theorem law_three {Cl : Addr} (T : Fx mg) (T2 : Fy mg) (C : Calls P w K mg base Cl) {f : Addr} {cdv : Value} {A : Around} {outer : List Env} {s : Shared} {H : Hp} {E : XK} {c : Dt.Ctx} {ns rows : List Int} (hr : Room 5 (A.deeper (envOfC "law" (defScope sLaw) s.heap.objs.size f cdv))) (hR : okR rows) {ps h ls' : List Pt} {ls : List PyData} {a : Option Sl} {po : Int} (hl3 : 3 ≤ ps.length) (hl8 : ps.length ≤ 8) (hB : inBs ps) (hn : 3 ≤ h.length) (hn8 : h.length ≤ 100) (hBh : inBs h)
    (fS : isSimple h = true) (fA : 0 < area2 h) (fsub : ∀ p ∈ h, p ∈ ps) (fL : swp (nth h 0) = leastV ps) (fLe : ∀ k, k < h.length → ∀ p ∈ ps, 0 ≤ cross (nth h k) (nth h ((k + 1) % h.length)) p) (fT : ∀ k, k < h.length → 0 < cross (nth h k) (nth h ((k + 1) % h.length)) (nth h ((k + 2) % h.length)))
    (fO : ∀ p ∈ ps, whereF h p ≠ "outside") (fI : ∀ p ∈ h, whereF h p ≠ "inside")
    (hrest : ∀ kk a b q, XB (lawCx P w K mg base f cdv A outer s H E) c (lawTail 13) [some (.scr ns), some (.pool rows po), some (.d (.list (ps.map pt))), kk, some (.d (.list (h.map pt))), some (.d (.list ls)), a, b, some (.d (.int ((h.length : Nat) : Int))), q, none, none, none, none, none, none, none] lawPost) :
    XB (lawCx P w K mg base f cdv A outer s H E) c (lawTail 8) [some (.scr ns), some (.pool rows po), some (.d (.list (ps.map pt))), none, some (.d (.list (h.map pt))), some (.d (.list ls)), a, none, none, none, none, none, none, none, none, none, none] lawPost := by
  obtain ⟨C1, C2, C3, C4, C5, C6, C7, C8, C9, C10, C11⟩ := C
  have hokh : okP h := ⟨List.ne_nil_of_length_pos (by omega), by omega⟩
  have hok1 := hokh.1
  have hok2 := hokh.2
  refine xb_cons (st := stL 8) (sts := lawTail 9) ?_
  apply xs_set 8 scLaw.nd rfl (.inl rfl) (x := .int ((h.length : Nat) : Int)) (ds1 := [some (.scr ns), some (.pool rows po), some (.d (.list (ps.map pt))), none, some (.d (.list (h.map pt))), some (.d (.list ls)), a, none, none, none, none, none, none, none, none, none, none])
  · lcg_sub
  refine xb_cons (st := stL 9) (sts := lawTail 10) ?_
  apply xs_if (k := false) (ds1 := [some (.scr ns), some (.pool rows po), some (.d (.list (ps.map pt))), none, some (.d (.list (h.map pt))), some (.d (.list ls)), a, none, some (.d (.int ((h.length : Nat) : Int))), none, none, none, none, none, none, none, none])
  · apply xt_to (k := (!decide (isSimple h = true)) || ((!decide (sgn (area2 h) = 1)) || (decide (area2 h ≤ 0) || decide ((0 : Int) < (((h.filter (fun p => !decide (p ∈ ps))).map pt).length : Nat)))))
    · apply xt_w
      apply xw_or0
      · lcg_sub
        all_goals assumption
      apply xw_or0
      · lcg_sub
        all_goals assumption
      apply xw_or0
      · lcg_sub
        all_goals assumption
      apply xw_or1
      apply (xt_cmp (hm := nomark _))
      · apply xe_bi (n := "len") (z := .int (((h.filter (fun p => !decide (p ∈ ps))).map pt).length : Nat)) (xs := [.list ((h.filter (fun p => !decide (p ∈ ps))).map pt)])
        · rfl
        · exact T.len
        · exact bt_len
        · exact hn_len
        · rfl
        · rfl
        · apply (xa_one (hs := rfl))
          apply xe_lcO (own := [("point", 9)]) rfl scLaw.nd (blkOk_by (N := nLaw) (sc := defScope sLaw) (by decide +kernel))
          have ef := fil_pts h (fun p => !decide (p ∈ ps)) (fun x => x)
          rw [show (h.filter (fun p => !decide (p ∈ ps))).map (fun p => (fun x => x) (pt p)) = (h.filter (fun p => !decide (p ∈ ps))).map pt from rfl] at ef
          rw [← ef]
          refine lc_fil (xs := h.map pt) (ds1 := [some (.scr ns), some (.pool rows po), some (.d (.list (ps.map pt))), none, some (.d (.list (h.map pt))), some (.d (.list ls)), a, none, some (.d (.int ((h.length : Nat) : Int))), none, none, none, none, none, none, none, none]) [("point", 9)] ?_ (by rw [List.length_map]; exact sizeL (by omega)) (fun x => x) _ rfl (fun c' hM x hx => ?_)
          · apply xi_list
            lcg_sub
          · obtain ⟨q, hq, rfl⟩ := List.mem_map.mp hx
            refine ⟨[9], _, [some (.scr ns), some (.pool rows po), some (.d (.list (ps.map pt))), none, some (.d (.list (h.map pt))), some (.d (.list ls)), a, none, some (.d (.int ((h.length : Nat) : Int))), some (.d (pt q)), none, none, none, none, none, none, none], fun s' H' C' cl fp => xg_name 9 scLaw.nd rfl (.inl rfl), by decide, fun s' H' C' cl fp => ?_, rfl, fun _ => ⟨[some (.scr ns), some (.pool rows po), some (.d (.list (ps.map pt))), none, some (.d (.list (h.map pt))), some (.d (.list ls)), a, none, some (.d (.int ((h.length : Nat) : Int))), some (.d (pt q)), none, none, none, none, none, none, none], fun s' H' C' cl fp => ?_, rfl⟩⟩
            · apply xifs_one
              apply (xt_cmp (hm := by rfl))
              · lcg_sub
              · lcg_sub
              · exact opd_ninP (units65 hr)
            · lcg_sub
        · exact cd_len
      · lcg_sub
      · exact opd_gt
    · have e1 : h.filter (fun p => !decide (p ∈ ps)) = [] := filter_nil.mpr fun p hp => by rw [decide_eq_true (fsub p hp)]; rfl
      rw [fS, sgn_pos fA, decide_eq_false (show ¬ area2 h ≤ 0 by omega), e1]
      rfl
  · intro z
    cases z
  intro _
  apply xb_nil
  refine xb_cons (st := stL 10) (sts := lawTail 11) ?_
  apply xs_if (k := false) (ds1 := [some (.scr ns), some (.pool rows po), some (.d (.list (ps.map pt))), none, some (.d (.list (h.map pt))), some (.d (.list ls)), a, none, some (.d (.int ((h.length : Nat) : Int))), none, none, none, none, none, none, none, none])
  · apply xt_to (k := !decide (swp (nth h 0) = leastV ps))
    · apply (xt_cmp (hm := nomark _) (x := pt (swp (nth h 0))) (y := pt (leastV ps)) (ds1 := [some (.scr ns), some (.pool rows po), some (.d (.list (ps.map pt))), none, some (.d (.list (h.map pt))), some (.d (.list ls)), a, none, some (.d (.int ((h.length : Nat) : Int))), none, none, none, none, none, none, none, none]))
      · apply xe_tup (xs := [.int (nth h 0).2, .int (nth h 0).1])
        · apply (xa_cons (hs := rfl))
          · apply (xe_ix (hs := fun _ _ => rfl))
            · apply (xe_ix (hs := fun _ _ => rfl))
              · lcg_sub
              · lcg_sub
              · exact ixd_zero (by omega)
            · lcg_sub
            · exact ixd_p1
          · apply (xa_one (hs := rfl))
            apply (xe_ix (hs := fun _ _ => rfl))
            · apply (xe_ix (hs := fun _ _ => rfl))
              · lcg_sub
              · lcg_sub
              · exact ixd_zero (by omega)
            · lcg_sub
            · exact ixd_p0
        · show 2 ≤ sizeLine
          decide
      · have e2 : ps.map swp = swp (nth ps 0) :: (ps.drop 1).map swp := by
          cases ps with
          | nil => simp at hl3
          | cons q r => rfl
        apply xe_bi (n := "min") (xs := [.list ((swp (nth ps 0) :: (ps.drop 1).map swp).map Dt.pairD)])
        · rfl
        · exact T.min
        · exact bt_min
        · exact hn_min
        · rfl
        · rfl
        · apply (xa_one (hs := rfl))
          apply xe_lcO (own := [("point", 9)]) rfl scLaw.nd (blkOk_by (N := nLaw) (sc := defScope sLaw) (by decide +kernel))
          rw [← e2]
          have e3 : (ps.map swp).map Dt.pairD = (ps.map pt).map (fun x => pt (swp (unpt x))) := by
            rw [List.map_map, List.map_map]
            rfl
          rw [e3]
          refine lc_map (xs := ps.map pt) (ds1 := [some (.scr ns), some (.pool rows po), some (.d (.list (ps.map pt))), none, some (.d (.list (h.map pt))), some (.d (.list ls)), a, none, some (.d (.int ((h.length : Nat) : Int))), none, none, none, none, none, none, none, none]) [("point", 9)] ?_ (by rw [List.length_map]; exact sizeL (by omega)) (fun x => pt (swp (unpt x))) rfl (fun c' hM x hx => ?_)
          · apply xi_list
            lcg_sub
          · obtain ⟨q, hq, rfl⟩ := List.mem_map.mp hx
            refine ⟨[9], _, [some (.scr ns), some (.pool rows po), some (.d (.list (ps.map pt))), none, some (.d (.list (h.map pt))), some (.d (.list ls)), a, none, some (.d (.int ((h.length : Nat) : Int))), some (.d (pt q)), none, none, none, none, none, none, none], fun s' H' C' cl fp => xg_name 9 scLaw.nd rfl (.inl rfl), by decide, fun s' H' C' cl fp => ?_, rfl⟩
            apply xe_tup (xs := [.int q.2, .int q.1])
            · lcg_sub
            · show 2 ≤ sizeLine
              decide
        · refine cd_minPairs rfl ?_
          exact units8 hr
      · exact opd_nePt (Room.units hr)
    · rw [decide_eq_true fL]
      rfl
  · intro z
    cases z
  intro _
  apply xb_nil
  refine xb_cons (st := stL 11) (sts := lawTail 12) ?_
  refine xs_for .never rfl (xs := rngD 0 h.length) (ds1 := [some (.scr ns), some (.pool rows po), some (.d (.list (ps.map pt))), none, some (.d (.list (h.map pt))), some (.d (.list ls)), a, none, some (.d (.int ((h.length : Nat) : Int))), none, none, none, none, none, none, none, none]) ?_
    (fun i ds => ∃ kk a b : Option Sl, ds = [some (.scr ns), some (.pool rows po), some (.d (.list (ps.map pt))), kk, some (.d (.list (h.map pt))), some (.d (.list ls)), a, b, some (.d (.int ((h.length : Nat) : Int))), none, none, none, none, none, none, none, none]) ⟨none, a, none, rfl⟩ (fun i x ds hx hJ => ?_) (fun ds hJ => ?_)
  · have e : h.length = (((h.length : Nat) : Int)).toNat := rfl
    rw [e]
    apply xi_range1
    · rfl
    · exact T.range
    · lcg_sub
    · omega
    · omega
    · rfl
  · obtain ⟨hi, rfl⟩ := rngD_at hx
    rw [Int.zero_add]
    obtain ⟨kk, a, b, rfl⟩ := hJ
    have ea : (((i : Nat) : Int) + 1) % ((h.length : Nat) : Int) = (((i + 1) % h.length : Nat) : Int) := by
      rw [Int.natCast_emod]
      rfl
    have eb : (((i : Nat) : Int) + 2) % ((h.length : Nat) : Int) = (((i + 2) % h.length : Nat) : Int) := by
      rw [Int.natCast_emod]
      rfl
    have m1 := Nat.mod_lt (i + 1) (show 0 < h.length by omega)
    have m2 := Nat.mod_lt (i + 2) (show 0 < h.length by omega)
    refine ⟨_, _, xg_name 3 scLaw.nd rfl (.inl rfl), ?_⟩
    apply xb_cons
    refine xs_asg (x := .tuple [pt (nth h i), pt (nth h ((i + 1) % h.length))]) (ds1 := [some (.scr ns), some (.pool rows po), some (.d (.list (ps.map pt))), some (.d (.int (i : Nat))), some (.d (.list (h.map pt))), some (.d (.list ls)), a, b, some (.d (.int ((h.length : Nat) : Int))), none, none, none, none, none, none, none, none]) ?_ (xg_tup rfl (xgs_cons (xg_name 6 scLaw.nd rfl (.inr rfl)) (xgs_cons (xg_name 7 scLaw.nd rfl (.inr rfl)) xgs_nil)) rfl) ?_
    · apply xe_tup
      · apply (xa_cons (hs := rfl))
        · apply (xe_ix (hs := fun _ _ => rfl))
          · lcg_sub
          · lcg_sub
          · exact ixd_nat hi
        · apply (xa_one (hs := rfl))
          apply (xe_ix (hs := fun _ _ => rfl) (x := .list (h.map pt)) (y := .int (((i + 1) % h.length : Nat) : Int)))
          · lcg_sub
          · rw [← ea]
            lcg_sub
            try omega
          · exact ixd_nat m1
      · show 2 ≤ sizeLine
        decide
    apply xb_one
    apply xs_if (k := false) (ds1 := [some (.scr ns), some (.pool rows po), some (.d (.list (ps.map pt))), some (.d (.int (i : Nat))), some (.d (.list (h.map pt))), some (.d (.list ls)), some (.d (pt (nth h i))), some (.d (pt (nth h ((i + 1) % h.length)))), some (.d (.int ((h.length : Nat) : Int))), none, none, none, none, none, none, none, none])
    · apply xt_to (k := decide ((0 : Int) < (((ps.filter (fun p => decide (cross (nth h i) (nth h ((i + 1) % h.length)) p < 0))).map pt).length : Nat)) || decide (cross (nth h i) (nth h ((i + 1) % h.length)) (nth h ((i + 2) % h.length)) ≤ 0))
      · apply xt_w
        apply xw_or0
        · apply (xt_cmp (hm := nomark _))
          · apply xe_bi (n := "len") (xs := [.list ((ps.filter (fun p => decide (cross (nth h i) (nth h ((i + 1) % h.length)) p < 0))).map pt)])
            · rfl
            · exact T.len
            · exact bt_len
            · exact hn_len
            · rfl
            · rfl
            · apply (xa_one (hs := rfl))
              apply xe_lcO (own := [("point", 9)]) rfl scLaw.nd (blkOk_by (N := nLaw) (sc := defScope sLaw) (by decide +kernel))
              have ef := fil_pts ps (fun p => decide (cross (nth h i) (nth h ((i + 1) % h.length)) p < 0)) (fun x => x)
              rw [show (ps.filter (fun p => decide (cross (nth h i) (nth h ((i + 1) % h.length)) p < 0))).map (fun p => (fun x => x) (pt p)) = (ps.filter (fun p => decide (cross (nth h i) (nth h ((i + 1) % h.length)) p < 0))).map pt from rfl] at ef
              rw [← ef]
              refine lc_fil (xs := ps.map pt) (ds1 := [some (.scr ns), some (.pool rows po), some (.d (.list (ps.map pt))), some (.d (.int (i : Nat))), some (.d (.list (h.map pt))), some (.d (.list ls)), some (.d (pt (nth h i))), some (.d (pt (nth h ((i + 1) % h.length)))), some (.d (.int ((h.length : Nat) : Int))), none, none, none, none, none, none, none, none]) [("point", 9)] ?_ (by rw [List.length_map]; exact sizeL (by omega)) (fun x => x) _ rfl (fun c' hM x hx => ?_)
              · apply xi_list
                lcg_sub
              · obtain ⟨q, hq, rfl⟩ := List.mem_map.mp hx
                refine ⟨[9], _, [some (.scr ns), some (.pool rows po), some (.d (.list (ps.map pt))), some (.d (.int (i : Nat))), some (.d (.list (h.map pt))), some (.d (.list ls)), some (.d (pt (nth h i))), some (.d (pt (nth h ((i + 1) % h.length)))), some (.d (.int ((h.length : Nat) : Int))), some (.d (pt q)), none, none, none, none, none, none, none], fun s' H' C' cl fp => xg_name 9 scLaw.nd rfl (.inl rfl), by decide, fun s' H' C' cl fp => ?_, rfl, fun _ => ⟨[some (.scr ns), some (.pool rows po), some (.d (.list (ps.map pt))), some (.d (.int (i : Nat))), some (.d (.list (h.map pt))), some (.d (.list ls)), some (.d (pt (nth h i))), some (.d (pt (nth h ((i + 1) % h.length)))), some (.d (.int ((h.length : Nat) : Int))), some (.d (pt q)), none, none, none, none, none, none, none], fun s' H' C' cl fp => ?_, rfl⟩⟩
                · apply xifs_one
                  apply (xt_cmp (hm := nomark _))
                  · apply call_lcross (a := nth h i) (b := nth h ((i + 1) % h.length)) (d := q) C4 hr (by decide)
                    · rfl
                    · rfl
                    · rfl
                    · lcg_sub
                    · exact ⟨hBh _ (nth_mem hi), hBh _ (nth_mem m1), hB _ hq⟩
                  · lcg_sub
                  · exact opd_lt
                · lcg_sub
            · exact cd_len
          · lcg_sub
          · exact opd_gt
        · apply xw_or1
          apply (xt_cmp (hm := nomark _))
          · apply call_lcross (a := nth h i) (b := nth h ((i + 1) % h.length)) (d := nth h ((i + 2) % h.length)) C4 hr (by decide)
            · rfl
            · rfl
            · rfl
            · apply (xa_cons (hs := rfl))
              · lcg_sub
              apply (xa_cons (hs := rfl))
              · lcg_sub
              apply (xa_one (hs := rfl))
              apply (xe_ix (hs := fun _ _ => rfl) (x := .list (h.map pt)) (y := .int (((i + 2) % h.length : Nat) : Int)))
              · lcg_sub
              · rw [← eb]
                lcg_sub
                try omega
              · exact ixd_nat m2
            · exact ⟨hBh _ (nth_mem hi), hBh _ (nth_mem m1), hBh _ (nth_mem m2)⟩
          · lcg_sub
          · exact opd_le
      · have e1 : ps.filter (fun p => decide (cross (nth h i) (nth h ((i + 1) % h.length)) p < 0)) = [] := filter_nil.mpr fun p hp => by
          have := fLe i hi p hp
          rw [decide_eq_false (by omega)]
        have e2 := fT i hi
        rw [e1, decide_eq_false (show ¬ cross (nth h i) (nth h ((i + 1) % h.length)) (nth h ((i + 2) % h.length)) ≤ 0 by omega)]
        rfl
    · intro z
      cases z
    intro _
    apply xb_nil
    exact ⟨_, _, _, rfl⟩
  · obtain ⟨kk, a, b, rfl⟩ := hJ
    refine xb_cons (st := stL 12) (sts := lawTail 13) ?_
    refine xs_for .never rfl (xs := ps.map pt) (ds1 := [some (.scr ns), some (.pool rows po), some (.d (.list (ps.map pt))), kk, some (.d (.list (h.map pt))), some (.d (.list ls)), a, b, some (.d (.int ((h.length : Nat) : Int))), none, none, none, none, none, none, none, none]) ?_
      (fun i ds => ∃ q : Option Sl, ds = [some (.scr ns), some (.pool rows po), some (.d (.list (ps.map pt))), kk, some (.d (.list (h.map pt))), some (.d (.list ls)), a, b, some (.d (.int ((h.length : Nat) : Int))), q, none, none, none, none, none, none, none]) ⟨none, rfl⟩ (fun i x ds hx hJ => ?_) (fun ds hJ => ?_)
    · apply xi_list
      lcg_sub
    · obtain ⟨q, rfl⟩ := hJ
      rw [List.getElem?_map] at hx
      cases hs : ps[i]? with
      | none => rw [hs] at hx; cases hx
      | some z =>
        rw [hs] at hx
        cases hx
        have hzm : z ∈ ps := List.mem_of_getElem? hs
        have hzB := hB z hzm
        have ⟨z1, z2, z3, z4⟩ := hzB
        refine ⟨_, _, xg_name 9 scLaw.nd rfl (.inl rfl), ?_⟩
        apply xb_one
        apply xs_if (k := false) (ds1 := [some (.scr ns), some (.pool rows po), some (.d (.list (ps.map pt))), kk, some (.d (.list (h.map pt))), some (.d (.list ls)), a, b, some (.d (.int ((h.length : Nat) : Int))), some (.d (pt z)), none, none, none, none, none, none, none])
        · apply xt_to (k := (whereF h z == ("outside" : Str)) || ((whereF h z == ("inside" : Str)) && decide (z ∈ h)))
          · apply xt_w
            apply xw_or0
            · lcg_sub
              all_goals assumption
            apply xw_or1
            apply xt_w
            apply xw_and0
            · lcg_sub
              all_goals assumption
            apply xw_and1
            apply (xt_cmp (hm := by rfl))
            · lcg_sub
            · lcg_sub
            · exact opd_inP (units65 hr)
          · have h1 : (whereF h z == ("outside" : Str)) = false := beq_eq_false_iff_ne.mpr (fO z hzm)
            rw [h1]
            by_cases hz : z ∈ h
            · have h2 : (whereF h z == ("inside" : Str)) = false := beq_eq_false_iff_ne.mpr (fI z hz)
              rw [h2]
              rfl
            · rw [decide_eq_false hz, Bool.and_false]
              rfl
        · intro z
          cases z
        intro _
        apply xb_nil
        exact ⟨_, rfl⟩
    · obtain ⟨q, rfl⟩ := hJ
      exact hrest kk a b q
end
end K81
set_option maxRecDepth 100000
set_option maxHeartbeats 0
namespace K81
open PySem PySem.Spec PyProof.Rows L2 Dt
local macro_rules | `(tactic| keq_hits) => `(tactic| first | exact Or.inl rfl | exact Or.inr (Or.inl rfl) | exact Or.inr (Or.inr rfl))
local macro_rules | `(tactic| keq_rows) => `(tactic| (apply xe_nmX; first
  | (refine xnm 0 rfl ?_ rfl (by decide) (by decide); keq_hits; done)
  | (refine xnm 1 rfl ?_ rfl (by decide) (by decide); keq_hits; done)
  | (refine xnm 2 rfl ?_ rfl (by decide) (by decide); keq_hits; done)
  | (refine xnm 3 rfl ?_ rfl (by decide) (by decide); keq_hits; done)
  | (refine xnm 4 rfl ?_ rfl (by decide) (by decide); keq_hits; done)
  | (refine xnm 5 rfl ?_ rfl (by decide) (by decide); keq_hits; done)
  | (refine xnm 6 rfl ?_ rfl (by decide) (by decide); keq_hits; done)
  | (refine xnm 7 rfl ?_ rfl (by decide) (by decide); keq_hits; done)
  | (refine xnm 8 rfl ?_ rfl (by decide) (by decide); keq_hits; done)
  | (refine xnm 9 rfl ?_ rfl (by decide) (by decide); keq_hits; done)
  | (refine xnm 10 rfl ?_ rfl (by decide) (by decide); keq_hits; done)
  | (refine xnm 11 rfl ?_ rfl (by decide) (by decide); keq_hits; done)
  | (refine xnm 12 rfl ?_ rfl (by decide) (by decide); keq_hits; done)
  | (refine xnm 13 rfl ?_ rfl (by decide) (by decide); keq_hits; done)
  | (refine xnm 14 rfl ?_ rfl (by decide) (by decide); keq_hits; done)
  | (refine xnm 15 rfl ?_ rfl (by decide) (by decide); keq_hits; done)
  | (refine xnm 16 rfl ?_ rfl (by decide) (by decide); keq_hits; done)
  | (refine xnm 17 rfl ?_ rfl (by decide) (by decide); keq_hits; done)
  | (refine xnm 18 rfl ?_ rfl (by decide) (by decide); keq_hits; done)
  | (refine xnm 19 rfl ?_ rfl (by decide) (by decide); keq_hits; done)
  | (refine xnm 20 rfl ?_ rfl (by decide) (by decide); keq_hits; done)
  | (refine xnm 21 rfl ?_ rfl (by decide) (by decide); keq_hits; done)
  | (refine xnm 22 rfl ?_ rfl (by decide) (by decide); keq_hits; done)
  | (refine xnm 23 rfl ?_ rfl (by decide) (by decide); keq_hits; done)))
local macro_rules | `(tactic| kas_types) => `(tactic| fail)
local macro_rules | `(tactic| kpf_c) => `(tactic| fail)
local macro_rules | `(tactic| lcg_off) => `(tactic| first
  | exact xe_int | exact xe_str | exact xe_non | exact xe_bl | keq_rows
  | apply xe_op | apply (xe_ix (hs := fun _ _ => rfl)) 
  | apply (xe_cmp (hm := nomark _)) | apply (xt_cmp (hm := nomark _)) | apply (xe_chain0 (hm := by with_unfolding_all rfl))
  | apply xe_not | apply xt_not | apply xe_un
  | apply xe_one | apply xe_and0 | apply xe_or0
  | (apply xt_w; first | apply xw_and0 | apply xw_or0) | apply xw_and0 | apply xw_or0 | apply xw_and1 | apply xw_or1
  | apply (xt_val (he := by intro _; rfl))
  | exact xa_nil | apply (xa_one (hs := rfl)) | apply (xa_cons (hs := rfl))
  | kpf_c
  | exact opd_add | exact opd_sub | exact opd_sub_bb | apply opd_mul | apply opd_mod | apply opd_div
  | exact opd_lt | exact opd_le | exact opd_gt | exact opd_ge | exact opd_eqI | exact opd_neI | exact opd_eqB | exact opd_neB | exact opd_eqS | exact opd_neS | exact und_neg
  | exact ixd_t0 | exact ixd_t1 | exact ixd_t2
  | exact cd_min2 rfl | exact cd_max2 rfl | exact cd_len | exact cd_lenT | exact cd_int | exact cd_abs | exact cd_list
  | kas_types)
local macro_rules | `(tactic| lcg_sub) => `(tactic| repeat' lcg_off)
local macro_rules | `(tactic| kas_types) => `(tactic| first
  | (apply xe_bi (n := "len"); rfl; exact Fx.len (by assumption); exact bt_len; exact hn_len; rfl; rfl))
local macro_rules | `(tactic| kas_types) => `(tactic| first
  | (apply xe_ty (n := "int"); rfl; exact Fy.int (by assumption); exact bt_int; exact hn_int; rfl; rfl)
  | (apply xe_ty (n := "list"); rfl; exact Fy.list (by assumption); exact bt_list; exact hn_list; rfl; rfl))
local macro_rules | `(tactic| kas_types) => `(tactic| first
  | (apply call_simple; assumption; assumption; decide; rfl; rfl; rfl)
  | (apply call_turning; assumption; assumption; decide; rfl; rfl; rfl)
  | (apply call_area; assumption; assumption; decide; rfl; rfl; rfl)
  | (apply call_where; assumption; assumption; decide; rfl; rfl; rfl)
  | (apply call_halves; assumption; assumption; decide; rfl; rfl; rfl)
  | (apply call_lhull; assumption; assumption; decide; rfl; rfl; rfl)
  | (apply call_hullof; assumption; assumption; decide; rfl; rfl; rfl)
  | (apply call_lcross; assumption; assumption; decide; rfl; rfl; rfl))
local macro_rules | `(tactic| kpf_c) => `(tactic| first | exact cd_lenP | apply ixd_pts | exact ixd_p0 | exact ixd_p1 | exact opd_notB)
theorem call_equalL {X : Cx} {c : Dt.Ctx} {ds ds1 : Ds} {e : Expr} {es : List Expr} {p pos : Pos} {k : Nat} {xs ys : List Pt} (C : Cal X.prog X.w X.K X.mg X.base CX0 "_law_equal" 4 ["x", "due"] (SpD X.K (fun p : Sm × Sm => [.list (p.1.1.map pt), .list (p.2.1.map pt)]) (fun _ => True) (fun p => .bool (decide (p.1 = p.2))))) (hr : Room k X.A) (hk : 4 ≤ k) (hx : xs.length ≤ 1000) (hy : ys.length ≤ 1000)
    (hg : Gl X "_law_equal") (he : starEach (e :: es) X.env = (false, eval e X.env) :: starEach es X.env) (hpl : (backTo pos (starEach es X.env)).any (·.1) = false) (h : XA X c (e :: es) ds [.list (xs.map pt), .list (ys.map pt)] ds1) : XE X c (.Call (.Name "_law_equal" p) (e :: es) [] pos) ds (.bool (decide (xs = ys))) ds1 :=
  xe_to (xe_call C (hr.mono hk) (⟨xs, hx⟩, ⟨ys, hy⟩) h trivial hg (by decide) he hpl) (by
    have e : decide ((⟨xs, hx⟩ : Sm) = ⟨ys, hy⟩) = decide (xs = ys) := decide_eq_decide.mpr (by rw [Subtype.mk.injEq])
    show PyData.bool (decide ((⟨xs, hx⟩ : Sm) = ⟨ys, hy⟩)) = _
    rw [e])
theorem shp_ss {a b : Str} (ha : PyData.strOk a = true) (hb : PyData.strOk b = true) : SeqAt.shaped (.list [.str a, .str b]) = true := by
  have h1 : (PyData.list [.str a, .str b]).canLay0 = true := by simp [PyData.canLay0, PyData.canLayAll0, ha, hb]
  have h2 : (PyData.list [.str a, .str b]).depth ≤ 64 := by
    simp only [PyData.depth, PyData.depthAll]
    first | omega | decide
  show ((PyData.list [.str a, .str b]).canLay0 && decide ((PyData.list [.str a, .str b]).depth ≤ 64)) = true
  rw [h1, Bool.true_and, decide_eq_true_eq]
  exact h2
theorem ok_out : PyData.strOk ("outside" : Str) = true := by decide +kernel
theorem ok_in : PyData.strOk ("inside" : Str) = true := by decide +kernel
theorem ok_edge : PyData.strOk ("edge" : Str) = true := by decide +kernel
theorem whereGo_ok (z : Pt) : ∀ (ss : List (Pt × Pt)) (b : Bool), PyData.strOk (whereGo z ss b) = true
  | [], true => ok_in
  | [], false => ok_out
  | s :: r, b => by
    unfold whereGo
    split
    · exact ok_edge
    · split <;> exact whereGo_ok z r _
theorem where_ok (ps : List Pt) (z : Pt) : PyData.strOk (whereF ps z) = true := whereGo_ok z _ _
theorem opd_eqSS {X : Cx} {a b d e : Str} (hu : X.A.units + 64 < cLine) (ha : PyData.strOk a = true) (hb : PyData.strOk b = true) (hd : PyData.strOk d = true) (he : PyData.strOk e = true) : OpD X (compareOp .Eq) (.list [.str a, .str b]) (.list [.str d, .str e]) (.bool ((a == d) && (b == e))) := by
  have g := opd_eqD (X := X) (x := .list [.str a, .str b]) (y := .list [.str d, .str e]) hu (shp_ss ha hb) (shp_ss hd he)
  have e1 : PyData.eqv (.list [.str a, .str b]) (.list [.str d, .str e]) = ((a == d) && (b == e)) := by
    simp only [PyData.eqv, PyData.eqvAll, Bool.and_true]
  rw [e1] at g
  exact g
theorem hullL_len (ps : List Pt) : (hullL ps).length ≤ 2 * ps.length := by
  unfold hullL
  have l0 := ordd_len ps
  have l1 := chain_len (ordd ps)
  have l2 := chain_len (ordd ps).reverse
  rw [List.length_reverse] at l2
  rw [List.length_append, List.length_dropLast, List.length_dropLast]
  omega
theorem partOf_ok {h : List Pt} {i j : Nat} (hB : inBs h) (h0 : i < h.length) (h1 : j < h.length) (hl : h.length ≤ 100) : partOf h i j ≠ [] ∧ (partOf h i j).length ≤ 1000 ∧ inBs (partOf h i j) := by
  refine ⟨?_, ?_, ?_⟩
  · intro z
    have := congrArg List.length z
    unfold partOf at this
    rw [List.length_map, List.length_range] at this
    cases this
  · unfold partOf
    rw [List.length_map, List.length_range]
    unfold stepsTo
    split <;> omega
  · intro p hp
    unfold partOf at hp
    obtain ⟨m, hm, rfl⟩ := List.mem_map.mp hp
    have hm2 := List.mem_range.mp hm
    refine hB _ (nth_mem ?_)
    unfold wrapN
    unfold stepsTo at hm2
    split at hm2 <;> split <;> omega
section
variable {P : Program} {w : World} {K : PySem.W.Frag} {mg : Str → Option Value} {base : Heap}
theorem law_four {Cl : Addr} (T : Fx mg) (T2 : Fy mg) (C : Calls P w K mg base Cl) {f : Addr} {cdv : Value} {A : Around} {outer : List Env} {s : Shared} {H : Hp} {E : XK} {c : Dt.Ctx} {ns rows : List Int} (hr : Room 5 (A.deeper (envOfC "law" (defScope sLaw) s.heap.objs.size f cdv))) (hR : okR rows) {ps h : List Pt} {ls : List PyData} {kk a b q : Option Sl} {po : Int} (hl3 : 3 ≤ ps.length) (hl8 : ps.length ≤ 8) (hB : inBs ps) (hn : 3 ≤ h.length) (hn8 : h.length ≤ 20) (hBh : inBs h) (hpo : 0 ≤ po ∧ po ≤ 1000)
    (fG : hullL h = h) (fR : hullL ps.reverse = h) (fW : ∀ mr, ¬ (hullL (ps ++ mr)).length < 3) (fWA : ∀ mr, area2 h ≤ area2 (hullL (ps ++ mr)))
    (hA : ∀ i k, okHalf h i k → area2 (partOf h i k) + area2 (partOf h k i) = area2 h)
    (hS : ∀ i k, okHalf h i k → isSimple (partOf h i k) = true ∧ 0 < area2 (partOf h i k))
    (hO : ∀ i k, okHalf h i k → ∀ z, (whereF h z = "outside" ↔ whereF (partOf h i k) z = "outside" ∧ whereF (partOf h k i) z = "outside"))
    (hI : ∀ i k, okHalf h i k → ∀ z, ¬ (whereF (partOf h i k) z = "inside" ∧ whereF (partOf h k i) z = "inside")) :
    XB (lawCx P w K mg base f cdv A outer s H E) c (lawTail 13) [some (.scr ns), some (.pool rows po), some (.d (.list (ps.map pt))), kk, some (.d (.list (h.map pt))), some (.d (.list ls)), a, b, some (.d (.int ((h.length : Nat) : Int))), q, none, none, none, none, none, none, none] lawPost := by
  obtain ⟨C1, C2, C3, C4, C5, C6, C7, C8, C9, C10, C11⟩ := C
  have hokh : okP h := ⟨List.ne_nil_of_length_pos (by omega), by omega⟩
  have hok1 := hokh.1
  have hok2 := hokh.2
  refine xb_cons (st := stL 13) (sts := lawTail 14) ?_
  apply xs_if (k := false) (ds1 := [some (.scr ns), some (.pool rows po), some (.d (.list (ps.map pt))), kk, some (.d (.list (h.map pt))), some (.d (.list ls)), a, b, some (.d (.int ((h.length : Nat) : Int))), q, none, none, none, none, none, none, none])
  · apply xt_to (k := !decide (h = h) || !decide (h = h))
    · apply xt_w
      apply xw_or0
      · apply xt_not
        apply (xt_val (he := by intro _; rfl))
        apply call_equalL (xs := h) (ys := h) C11 hr (by decide) hok2 hok2
        · rfl
        · rfl
        · rfl
        · apply (xa_cons (hs := rfl) (ds1 := [some (.scr ns), some (.pool rows po), some (.d (.list (ps.map pt))), kk, some (.d (.list (h.map pt))), some (.d (.list ls)), a, b, some (.d (.int ((h.length : Nat) : Int))), q, none, none, none, none, none, none, none]))
          · apply xe_to (x := .list ((hullL h).map pt))
            · apply call_hullof (ps := h) C10 hr (by decide)
              · rfl
              · rfl
              · rfl
              · lcg_sub
              · exact ⟨by omega, hBh⟩
              · rw [fG]
                omega
            · rw [fG]
          · lcg_sub
      · apply xw_or1
        apply xt_not
        apply (xt_val (he := by intro _; rfl))
        apply call_equalL (xs := h) (ys := h) C11 hr (by decide) hok2 hok2
        · rfl
        · rfl
        · rfl
        · apply (xa_cons (hs := rfl) (ds1 := [some (.scr ns), some (.pool rows po), some (.d (.list (ps.map pt))), kk, some (.d (.list (h.map pt))), some (.d (.list ls)), a, b, some (.d (.int ((h.length : Nat) : Int))), q, none, none, none, none, none, none, none]))
          · apply xe_to (x := .list ((hullL ps.reverse).map pt))
            · apply call_hullof (ps := ps.reverse) C10 hr (by decide)
              · rfl
              · rfl
              · rfl
              · apply (xa_one (hs := rfl))
                rw [List.map_reverse]
                refine xe_rev ?_
                lcg_sub
              · exact ⟨by rw [List.length_reverse]; omega, fun p hp => hB p (List.mem_reverse.mp hp)⟩
              · rw [fR]
                omega
            · rw [fR]
          · lcg_sub
    · rw [decide_eq_true rfl]
      rfl
  · intro z
    cases z
  intro _
  apply xb_nil
  obtain ⟨mr, hmr⟩ : ∃ mr : List Pt, mr = pointsV rows po 2 := ⟨_, rfl⟩
  have mrl : mr.length = 2 := by rw [hmr, pointsV_len]
  have mrB : inBs mr := by rw [hmr]; exact pointsV_in _ _ _ (by decide)
  refine xb_cons (st := stL 14) (sts := lawTail 15) ?_
  apply xs_set 10 scLaw.nd rfl (.inl rfl) (x := .list (mr.map pt)) (ds1 := [some (.scr ns), some (.pool rows (po + 36)), some (.d (.list (ps.map pt))), kk, some (.d (.list (h.map pt))), some (.d (.list ls)), a, b, some (.d (.int ((h.length : Nat) : Int))), q, none, none, none, none, none, none, none])
  · rw [hmr]
    apply call_points 1 (many := 2) (po := po) (rows := rows) (ds1 := [some (.scr ns), some (.pool rows po), some (.d (.list (ps.map pt))), kk, some (.d (.list (h.map pt))), some (.d (.list ls)), a, b, some (.d (.int ((h.length : Nat) : Int))), q, none, none, none, none, none, none, none]) C2 hr (by decide)
    · rfl
    · rfl
    · rfl
    · rfl
    · rfl
    · exact .inr (.inl rfl)
    · decide
    · decide
    · apply (xa_one (hs := rfl))
      exact xe_int
    · rfl
    · exact hR
    · omega
    · decide
  clear hmr
  have lW := hullL_len (ps ++ mr)
  rw [List.length_append, mrl] at lW
  have fW' := fW mr
  have fWA' := fWA mr
  have BW0 : inBs (ps ++ mr) := fun p hp => (List.mem_append.mp hp).elim (hB p) (mrB p)
  have BW : inBs (hullL (ps ++ mr)) := fun p hp => BW0 p (hullL_mem hp)
  have okW1 : hullL (ps ++ mr) ≠ [] := List.ne_nil_of_length_pos (by omega)
  have okW2 : (hullL (ps ++ mr)).length ≤ 1000 := by omega
  have okW : okP (hullL (ps ++ mr)) ∧ inBs (hullL (ps ++ mr)) := ⟨⟨okW1, okW2⟩, BW⟩
  have okH : okP h ∧ inBs h := ⟨hokh, hBh⟩
  refine xb_cons (st := stL 15) (sts := lawTail 16) ?_
  apply xs_set 11 scLaw.nd rfl (.inl rfl) (x := .list ((hullL (ps ++ mr)).map pt)) (ds1 := [some (.scr ns), some (.pool rows (po + 36)), some (.d (.list (ps.map pt))), kk, some (.d (.list (h.map pt))), some (.d (.list ls)), a, b, some (.d (.int ((h.length : Nat) : Int))), q, some (.d (.list (mr.map pt))), none, none, none, none, none, none])
  · apply call_hullof (ps := ps ++ mr) C10 hr (by decide)
    · rfl
    · rfl
    · rfl
    · apply (xa_one (hs := rfl))
      rw [List.map_append]
      apply xe_op
      · lcg_sub
      · lcg_sub
      · apply opd_cat
        rw [List.length_map, List.length_map]
        exact sizeL (by omega)
    · exact ⟨by rw [List.length_append]; omega, BW0⟩
    · exact fW'
  refine xb_cons (st := stL 16) (sts := lawTail 17) ?_
  apply xs_if (k := false) (ds1 := [some (.scr ns), some (.pool rows (po + 36)), some (.d (.list (ps.map pt))), kk, some (.d (.list (h.map pt))), some (.d (.list ls)), a, b, some (.d (.int ((h.length : Nat) : Int))), q, some (.d (.list (mr.map pt))), some (.d (.list ((hullL (ps ++ mr)).map pt))), none, none, none, none, none])
  · apply xt_to (k := decide (area2 (hullL (ps ++ mr)) < area2 h))
    · apply (xt_cmp (hm := nomark _))
      · lcg_sub
        all_goals assumption
      · lcg_sub
        all_goals assumption
      · exact opd_lt
    · exact decide_eq_false (by omega)
  · intro z
    cases z
  intro _
  apply xb_nil
  refine xb_cons (st := stL 17) (sts := lawTail 18) ?_
  apply xs_if (k := decide (((h.length : Nat) : Int) < 4)) (ds1 := [some (.scr ns), some (.pool rows (po + 36)), some (.d (.list (ps.map pt))), kk, some (.d (.list (h.map pt))), some (.d (.list ls)), a, b, some (.d (.int ((h.length : Nat) : Int))), q, some (.d (.list (mr.map pt))), some (.d (.list ((hullL (ps ++ mr)).map pt))), none, none, none, none, none])
  · lcg_sub
  · intro _
    apply xb_one
    apply xs_ret
    · lcg_sub
    · rfl
  intro hn4
  have hn4' : 4 ≤ h.length := by
    have := of_decide_eq_false hn4
    omega
  apply xb_nil
  have b1 := drawV_bd (rows := rows) (p := po + 36) (many := ((h.length : Nat) : Int)) (by omega)
  have b2 := drawV_bd (rows := rows) (p := po + 36 + 1) (many := ((h.length : Nat) : Int) - 3) (by omega)
  obtain ⟨i, hi⟩ : ∃ i : Nat, drawV rows (po + 36) ((h.length : Nat) : Int) = (i : Nat) := ⟨(drawV rows (po + 36) ((h.length : Nat) : Int)).toNat, by omega⟩
  obtain ⟨d, hd⟩ : ∃ d : Nat, drawV rows (po + 36 + 1) (((h.length : Nat) : Int) - 3) = (d : Nat) := ⟨(drawV rows (po + 36 + 1) (((h.length : Nat) : Int) - 3)).toNat, by omega⟩
  have hin : i < h.length := by omega
  refine xb_cons (st := stL 18) (sts := lawTail 19) ?_
  apply xs_set 12 scLaw.nd rfl (.inl rfl) (x := .int ((i : Nat) : Int)) (ds1 := [some (.scr ns), some (.pool rows (po + 36 + 1)), some (.d (.list (ps.map pt))), kk, some (.d (.list (h.map pt))), some (.d (.list ls)), a, b, some (.d (.int ((h.length : Nat) : Int))), q, some (.d (.list (mr.map pt))), some (.d (.list ((hullL (ps ++ mr)).map pt))), none, none, none, none, none])
  · rw [← hi]
    apply call_draw 1 (po := po + 36) (rows := rows) (ds1 := [some (.scr ns), some (.pool rows (po + 36)), some (.d (.list (ps.map pt))), kk, some (.d (.list (h.map pt))), some (.d (.list ls)), a, b, some (.d (.int ((h.length : Nat) : Int))), q, some (.d (.list (mr.map pt))), some (.d (.list ((hullL (ps ++ mr)).map pt))), none, none, none, none, none]) C1 hr (by decide)
    · rfl
    · rfl
    · rfl
    · rfl
    · rfl
    · exact .inr (.inl rfl)
    · decide
    · decide
    · lcg_sub
    · rfl
    · exact hR
    · exact ⟨by omega, by omega⟩
    · omega
  obtain ⟨j, hj⟩ : ∃ j : Nat, j = (i + 2 + d) % h.length := ⟨_, rfl⟩
  have hjn : j < h.length := by rw [hj]; exact Nat.mod_lt _ (by omega)
  have hji : ((j : Nat) : Int) = (((i : Nat) : Int) + 2 + (d : Nat)) % ((h.length : Nat) : Int) := by
    rw [hj, Int.natCast_emod]
    rfl
  have hok : okHalf h i j := by
    have hd2 : d < h.length - 3 := by omega
    have hcase : j = i + 2 + d ∨ j + h.length = i + 2 + d := by
      by_cases q : i + 2 + d < h.length
      · left
        rw [hj, Nat.mod_eq_of_lt q]
      · right
        rw [hj, Nat.mod_eq_sub_mod (by omega), Nat.mod_eq_of_lt (by omega)]
        omega
    have hm : (((i : Nat) : Int) - (j : Nat)) % ((h.length : Nat) : Int) = ((h.length - 2 - d : Nat) : Int) := by
      rcases hcase with e | e
      · have e2 : ((i : Nat) : Int) - (j : Nat) = ((h.length - 2 - d : Nat) : Int) + ((h.length : Nat) : Int) * (-1) := by omega
        rw [e2, Int.add_mul_emod_self_left]
        exact Int.emod_eq_of_lt (by omega) (by omega)
      · have e2 : ((i : Nat) : Int) - (j : Nat) = ((h.length - 2 - d : Nat) : Int) := by omega
        rw [e2]
        exact Int.emod_eq_of_lt (by omega) (by omega)
    refine ⟨by omega, hin, hjn, ?_, ?_, ?_⟩ <;> rw [hm] <;> omega
  have hok' : okHalf h j i := by
    obtain ⟨k1, k2, k3, k4, k5, k6⟩ := hok
    have hne : ((h.length : Nat) : Int) ≠ 0 := by omega
    have hneg : (((j : Nat) : Int) - (i : Nat)) % ((h.length : Nat) : Int) = (-(((i : Nat) : Int) - (j : Nat))) % ((h.length : Nat) : Int) := by
      congr 1
      omega
    have r0 := Int.emod_nonneg (((i : Nat) : Int) - (j : Nat)) hne
    have r1 := Int.emod_lt_of_pos (((i : Nat) : Int) - (j : Nat)) (show (0 : Int) < ((h.length : Nat) : Int) by omega)
    have hv : (((j : Nat) : Int) - (i : Nat)) % ((h.length : Nat) : Int) = ((h.length : Nat) : Int) - (((i : Nat) : Int) - (j : Nat)) % ((h.length : Nat) : Int) := by
      have e0 := Int.emod_add_mul_ediv (((i : Nat) : Int) - (j : Nat)) ((h.length : Nat) : Int)
      generalize (((i : Nat) : Int) - (j : Nat)) % ((h.length : Nat) : Int) = r at *
      generalize (((i : Nat) : Int) - (j : Nat)) / ((h.length : Nat) : Int) = t at *
      have e2 : ((j : Nat) : Int) - (i : Nat) = (((h.length : Nat) : Int) - r) + ((h.length : Nat) : Int) * (-t - 1) := by
        rw [Int.mul_sub, Int.mul_neg, Int.mul_one]
        omega
      rw [e2, Int.add_mul_emod_self_left]
      exact Int.emod_eq_of_lt (by omega) (by omega)
    refine ⟨k1, k3, k2, ?_, ?_, ?_⟩ <;> rw [hv] <;> omega
  obtain ⟨o1, o2, o3⟩ := partOf_ok hBh hin hjn (by omega)
  obtain ⟨w1, w2, w3⟩ := partOf_ok hBh hjn hin (by omega)
  have oka : okP (partOf h i j) ∧ inBs (partOf h i j) := ⟨⟨o1, o2⟩, o3⟩
  have okb : okP (partOf h j i) ∧ inBs (partOf h j i) := ⟨⟨w1, w2⟩, w3⟩
  obtain ⟨s1, a1⟩ := hS i j hok
  obtain ⟨s2, a2⟩ := hS j i hok'
  have hA' := hA i j hok
  refine xb_cons (st := stL 19) (sts := lawTail 20) ?_
  apply xs_set 3 scLaw.nd rfl (.inl rfl) (x := .int ((j : Nat) : Int)) (ds1 := [some (.scr ns), some (.pool rows (po + 36 + 1 + 1)), some (.d (.list (ps.map pt))), kk, some (.d (.list (h.map pt))), some (.d (.list ls)), a, b, some (.d (.int ((h.length : Nat) : Int))), q, some (.d (.list (mr.map pt))), some (.d (.list ((hullL (ps ++ mr)).map pt))), some (.d (.int ((i : Nat) : Int))), none, none, none, none])
  · rw [hji, ← hd]
    apply xe_op (ds1 := [some (.scr ns), some (.pool rows (po + 36 + 1 + 1)), some (.d (.list (ps.map pt))), kk, some (.d (.list (h.map pt))), some (.d (.list ls)), a, b, some (.d (.int ((h.length : Nat) : Int))), q, some (.d (.list (mr.map pt))), some (.d (.list ((hullL (ps ++ mr)).map pt))), some (.d (.int ((i : Nat) : Int))), none, none, none, none])
    · apply xe_ty (n := "int")
      · rfl
      · exact T2.int
      · exact bt_int
      · exact hn_int
      · rfl
      · rfl
      · apply (xa_one (hs := rfl))
        apply xe_op (ds1 := [some (.scr ns), some (.pool rows (po + 36 + 1)), some (.d (.list (ps.map pt))), kk, some (.d (.list (h.map pt))), some (.d (.list ls)), a, b, some (.d (.int ((h.length : Nat) : Int))), q, some (.d (.list (mr.map pt))), some (.d (.list ((hullL (ps ++ mr)).map pt))), some (.d (.int ((i : Nat) : Int))), none, none, none, none])
        · lcg_sub
        · apply call_draw 1 (po := po + 36 + 1) (rows := rows) (ds1 := [some (.scr ns), some (.pool rows (po + 36 + 1)), some (.d (.list (ps.map pt))), kk, some (.d (.list (h.map pt))), some (.d (.list ls)), a, b, some (.d (.int ((h.length : Nat) : Int))), q, some (.d (.list (mr.map pt))), some (.d (.list ((hullL (ps ++ mr)).map pt))), some (.d (.int ((i : Nat) : Int))), none, none, none, none]) C1 hr (by decide)
          · rfl
          · rfl
          · rfl
          · rfl
          · rfl
          · exact .inr (.inl rfl)
          · decide
          · decide
          · lcg_sub
          · rfl
          · exact hR
          · exact ⟨by omega, by omega⟩
          · omega
        · exact opd_add
      · exact cd_int
    · lcg_sub
    · exact opd_mod (by omega)
  refine xb_cons (st := stL 20) (sts := lawTail 21) ?_
  refine xs_asg (x := .tuple [.list ((partOf h i j).map pt), .list ((partOf h j i).map pt)]) (ds1 := [some (.scr ns), some (.pool rows (po + 36 + 1 + 1)), some (.d (.list (ps.map pt))), some (.d (.int ((j : Nat) : Int))), some (.d (.list (h.map pt))), some (.d (.list ls)), a, b, some (.d (.int ((h.length : Nat) : Int))), q, some (.d (.list (mr.map pt))), some (.d (.list ((hullL (ps ++ mr)).map pt))), some (.d (.int ((i : Nat) : Int))), none, none, none, none]) ?_ (xg_tup rfl (xgs_cons (xg_name 13 scLaw.nd rfl (.inl rfl)) (xgs_cons (xg_name 14 scLaw.nd rfl (.inl rfl)) xgs_nil)) rfl) ?_
  · apply call_halves (ps := h) (i := i) (j := j) C9 hr (by decide)
    · rfl
    · rfl
    · rfl
    · lcg_sub
    · exact hok
  refine xb_cons (st := stL 21) (sts := lawTail 22) ?_
  apply xs_if (k := false) (ds1 := [some (.scr ns), some (.pool rows (po + 36 + 1 + 1)), some (.d (.list (ps.map pt))), some (.d (.int ((j : Nat) : Int))), some (.d (.list (h.map pt))), some (.d (.list ls)), a, b, some (.d (.int ((h.length : Nat) : Int))), q, some (.d (.list (mr.map pt))), some (.d (.list ((hullL (ps ++ mr)).map pt))), some (.d (.int ((i : Nat) : Int))), some (.d (.list ((partOf h i j).map pt))), some (.d (.list ((partOf h j i).map pt))), none, none])
  · apply xt_to (k := (!decide (area2 (partOf h i j) + area2 (partOf h j i) = area2 h)) || ((!decide (isSimple (partOf h i j) = true)) || ((!decide (isSimple (partOf h j i) = true)) || ((!decide (sgn (area2 (partOf h i j)) = 1)) || (!decide (sgn (area2 (partOf h j i)) = 1))))))
    · apply xt_w
      apply xw_or0
      · lcg_sub
        all_goals assumption
      apply xw_or0
      · lcg_sub
        all_goals assumption
      apply xw_or0
      · lcg_sub
        all_goals assumption
      apply xw_or0
      · lcg_sub
        all_goals assumption
      apply xw_or1
      lcg_sub
      all_goals assumption
    · rw [decide_eq_true hA', s1, s2, sgn_pos a1, sgn_pos a2]
      rfl
  · intro z
    cases z
  intro _
  apply xb_nil
  refine xb_cons (st := stL 22) (sts := lawTail 23) ?_
  refine xs_for .never rfl (xs := (ps ++ mr).map pt) (ds1 := [some (.scr ns), some (.pool rows (po + 36 + 1 + 1)), some (.d (.list (ps.map pt))), some (.d (.int ((j : Nat) : Int))), some (.d (.list (h.map pt))), some (.d (.list ls)), a, b, some (.d (.int ((h.length : Nat) : Int))), q, some (.d (.list (mr.map pt))), some (.d (.list ((hullL (ps ++ mr)).map pt))), some (.d (.int ((i : Nat) : Int))), some (.d (.list ((partOf h i j).map pt))), some (.d (.list ((partOf h j i).map pt))), none, none]) ?_
    (fun i_ ds => ∃ q u v : Option Sl, ds = [some (.scr ns), some (.pool rows (po + 36 + 1 + 1)), some (.d (.list (ps.map pt))), some (.d (.int ((j : Nat) : Int))), some (.d (.list (h.map pt))), some (.d (.list ls)), a, b, some (.d (.int ((h.length : Nat) : Int))), q, some (.d (.list (mr.map pt))), some (.d (.list ((hullL (ps ++ mr)).map pt))), some (.d (.int ((i : Nat) : Int))), some (.d (.list ((partOf h i j).map pt))), some (.d (.list ((partOf h j i).map pt))), u, v]) ⟨q, none, none, rfl⟩ (fun i_ x ds hx hJ => ?_) (fun ds hJ => ?_)
  · apply xi_list
    rw [List.map_append]
    apply xe_op
    · lcg_sub
    · lcg_sub
    · apply opd_cat
      rw [List.length_map, List.length_map]
      exact sizeL (by omega)
  · obtain ⟨q, u, v, rfl⟩ := hJ
    rw [List.getElem?_map] at hx
    cases hs : (ps ++ mr)[i_]? with
    | none => rw [hs] at hx; cases hx
    | some z =>
      rw [hs] at hx
      cases hx
      have hzm : z ∈ ps ++ mr := List.mem_of_getElem? hs
      have hzB := BW0 z hzm
      have ⟨z1, z2, z3, z4⟩ := hzB
      refine ⟨_, _, xg_name 9 scLaw.nd rfl (.inl rfl), ?_⟩
      apply xb_cons
      apply xs_set 15 scLaw.nd rfl (.inl rfl) (x := .str (whereF h z)) (ds1 := [some (.scr ns), some (.pool rows (po + 36 + 1 + 1)), some (.d (.list (ps.map pt))), some (.d (.int ((j : Nat) : Int))), some (.d (.list (h.map pt))), some (.d (.list ls)), a, b, some (.d (.int ((h.length : Nat) : Int))), some (.d (pt z)), some (.d (.list (mr.map pt))), some (.d (.list ((hullL (ps ++ mr)).map pt))), some (.d (.int ((i : Nat) : Int))), some (.d (.list ((partOf h i j).map pt))), some (.d (.list ((partOf h j i).map pt))), u, v])
      · lcg_sub
        all_goals assumption
      apply xb_cons
      apply xs_set 16 scLaw.nd rfl (.inl rfl) (x := .list [.str (whereF (partOf h i j) z), .str (whereF (partOf h j i) z)]) (ds1 := [some (.scr ns), some (.pool rows (po + 36 + 1 + 1)), some (.d (.list (ps.map pt))), some (.d (.int ((j : Nat) : Int))), some (.d (.list (h.map pt))), some (.d (.list ls)), a, b, some (.d (.int ((h.length : Nat) : Int))), some (.d (pt z)), some (.d (.list (mr.map pt))), some (.d (.list ((hullL (ps ++ mr)).map pt))), some (.d (.int ((i : Nat) : Int))), some (.d (.list ((partOf h i j).map pt))), some (.d (.list ((partOf h j i).map pt))), some (.d (.str (whereF h z))), v])
      · apply xe_lst
        · lcg_sub
          all_goals assumption
        · show 2 ≤ sizeLine
          decide
      apply xb_one
      apply xs_if (k := false) (ds1 := [some (.scr ns), some (.pool rows (po + 36 + 1 + 1)), some (.d (.list (ps.map pt))), some (.d (.int ((j : Nat) : Int))), some (.d (.list (h.map pt))), some (.d (.list ls)), a, b, some (.d (.int ((h.length : Nat) : Int))), some (.d (pt z)), some (.d (.list (mr.map pt))), some (.d (.list ((hullL (ps ++ mr)).map pt))), some (.d (.int ((i : Nat) : Int))), some (.d (.list ((partOf h i j).map pt))), some (.d (.list ((partOf h j i).map pt))), some (.d (.str (whereF h z))), some (.d (.list [.str (whereF (partOf h i j) z), .str (whereF (partOf h j i) z)]))])
      · apply xt_to (k := (!((whereF h z == ("outside" : Str)) == ((whereF (partOf h i j) z == ("outside" : Str)) && (whereF (partOf h j i) z == ("outside" : Str))))) || ((whereF (partOf h i j) z == ("inside" : Str)) && (whereF (partOf h j i) z == ("inside" : Str))))
        · apply xt_w
          apply xw_or0
          · apply (xt_cmp (hm := nomark _))
            · apply (xe_cmp (hm := nomark _))
              · lcg_sub
              · lcg_sub
              · exact opd_eqS
            · apply (xe_cmp (hm := nomark _) (y := .list [.str "outside", .str "outside"]))
              · lcg_sub
              · apply xe_lst
                · lcg_sub
                · show 2 ≤ sizeLine
                  decide
              · exact opd_eqSS (Room.units hr) (where_ok _ _) (where_ok _ _) ok_out ok_out
            · exact opd_neB
          · apply xw_or1
            apply (xt_cmp (hm := nomark _) (y := .list [.str "inside", .str "inside"]))
            · lcg_sub
            · apply xe_lst
              · lcg_sub
              · show 2 ≤ sizeLine
                decide
            · exact opd_eqSS (Room.units hr) (where_ok _ _) (where_ok _ _) ok_in ok_in
        · have hO' := hO i j hok z
          have hI' := hI i j hok z
          have e1 : (whereF h z == ("outside" : Str)) = ((whereF (partOf h i j) z == ("outside" : Str)) && (whereF (partOf h j i) z == ("outside" : Str))) := by
            rw [Bool.eq_iff_iff, Bool.and_eq_true, beq_iff_eq, beq_iff_eq, beq_iff_eq]
            exact hO'
          have e2 : ((whereF (partOf h i j) z == ("inside" : Str)) && (whereF (partOf h j i) z == ("inside" : Str))) = false := by
            rw [← Bool.not_eq_true, Bool.and_eq_true, beq_iff_eq, beq_iff_eq]
            exact hI'
          rw [← e1, e2, beq_self_eq_true]
          rfl
      · intro z
        cases z
      intro _
      apply xb_nil
      exact ⟨_, _, _, rfl⟩
  · obtain ⟨q, u, v, rfl⟩ := hJ
    apply xb_one
    apply xs_ret
    · lcg_sub
    · rfl
end
end K81
set_option maxRecDepth 100000
set_option maxHeartbeats 0
namespace K81
open PySem PySem.Spec PyProof.Rows L2 Dt
section
variable {P : Program} {w : World} {K : PySem.W.Frag} {mg : Str → Option Value} {base : Heap}
theorem call_pool (i : Nat) {X : Cx} {c : Dt.Ctx} {ds : Ds} {pn : Str} {npos p pos : Pos} {k : Nat} {ns : List Int} (C : Cal X.prog X.w X.K X.mg X.base CX0 "_law_pool" 2 ["script"] (spPool X.K)) (hr : Room k X.A) (hk : 2 ≤ k)
    (hg : Gl X "_law_pool") (he : starEach (.Name pn npos :: []) X.env = (false, eval (.Name pn npos) X.env) :: starEach [] X.env) (hpl : (backTo pos (starEach [] X.env)).any (·.1) = false) (hd : ds[i]? = some (some (.scr ns))) (hN : X.N[i]? = some pn) (hv : Vis X.env.scope pn) (h1 : (pn == ("__debug__" : Str)) = false) (h2 : (pn == ("__classdict__" : Str)) = false)
    (h : ns.length ≤ 63) : XE X c (.Call (.Name "_law_pool" p) [.Name pn npos] [] pos) ds (.list [.list ((poolV ns).map PyData.int), .list [.int 0]]) ds :=
  xe_callS i C (hr.mono hk) ns hd hN hv xa_nil h hg h1 h2 (by decide) he hpl
theorem ok_law {Cl : Addr} (PL : ∀ ps more : List Pt, 3 ≤ ps.length → Facts ps more) (T : Fx mg) (T2 : Fy mg) (C : Calls P w K mg base Cl) (CP : Cal P w K mg base CX0 "_law_pool" 2 ["script"] (spPool K)) {f : Addr} {fd : FuncData} (F : Fun K "law" "law" sLaw f fd) :
    FnOk P w K mg base CX0 6 f fd ["script"] (SpLaw K) := by
  refine cal_mkLaw (n := "law") (st := sLaw) (N := nLaw) (ps := ["script"]) (CX := CX0) 5 (fun F h1 h2 => F.ok scLaw h1 h2) F scLaw rfl (by decide) rfl poolV (fun ns => by have := poolV_len ns; omega) rfl (fun f cdv A outer s H E c ns hr hl => ?_)
  refine ⟨.inr rfl, .inl rfl, rfl, ?_, ?_⟩
  · apply call_pool 0 CP hr (by decide)
    · rfl
    · rfl
    · rfl
    · rfl
    · rfl
    · exact .inl rfl
    · decide
    · decide
    · exact hl
  · have hR : okR (poolV ns) := poolV_len ns
    refine law_one T T2 C hr hR fun ds h2 => ?_
    obtain ⟨ps, po, h3, h8, hB, p0, p1, rfl⟩ := h2
    have FF := fun mr => PL ps mr h3
    have F0 := FF []
    have hhl := hullL_len ps
    refine law_two T T2 C hr hR h3 h8 hB F0.none_iff fun hn a ls => ?_
    have e : hullD ps = .list ((hullL ps).map pt) := by
      unfold hullD
      rw [if_neg hn]
    rw [e]
    have hBh : inBs (hullL ps) := fun p hp => hB p (hullL_mem hp)
    refine law_three (ls' := []) T T2 C hr hR h3 h8 hB (by omega) (by omega) hBh (F0.simple hn) (F0.area hn) (fun p hp => hullL_mem hp) (F0.least hn) (F0.left hn) (F0.turn hn) (F0.notOut hn) (F0.notIn hn) fun kk a b q => ?_
    exact law_four T T2 C hr hR h3 h8 hB (by omega) (by omega) hBh ⟨p0, p1⟩ (F0.again hn) (F0.back hn) (fun mr => (FF mr).wide hn) (fun mr => (FF mr).wideA hn) (F0.halfA hn) (F0.halfS hn) (F0.halfO hn) (F0.halfI hn)
end
theorem all_mk (PL : ∀ ps more : List Pt, 3 ≤ ps.length → Facts ps more) {l : PySem.W.OpenLaw} {w : World} {K : PySem.W.Frag} {h : Heap} {mg : Str → Option Value} {fa C f0 f1 f2 f3 f4 f5 f6 f7 f8 f9 f10 f11 f12 f13 f14 f15 f16 f17 f18 f19 f20 f21 f22 f23 f24 f25 : Addr} (X : K.In h) (G : h.Ns mainGlobals mg) (hfa : mg "law" = some (.ref fa))
    {od0 an0 od1 an1 od2 an2 od3 an3 od4 an4 od5 an5 od6 an6 od7 an7 od8 an8 od9 an9 od10 an10 od11 an11 od12 an12 od13 an13 od14 an14 od15 an15 od16 an16 od17 an17 od18 an18 od19 an19 od20 an20 od21 an21 od22 an22 od23 an23 od24 an24 od25 an25 : Option Addr} {sl0 sl1 sl2 sl3 sl4 sl5 sl6 sl7 sl8 sl9 sl10 sl11 sl12 sl13 sl14 sl15 sl16 sl17 sl18 sl19 sl20 sl21 sl22 sl23 sl24 sl25 : Array (Option Value)} {oc0 kV0 dc0 pm0 cd0 ct0 oc1 kV1 dc1 pm1 cd1 ct1 oc2 kV2 dc2 pm2 cd2 ct2 oc3 kV3 dc3 pm3 cd3 ct3 oc4 kV4 dc4 pm4 cd4 ct4 oc5 kV5 dc5 pm5 cd5 ct5 oc6 kV6 dc6 pm6 cd6 ct6 oc7 kV7 dc7 pm7 cd7 ct7 oc8 kV8 dc8 pm8 cd8 ct8 oc9 kV9 dc9 pm9 cd9 ct9 oc10 kV10 dc10 pm10 cd10 ct10 oc11 kV11 dc11 pm11 cd11 ct11 oc12 kV12 dc12 pm12 cd12 ct12 oc13 kV13 dc13 pm13 cd13 ct13 oc14 kV14 dc14 pm14 cd14 ct14 oc15 kV15 dc15 pm15 cd15 ct15 oc16 kV16 dc16 pm16 cd16 ct16 oc17 kV17 dc17 pm17 cd17 ct17 oc18 kV18 dc18 pm18 cd18 ct18 oc19 kV19 dc19 pm19 cd19 ct19 oc20 kV20 dc20 pm20 cd20 ct20 oc21 kV21 dc21 pm21 cd21 ct21 oc22 kV22 dc22 pm22 cd22 ct22 oc23 kV23 dc23 pm23 cd23 ct23 oc24 kV24 dc24 pm24 cd24 ct24 oc25 kV25 dc25 pm25 cd25 ct25 : Value}
    (a0 : PySem.W.nsIn K mainGlobals "cross" = some (some (.ref f0))) (l0 : K.lookup f0 = some ⟨oc0, od0, .func (PySem.W.fnOf "cross" "cross" (defArgs sCross) (defBody sCross) (defScope sCross) .none kV0 dc0 pm0 an0 cd0 ct0), sl0⟩) (c0 : PySem.W.codeIn K cd0 "cross" = true) (k0 : PySem.W.keepIn K (.ref f0) = true)
    (a1 : PySem.W.nsIn K mainGlobals "sign" = some (some (.ref f1))) (l1 : K.lookup f1 = some ⟨oc1, od1, .func (PySem.W.fnOf "sign" "sign" (defArgs sSign) (defBody sSign) (defScope sSign) .none kV1 dc1 pm1 an1 cd1 ct1), sl1⟩) (c1 : PySem.W.codeIn K cd1 "sign" = true) (k1 : PySem.W.keepIn K (.ref f1) = true)
    (a2 : PySem.W.nsIn K mainGlobals "is_on" = some (some (.ref f2))) (l2 : K.lookup f2 = some ⟨oc2, od2, .func (PySem.W.fnOf "is_on" "is_on" (defArgs sIsOn) (defBody sIsOn) (defScope sIsOn) .none kV2 dc2 pm2 an2 cd2 ct2), sl2⟩) (c2 : PySem.W.codeIn K cd2 "is_on" = true) (k2 : PySem.W.keepIn K (.ref f2) = true)
    (a3 : PySem.W.nsIn K mainGlobals "do_meet" = some (some (.ref f3))) (l3 : K.lookup f3 = some ⟨oc3, od3, .func (PySem.W.fnOf "do_meet" "do_meet" (defArgs sDoMeet) (defBody sDoMeet) (defScope sDoMeet) .none kV3 dc3 pm3 an3 cd3 ct3), sl3⟩) (c3 : PySem.W.codeIn K cd3 "do_meet" = true) (k3 : PySem.W.keepIn K (.ref f3) = true)
    (a4 : PySem.W.nsIn K mainGlobals "turns_back" = some (some (.ref f4))) (l4 : K.lookup f4 = some ⟨oc4, od4, .func (PySem.W.fnOf "turns_back" "turns_back" (defArgs sTurns) (defBody sTurns) (defScope sTurns) .none kV4 dc4 pm4 an4 cd4 ct4), sl4⟩) (c4 : PySem.W.codeIn K cd4 "turns_back" = true) (k4 : PySem.W.keepIn K (.ref f4) = true)
    (a5 : PySem.W.nsIn K mainGlobals "sides_of" = some (some (.ref f5))) (l5 : K.lookup f5 = some ⟨oc5, od5, .func (PySem.W.fnOf "sides_of" "sides_of" (defArgs sSides) (defBody sSides) (defScope sSides) .none kV5 dc5 pm5 an5 cd5 ct5), sl5⟩) (c5 : PySem.W.codeIn K cd5 "sides_of" = true) (k5 : PySem.W.keepIn K (.ref f5) = true)
    (a6 : PySem.W.nsIn K mainGlobals "is_simple" = some (some (.ref f6))) (l6 : K.lookup f6 = some ⟨oc6, od6, .func (PySem.W.fnOf "is_simple" "is_simple" (defArgs sSimple) (defBody sSimple) (defScope sSimple) .none kV6 dc6 pm6 an6 cd6 ct6), sl6⟩) (c6 : PySem.W.codeIn K cd6 "is_simple" = true) (k6 : PySem.W.keepIn K (.ref f6) = true)
    (a7 : PySem.W.nsIn K mainGlobals "double_area" = some (some (.ref f7))) (l7 : K.lookup f7 = some ⟨oc7, od7, .func (PySem.W.fnOf "double_area" "double_area" (defArgs sArea) (defBody sArea) (defScope sArea) .none kV7 dc7 pm7 an7 cd7 ct7), sl7⟩) (c7 : PySem.W.codeIn K cd7 "double_area" = true) (k7 : PySem.W.keepIn K (.ref f7) = true)
    (a8 : PySem.W.nsIn K mainGlobals "turning" = some (some (.ref f8))) (l8 : K.lookup f8 = some ⟨oc8, od8, .func (PySem.W.fnOf "turning" "turning" (defArgs sTurning) (defBody sTurning) (defScope sTurning) .none kV8 dc8 pm8 an8 cd8 ct8), sl8⟩) (c8 : PySem.W.codeIn K cd8 "turning" = true) (k8 : PySem.W.keepIn K (.ref f8) = true)
    (a9 : PySem.W.nsIn K mainGlobals "where" = some (some (.ref f9))) (l9 : K.lookup f9 = some ⟨oc9, od9, .func (PySem.W.fnOf "where" "where" (defArgs sWhere) (defBody sWhere) (defScope sWhere) .none kV9 dc9 pm9 an9 cd9 ct9), sl9⟩) (c9 : PySem.W.codeIn K cd9 "where" = true) (k9 : PySem.W.keepIn K (.ref f9) = true)
    (a10 : PySem.W.nsIn K mainGlobals "part_of" = some (some (.ref f10))) (l10 : K.lookup f10 = some ⟨oc10, od10, .func (PySem.W.fnOf "part_of" "part_of" (defArgs sPart) (defBody sPart) (defScope sPart) .none kV10 dc10 pm10 an10 cd10 ct10), sl10⟩) (c10 : PySem.W.codeIn K cd10 "part_of" = true) (k10 : PySem.W.keepIn K (.ref f10) = true)
    (a11 : PySem.W.nsIn K mainGlobals "halves" = some (some (.ref f11))) (l11 : K.lookup f11 = some ⟨oc11, od11, .func (PySem.W.fnOf "halves" "halves" (defArgs sHalves) (defBody sHalves) (defScope sHalves) .none kV11 dc11 pm11 an11 cd11 ct11), sl11⟩) (c11 : PySem.W.codeIn K cd11 "halves" = true) (k11 : PySem.W.keepIn K (.ref f11) = true)
    (a12 : PySem.W.nsIn K mainGlobals "chain" = some (some (.ref f12))) (l12 : K.lookup f12 = some ⟨oc12, od12, .func (PySem.W.fnOf "chain" "chain" (defArgs sChain) (defBody sChain) (defScope sChain) .none kV12 dc12 pm12 an12 cd12 ct12), sl12⟩) (c12 : PySem.W.codeIn K cd12 "chain" = true) (k12 : PySem.W.keepIn K (.ref f12) = true)
    (a13 : PySem.W.nsIn K mainGlobals "hull_of" = some (some (.ref f13))) (l13 : K.lookup f13 = some ⟨oc13, od13, .func (PySem.W.fnOf "hull_of" "hull_of" (defArgs sHull) (defBody sHull) (defScope sHull) .none kV13 dc13 pm13 an13 cd13 ct13), sl13⟩) (c13 : PySem.W.codeIn K cd13 "hull_of" = true) (k13 : PySem.W.keepIn K (.ref f13) = true)
    (a14 : PySem.W.nsIn K mainGlobals "_law_cell" = some (some (.ref f14))) (l14 : K.lookup f14 = some ⟨oc14, od14, .func (PySem.W.fnOf "_law_cell" "_law_cell" (defArgs sCell) (defBody sCell) (defScope sCell) .none kV14 dc14 pm14 an14 cd14 ct14), sl14⟩) (c14 : PySem.W.codeIn K cd14 "_law_cell" = true) (k14 : PySem.W.keepIn K (.ref f14) = true)
    (a15 : PySem.W.nsIn K mainGlobals "_law_numbers" = some (some (.ref f15))) (l15 : K.lookup f15 = some ⟨oc15, od15, .func (PySem.W.fnOf "_law_numbers" "_law_numbers" (defArgs sNums) (defBody sNums) (defScope sNums) .none kV15 dc15 pm15 an15 cd15 ct15), sl15⟩) (c15 : PySem.W.codeIn K cd15 "_law_numbers" = true) (k15 : PySem.W.keepIn K (.ref f15) = true)
    (a16 : PySem.W.nsIn K mainGlobals "_law_pool" = some (some (.ref f16))) (l16 : K.lookup f16 = some ⟨oc16, od16, .func (PySem.W.fnOf "_law_pool" "_law_pool" (defArgs sPool) (defBody sPool) (defScope sPool) .none kV16 dc16 pm16 an16 cd16 ct16), sl16⟩) (c16 : PySem.W.codeIn K cd16 "_law_pool" = true) (k16 : PySem.W.keepIn K (.ref f16) = true)
    (a17 : PySem.W.nsIn K mainGlobals "_law_draw" = some (some (.ref f17))) (l17 : K.lookup f17 = some ⟨oc17, od17, .func (PySem.W.fnOf "_law_draw" "_law_draw" (defArgs sDraw) (defBody sDraw) (defScope sDraw) .none kV17 dc17 pm17 an17 cd17 ct17), sl17⟩) (c17 : PySem.W.codeIn K cd17 "_law_draw" = true) (k17 : PySem.W.keepIn K (.ref f17) = true)
    (a18 : PySem.W.nsIn K mainGlobals "_law_kind" = some (some (.ref f18))) (l18 : K.lookup f18 = some ⟨oc18, od18, .func (PySem.W.fnOf "_law_kind" "_law_kind" (defArgs sKind) (defBody sKind) (defScope sKind) .none kV18 dc18 pm18 an18 cd18 ct18), sl18⟩) (c18 : PySem.W.codeIn K cd18 "_law_kind" = true) (k18 : PySem.W.keepIn K (.ref f18) = true)
    (a19 : PySem.W.nsIn K mainGlobals "_law_equal" = some (some (.ref f19))) (l19 : K.lookup f19 = some ⟨oc19, od19, .func (PySem.W.fnOf "_law_equal" "_law_equal" (defArgs sEqual) (defBody sEqual) (defScope sEqual) .none kV19 dc19 pm19 an19 cd19 ct19), sl19⟩) (c19 : PySem.W.codeIn K cd19 "_law_equal" = true) (k19 : PySem.W.keepIn K (.ref f19) = true)
    (a20 : PySem.W.nsIn K mainGlobals "_law_angle" = some (some (.ref f20))) (l20 : K.lookup f20 = some ⟨oc20, od20, .func (PySem.W.fnOf "_law_angle" "_law_angle" (defArgs sAngle) (defBody sAngle) (defScope sAngle) .none kV20 dc20 pm20 an20 cd20 ct20), sl20⟩) (c20 : PySem.W.codeIn K cd20 "_law_angle" = true) (k20 : PySem.W.keepIn K (.ref f20) = true)
    (a21 : PySem.W.nsIn K mainGlobals "_law_point" = some (some (.ref f21))) (l21 : K.lookup f21 = some ⟨oc21, od21, .func (PySem.W.fnOf "_law_point" "_law_point" (defArgs sPoint) (defBody sPoint) (defScope sPoint) .none kV21 dc21 pm21 an21 cd21 ct21), sl21⟩) (c21 : PySem.W.codeIn K cd21 "_law_point" = true) (k21 : PySem.W.keepIn K (.ref f21) = true)
    (a22 : PySem.W.nsIn K mainGlobals "_law_points" = some (some (.ref f22))) (l22 : K.lookup f22 = some ⟨oc22, od22, .func (PySem.W.fnOf "_law_points" "_law_points" (defArgs sPoints) (defBody sPoints) (defScope sPoints) .none kV22 dc22 pm22 an22 cd22 ct22), sl22⟩) (c22 : PySem.W.codeIn K cd22 "_law_points" = true) (k22 : PySem.W.keepIn K (.ref f22) = true)
    (a23 : PySem.W.nsIn K mainGlobals "_law_hull" = some (some (.ref f23))) (l23 : K.lookup f23 = some ⟨oc23, od23, .func (PySem.W.fnOf "_law_hull" "_law_hull" (defArgs sLHull) (defBody sLHull) (defScope sLHull) .none kV23 dc23 pm23 an23 cd23 ct23), sl23⟩) (c23 : PySem.W.codeIn K cd23 "_law_hull" = true) (k23 : PySem.W.keepIn K (.ref f23) = true)
    (a24 : PySem.W.nsIn K mainGlobals "_law_cross" = some (some (.ref f24))) (l24 : K.lookup f24 = some ⟨oc24, od24, .func (PySem.W.fnOf "_law_cross" "_law_cross" (defArgs sLCross) (defBody sLCross) (defScope sLCross) .none kV24 dc24 pm24 an24 cd24 ct24), sl24⟩) (c24 : PySem.W.codeIn K cd24 "_law_cross" = true) (k24 : PySem.W.keepIn K (.ref f24) = true)
    (a25 : PySem.W.nsIn K mainGlobals "law" = some (some (.ref f25))) (l25 : K.lookup f25 = some ⟨oc25, od25, .func (PySem.W.fnOf "law" "law" (defArgs sLaw) (defBody sLaw) (defScope sLaw) .none kV25 dc25 pm25 an25 cd25 ct25), sl25⟩) (c25 : PySem.W.codeIn K cd25 "law" = true) (k25 : PySem.W.keepIn K (.ref f25) = true)
    (z0 : PySem.W.nsIn K mainGlobals "len" = some none) (z1 : PySem.W.nsIn K mainGlobals "min" = some none) (z2 : PySem.W.nsIn K mainGlobals "max" = some none) (z3 : PySem.W.nsIn K mainGlobals "range" = some none) (z4 : PySem.W.nsIn K mainGlobals "enumerate" = some none) (z5 : PySem.W.nsIn K mainGlobals "sum" = some none) (z6 : PySem.W.nsIn K mainGlobals "sorted" = some none) (z7 : PySem.W.nsIn K mainGlobals "set" = some none) (z8 : PySem.W.nsIn K mainGlobals "int" = some none) (z9 : PySem.W.nsIn K mainGlobals "list" = some none) (z10 : PySem.W.nsIn K mainGlobals "isinstance" = some none) (z11 : PySem.W.nsIn K mainGlobals "bool" = some none) (z12 : PySem.W.nsIn K mainGlobals "str" = some none) (z13 : PySem.W.nsIn K mainGlobals "tuple" = some none)
    (aC : PySem.W.nsIn K mainGlobals "NoHalves" = some (some (.ref C)))
    (xC : PySem.W.excIn K C [.type "ValueError", .type "Exception", .type "BaseException", .type "object"] "ValueError.__new__" = true) (kC : PySem.W.keepIn K (.ref C) = true) (bC : PySem.W.subIn K (.ref C) (.type "BaseException") = some true) (tC : PySem.W.typeIn K (.ref C) = some (.type "type")) (iC : PySem.W.isClsIn K C = true) (sC : PySem.W.subIn K (.ref C) (.ref C) = some true) :
    ∃ fd : FuncData, (∀ (s : Shared) (v : Value), BindsTo s fd ⟨[v], []⟩ [("script", v)]) ∧ ∀ base : Heap, K.In base → base.Ns mainGlobals mg → FnOk l.prog w K mg base CX0 6 fa fd ["script"] (SpLaw K) := by
  have e := hfa.symm.trans (PySem.W.mg_of X G a25)
  cases e
  have D0 : DefAt K mg "cross" sCross := ⟨_, _, fun_mk (st := sCross) l0 c0 k0, PySem.W.mg_of X G a0⟩
  have D1 : DefAt K mg "sign" sSign := ⟨_, _, fun_mk (st := sSign) l1 c1 k1, PySem.W.mg_of X G a1⟩
  have D2 : DefAt K mg "is_on" sIsOn := ⟨_, _, fun_mk (st := sIsOn) l2 c2 k2, PySem.W.mg_of X G a2⟩
  have D3 : DefAt K mg "do_meet" sDoMeet := ⟨_, _, fun_mk (st := sDoMeet) l3 c3 k3, PySem.W.mg_of X G a3⟩
  have D4 : DefAt K mg "turns_back" sTurns := ⟨_, _, fun_mk (st := sTurns) l4 c4 k4, PySem.W.mg_of X G a4⟩
  have D5 : DefAt K mg "sides_of" sSides := ⟨_, _, fun_mk (st := sSides) l5 c5 k5, PySem.W.mg_of X G a5⟩
  have D6 : DefAt K mg "is_simple" sSimple := ⟨_, _, fun_mk (st := sSimple) l6 c6 k6, PySem.W.mg_of X G a6⟩
  have D7 : DefAt K mg "double_area" sArea := ⟨_, _, fun_mk (st := sArea) l7 c7 k7, PySem.W.mg_of X G a7⟩
  have D8 : DefAt K mg "turning" sTurning := ⟨_, _, fun_mk (st := sTurning) l8 c8 k8, PySem.W.mg_of X G a8⟩
  have D9 : DefAt K mg "where" sWhere := ⟨_, _, fun_mk (st := sWhere) l9 c9 k9, PySem.W.mg_of X G a9⟩
  have D10 : DefAt K mg "part_of" sPart := ⟨_, _, fun_mk (st := sPart) l10 c10 k10, PySem.W.mg_of X G a10⟩
  have D11 : DefAt K mg "halves" sHalves := ⟨_, _, fun_mk (st := sHalves) l11 c11 k11, PySem.W.mg_of X G a11⟩
  have D12 : DefAt K mg "chain" sChain := ⟨_, _, fun_mk (st := sChain) l12 c12 k12, PySem.W.mg_of X G a12⟩
  have D13 : DefAt K mg "hull_of" sHull := ⟨_, _, fun_mk (st := sHull) l13 c13 k13, PySem.W.mg_of X G a13⟩
  have D14 : DefAt K mg "_law_cell" sCell := ⟨_, _, fun_mk (st := sCell) l14 c14 k14, PySem.W.mg_of X G a14⟩
  have D15 : DefAt K mg "_law_numbers" sNums := ⟨_, _, fun_mk (st := sNums) l15 c15 k15, PySem.W.mg_of X G a15⟩
  have D16 : DefAt K mg "_law_pool" sPool := ⟨_, _, fun_mk (st := sPool) l16 c16 k16, PySem.W.mg_of X G a16⟩
  have D17 : DefAt K mg "_law_draw" sDraw := ⟨_, _, fun_mk (st := sDraw) l17 c17 k17, PySem.W.mg_of X G a17⟩
  have D18 : DefAt K mg "_law_kind" sKind := ⟨_, _, fun_mk (st := sKind) l18 c18 k18, PySem.W.mg_of X G a18⟩
  have D19 : DefAt K mg "_law_equal" sEqual := ⟨_, _, fun_mk (st := sEqual) l19 c19 k19, PySem.W.mg_of X G a19⟩
  have D20 : DefAt K mg "_law_angle" sAngle := ⟨_, _, fun_mk (st := sAngle) l20 c20 k20, PySem.W.mg_of X G a20⟩
  have D21 : DefAt K mg "_law_point" sPoint := ⟨_, _, fun_mk (st := sPoint) l21 c21 k21, PySem.W.mg_of X G a21⟩
  have D22 : DefAt K mg "_law_points" sPoints := ⟨_, _, fun_mk (st := sPoints) l22 c22 k22, PySem.W.mg_of X G a22⟩
  have D23 : DefAt K mg "_law_hull" sLHull := ⟨_, _, fun_mk (st := sLHull) l23 c23 k23, PySem.W.mg_of X G a23⟩
  have D24 : DefAt K mg "_law_cross" sLCross := ⟨_, _, fun_mk (st := sLCross) l24 c24 k24, PySem.W.mg_of X G a24⟩
  have D25 : DefAt K mg "law" sLaw := ⟨_, _, fun_mk (st := sLaw) l25 c25 k25, PySem.W.mg_of X G a25⟩
  have R : ErrAt K mg "NoHalves" C := ⟨xC, PySem.W.mg_of X G aC, kC, bC, tC, iC, sC⟩
  have T : Fx mg := ⟨PySem.W.mg_none_of X G z0, PySem.W.mg_none_of X G z1, PySem.W.mg_none_of X G z2, PySem.W.mg_none_of X G z3, PySem.W.mg_none_of X G z4, PySem.W.mg_none_of X G z5, PySem.W.mg_none_of X G z6, PySem.W.mg_none_of X G z7⟩
  have T2 : Fy mg := ⟨PySem.W.mg_none_of X G z8, PySem.W.mg_none_of X G z9, PySem.W.mg_none_of X G z10, PySem.W.mg_none_of X G z11, PySem.W.mg_none_of X G z12, PySem.W.mg_none_of X G z13⟩
  refine ⟨PySem.W.fnOf "law" "law" (defArgs sLaw) (defBody sLaw) (defScope sLaw) .none kV25 dc25 pm25 an25 cd25 ct25, fun s v => .of_eq rfl, fun base _ _ => ?_⟩
  have q0 := ok_cross (P := l.prog) (w := w) (base := base) D0
  have q1 := ok_sign (P := l.prog) (w := w) (base := base) D1
  have q2 := ok_isOn D2 T q0
  have q3 := ok_doMeet D3 q0 q1 q2
  have q4 := ok_turns D4 q0
  have q5 := ok_sides (P := l.prog) (w := w) (base := base) D5 T
  have q6 := ok_simple D6 T q5 q4 q3
  have q7 := ok_area D7 T q5
  have q8 := ok_turning D8 q1 q7
  have q9 := ok_where D9 q0 q2 q5
  have q10 := ok_part (P := l.prog) (w := w) (base := base) D10 T
  have q11 := ok_halves D11 T q10
  have q12 := ok_chain D12 T q0
  have q13 := ok_hull D13 T R q12
  have q14 := ok_cell (P := l.prog) (w := w) (base := base) D14 T
  have q15 := ok_nums (P := l.prog) (w := w) (base := base) D15 T T2
  have q16 := ok_pool D16 T q14 q15
  have q17 := ok_draw (P := l.prog) (w := w) (base := base) D17 T T2
  have q18 := ok_kind (P := l.prog) (w := w) (base := base) D18 T2
  have q19i := ok_equalI D19 T2 q18
  have q19t : Cal l.prog w K mg base CX0 "_law_equal" 3 ["x", "due"] (SpD K (fun p : Pt × Pt => [pt p.1, pt p.2]) (fun _ => True) (fun p => .bool (decide (p.1 = p.2)))) :=
    ok_equalT (γ := Pt) (Di := PyData.int) (items := fun p => [p.1, p.2]) (fun _ => (by decide : 2 ≤ 1000)) (fun x y h => by
      obtain ⟨x1, x2⟩ := x
      obtain ⟨y1, y2⟩ := y
      simp only [List.cons.injEq, and_true] at h
      rw [h.1, h.2]) 2 (by decide) D19 T T2 q18 q19i
  have q20 := ok_angle D20 q17
  have q21 := ok_point D21 q17 q20
  have q22 := ok_points D22 T q21
  have q23 := ok_lhull D23 R q13
  have q24 := ok_lcross (P := l.prog) (w := w) (base := base) D24
  have q19l : Cal l.prog w K mg base CX0 "_law_equal" 4 ["x", "due"] (SpD K (fun p : Sm × Sm => [.list (p.1.1.map pt), .list (p.2.1.map pt)]) (fun _ => True) (fun p => .bool (decide (p.1 = p.2)))) :=
    ok_equalL (γ := Sm) (Di := pt) (items := fun p => p.1) (fun p => p.2) (fun x y h => Subtype.ext h) 3 (by decide) D19 T T2 q18 q19t
  exact ok_law PL T T2 ⟨q17, q22, q23, q24, q6, q8, q7, q9, q11, q13, q19l⟩ q16 (fun_mk (st := sLaw) l25 c25 k25)
end K81
set_option maxHeartbeats 0
namespace K81
/-! ### vectors that point to the right (or straight up) -/
def LP (x y : Int) : Prop := 0 < x ∨ (x = 0 ∧ 0 < y)
theorem pos_of_mul {a b : Int} (ha : 0 < a) (h : 0 < a * b) : 0 < b := by
  rcases Int.lt_trichotomy b 0 with hb | hb | hb
  · have := Int.mul_neg_of_pos_of_neg ha hb
    omega
  · subst hb
    omega
  · exact hb
theorem nn_of_mul {a b : Int} (ha : 0 < a) (h : 0 ≤ a * b) : 0 ≤ b := by
  rcases Int.lt_or_le b 0 with hb | hb
  · have := Int.mul_neg_of_pos_of_neg ha hb
    omega
  · exact hb
theorem nz_of_mul {a b : Int} (ha : 0 < a) (h : a * b = 0) : b = 0 := by
  rcases Int.mul_eq_zero.mp h with h | h
  · omega
  · exact h
theorem tr_id (x1 y1 x2 y2 x3 y3 : Int) : x2 * (x1 * y3 - y1 * x3) = x1 * (x2 * y3 - y2 * x3) + x3 * (x1 * y2 - y1 * x2) := by grind
theorem tr_ge {x1 y1 x2 y2 x3 y3 : Int} (l1 : LP x1 y1) (l2 : LP x2 y2) (l3 : LP x3 y3) (h12 : 0 ≤ x1 * y2 - y1 * x2) (h23 : 0 ≤ x2 * y3 - y2 * x3) : 0 ≤ x1 * y3 - y1 * x3 := by
  have p1 : 0 ≤ x1 := by unfold LP at l1; omega
  have p3 : 0 ≤ x3 := by unfold LP at l3; omega
  rcases l2 with l2 | ⟨l2, m2⟩
  · refine nn_of_mul l2 ?_
    rw [tr_id x1 y1 x2 y2 x3 y3]
    have := Int.mul_nonneg p1 h23
    have := Int.mul_nonneg p3 h12
    omega
  · subst l2
    have h : y2 * x3 ≤ 0 := by omega
    have hx : x3 = 0 := by
      rcases Int.lt_or_le 0 x3 with q | q
      · have := Int.mul_pos m2 q
        omega
      · omega
    subst hx
    have m3 : 0 < y3 := by unfold LP at l3; omega
    have := Int.mul_nonneg p1 (Int.le_of_lt m3)
    omega
theorem tr_gt1 {x1 y1 x2 y2 x3 y3 : Int} (l1 : LP x1 y1) (l2 : LP x2 y2) (l3 : LP x3 y3) (h12 : 0 < x1 * y2 - y1 * x2) (h23 : 0 ≤ x2 * y3 - y2 * x3) : 0 < x1 * y3 - y1 * x3 := by
  have q1 : 0 < x1 := by
    rcases l1 with l1 | ⟨l1, m1⟩
    · exact l1
    · subst l1
      have : 0 ≤ x2 := by unfold LP at l2; omega
      have := Int.mul_nonneg (Int.le_of_lt m1) this
      omega
  rcases l2 with l2 | ⟨l2, m2⟩
  · refine pos_of_mul l2 ?_
    rw [tr_id x1 y1 x2 y2 x3 y3]
    have a1 := Int.mul_nonneg (Int.le_of_lt q1) h23
    rcases l3 with l3 | ⟨l3, m3⟩
    · have := Int.mul_pos l3 h12
      omega
    · subst l3
      have : 0 < x2 * y3 := Int.mul_pos l2 m3
      have := Int.mul_pos q1 (show 0 < x2 * y3 - y2 * 0 by omega)
      omega
  · subst l2
    have h : y2 * x3 ≤ 0 := by omega
    have hx : x3 = 0 := by
      rcases Int.lt_or_le 0 x3 with q | q
      · have := Int.mul_pos m2 q
        omega
      · have : 0 ≤ x3 := by unfold LP at l3; omega
        omega
    subst hx
    have m3 : 0 < y3 := by unfold LP at l3; omega
    have := Int.mul_pos q1 m3
    omega
theorem tr_gt2 {x1 y1 x2 y2 x3 y3 : Int} (l1 : LP x1 y1) (l2 : LP x2 y2) (l3 : LP x3 y3) (h12 : 0 ≤ x1 * y2 - y1 * x2) (h23 : 0 < x2 * y3 - y2 * x3) : 0 < x1 * y3 - y1 * x3 := by
  have q2 : 0 < x2 := by
    rcases l2 with l2 | ⟨l2, m2⟩
    · exact l2
    · subst l2
      have : 0 ≤ x3 := by unfold LP at l3; omega
      have := Int.mul_nonneg (Int.le_of_lt m2) this
      omega
  have q1 : 0 < x1 := by
    rcases l1 with l1 | ⟨l1, m1⟩
    · exact l1
    · subst l1
      have := Int.mul_pos m1 q2
      omega
  have p3 : 0 ≤ x3 := by unfold LP at l3; omega
  refine pos_of_mul q2 ?_
  rw [tr_id x1 y1 x2 y2 x3 y3]
  have := Int.mul_pos q1 h23
  have := Int.mul_nonneg p3 h12
  omega
/-! ### points in order: by longitude, then by latitude -/
def Lt (p q : Pt) : Prop := p.2 < q.2 ∨ (p.2 = q.2 ∧ p.1 < q.1)
def Le (p q : Pt) : Prop := p.2 < q.2 ∨ (p.2 = q.2 ∧ p.1 ≤ q.1)
theorem Lt.lp {p q : Pt} (h : Lt p q) : LP (q.2 - p.2) (q.1 - p.1) := by unfold Lt at h; unfold LP; omega
theorem Lt.trans {p q r : Pt} (h : Lt p q) (h2 : Lt q r) : Lt p r := by unfold Lt at *; omega
theorem Lt.ne {p q : Pt} (h : Lt p q) : p ≠ q := by
  rintro rfl
  unfold Lt at h
  omega
theorem Lt.le {p q : Pt} (h : Lt p q) : Le p q := by unfold Lt at h; unfold Le; omega
theorem Le.refl (p : Pt) : Le p p := by unfold Le; omega
theorem Le.trans {p q r : Pt} (h : Le p q) (h2 : Le q r) : Le p r := by unfold Le at *; omega
theorem Le.anti {p q : Pt} (h : Le p q) (h2 : Le q p) : p = q := by
  unfold Le at *
  exact Prod.ext (by omega) (by omega)
theorem le_of_nlt {p q : Pt} (h : ¬ Lt p q) : Le q p := by unfold Lt at h; unfold Le; omega
theorem lt_or_eq {p q : Pt} (h : Le p q) : Lt p q ∨ p = q := by
  by_cases e : Lt p q
  · exact .inl e
  · exact .inr (h.anti (le_of_nlt e))
theorem tri (p q : Pt) : Lt p q ∨ p = q ∨ Lt q p := by
  by_cases e : Lt p q
  · exact .inl e
  · rcases lt_or_eq (le_of_nlt e) with h | h
    · exact .inr (.inr h)
    · exact .inr (.inl h.symm)
theorem nlt_of_le {p q : Pt} (h : Le p q) : ¬ Lt q p := by unfold Lt; unfold Le at h; omega
theorem Lt.of_lt_le {p q r : Pt} (h : Lt p q) (h2 : Le q r) : Lt p r := by unfold Lt Le at *; omega
theorem Lt.of_le_lt {p q r : Pt} (h : Le p q) (h2 : Lt q r) : Lt p r := by unfold Lt Le at *; omega
/-! ### the cross product -/
theorem cross_cyc (p q r : Pt) : cross q r p = cross p q r := by unfold cross; grind
theorem cross_swap (p q r : Pt) : cross q p r = - cross p q r := by unfold cross; grind
theorem cross_self1 (p r : Pt) : cross p p r = 0 := by unfold cross; grind
theorem cross_self2 (p r : Pt) : cross p r r = 0 := by unfold cross; grind
theorem cross_self3 (p r : Pt) : cross p r p = 0 := by unfold cross; grind
/-- by the vectors p to q and q to r -/
theorem cross_vec (p q r : Pt) : cross p q r = (q.2 - p.2) * (r.1 - q.1) - (q.1 - p.1) * (r.2 - q.2) := by unfold cross; grind
/-- four points a < b, the edge (a, b); q behind a, p behind b -/
theorem pop_left {a b p q : Pt} (h1 : Lt a b) (h2 : Lt a p) (h3 : Lt a q) (h4 : cross a b p ≤ 0) (h5 : 0 ≤ cross a b q) : 0 ≤ cross a p q := by
  unfold cross at *
  refine tr_ge h2.lp h1.lp h3.lp ?_ ?_ 
  · have e : (p.2 - a.2) * (b.1 - a.1) - (p.1 - a.1) * (b.2 - a.2) = -((b.2 - a.2) * (p.1 - a.1) - (b.1 - a.1) * (p.2 - a.2)) := by grind
    omega
  · exact h5
theorem stop_left {s a p q : Pt} (h1 : Lt s a) (h2 : Lt a p) (h3 : Lt q a) (h4 : 0 < cross s a p) (h5 : 0 ≤ cross s a q) : 0 < cross a p q := by
  have e : cross a p q = (a.2 - q.2) * (p.1 - a.1) - (a.1 - q.1) * (p.2 - a.2) := by unfold cross; grind
  rw [e]
  refine tr_gt2 h3.lp h1.lp h2.lp ?_ ?_
  · have e : (a.2 - q.2) * (a.1 - s.1) - (a.1 - q.1) * (a.2 - s.2) = cross s a q := by unfold cross; grind
    omega
  · rw [← cross_vec]
    exact h4
theorem deep_left {c d e p : Pt} (h1 : Lt c d) (h2 : Lt d e) (h3 : Lt d p) (h4 : 0 < cross c d e) (h5 : 0 < cross d e p) : 0 < cross c d p := by
  rw [cross_vec] at h4 ⊢
  unfold cross at h5
  exact tr_gt1 h1.lp h2.lp h3.lp h4 (Int.le_of_lt h5)
end K81
set_option maxHeartbeats 0
namespace K81
/-! ### what the chain keeps -/
def Ed (c d q : Pt) : Prop := 0 ≤ cross c d q ∧ (cross c d q = 0 → Le c q ∧ Le q d)
def Cvx : List Pt → Prop
  | p :: b :: a :: r => 0 < cross a b p ∧ Cvx (b :: a :: r)
  | _ => True
def Lft (Q : List Pt) : List Pt → Prop
  | d :: c :: r => (∀ q ∈ Q, Ed c d q) ∧ Lft Q (c :: r)
  | _ => True
def Dec (l : List Pt) : Prop := l.Pairwise fun a b => Lt b a
structure LInv (st Q : List Pt) : Prop where
  sub : ∀ x ∈ st, x ∈ Q
  srt : Dec st
  top : ∃ t r, st = t :: r ∧ ∀ q ∈ Q, Le q t
  bot : ∃ b, st.getLast? = some b ∧ ∀ q ∈ Q, Le b q
  cvx : Cvx st
  lft : Lft Q st
theorem Cvx.tail {p : Pt} {r : List Pt} (h : Cvx (p :: r)) : Cvx r := by
  match r, h with
  | [], _ => exact True.intro
  | [_], _ => exact True.intro
  | _ :: _ :: _, h => exact h.2
theorem Lft.tail {Q : List Pt} {p : Pt} {r : List Pt} (h : Lft Q (p :: r)) : Lft Q r := by
  match r, h with
  | [], _ => exact True.intro
  | _ :: _, h => exact h.2
theorem Dec.tail {p : Pt} {r : List Pt} (h : Dec (p :: r)) : Dec r := (List.pairwise_cons.mp h).2
theorem Dec.two {b a : Pt} {r : List Pt} (h : Dec (b :: a :: r)) : Lt a b := (List.pairwise_cons.mp h).1 a (.head _)
/-- what is left when the pops stop -/
theorem pops_inv {Q : List Pt} {p : Pt} (hp : ∀ q ∈ Q, Lt q p) : ∀ {st : List Pt} {t : Pt}, (∀ x ∈ t :: st, x ∈ Q) → Dec (t :: st) → Cvx (t :: st) → Lft Q (t :: st) → (∀ q ∈ Q, Lt t q → 0 ≤ cross t p q) →
    ∃ a r, pops (t :: st) p = a :: r ∧ (∀ x ∈ a :: r, x ∈ Q) ∧ Dec (a :: r) ∧ Cvx (a :: r) ∧ Lft Q (a :: r) ∧ (∀ q ∈ Q, Lt a q → 0 ≤ cross a p q) ∧ (∀ s r', r = s :: r' → 0 < cross s a p) ∧ (a :: r).getLast? = (t :: st).getLast?
  | [], t, hs, hd, hc, hl, hg => ⟨t, [], rfl, hs, hd, hc, hl, hg, (fun _ _ e => nomatch e), rfl⟩
  | a :: r, b, hs, hd, hc, hl, hg => by
    by_cases h : cross a b p ≤ 0
    · rw [pops_go h]
      have ab := hd.two
      have ha : a ∈ Q := hs a (.tail _ (.head _))
      obtain ⟨a', r', e1, e2, e3, e4, e5, e6, e7, e8⟩ := pops_inv hp (st := r) (t := a) (fun x hx => hs x (.tail _ hx)) hd.tail hc.tail hl.tail (fun q hq hlt => pop_left ab (hp a ha) hlt h (hl.1 q hq).1)
      exact ⟨a', r', e1, e2, e3, e4, e5, e6, e7, by rw [e8, List.getLast?_cons_cons]⟩
    · rw [pops_stop h]
      refine ⟨b, a :: r, rfl, hs, hd, hc, hl, hg, fun s r' e => ?_, rfl⟩
      cases e
      omega
/-- the new point stands on the left of every edge that is left -/
theorem ext_left {p : Pt} : ∀ {r : List Pt} {d c : Pt}, Dec (d :: c :: r) → Cvx (d :: c :: r) → Lt d p → 0 < cross c d p → ∀ Q, Lft Q (d :: c :: r) → Lft (p :: Q) (d :: c :: r)
  | [], d, c, hd, hc, hp, h, Q, hl => by
    refine ⟨fun q hq => ?_, True.intro⟩
    rcases List.mem_cons.mp hq with rfl | hq
    · exact ⟨Int.le_of_lt h, fun z => by omega⟩
    · exact hl.1 q hq
  | b :: r, d, c, hd, hc, hp, h, Q, hl => by
    refine ⟨fun q hq => ?_, ?_⟩
    · rcases List.mem_cons.mp hq with rfl | hq
      · exact ⟨Int.le_of_lt h, fun z => by omega⟩
      · exact hl.1 q hq
    · have cd := hd.two
      have bc := hd.tail.two
      exact ext_left hd.tail hc.tail (cd.trans hp) (deep_left bc cd (cd.trans hp) hc.1 h) Q hl.tail
theorem LInv.step {st Q : List Pt} {p : Pt} (I : LInv st Q) (hp : ∀ q ∈ Q, Lt q p) : LInv (p :: pops st p) (p :: Q) := by
  obtain ⟨t, r0, e0, ht⟩ := I.top
  obtain ⟨b, eb, hb⟩ := I.bot
  have hsub := I.sub
  have hsrt := I.srt
  have hcvx := I.cvx
  have hlft := I.lft
  subst e0
  obtain ⟨a, r, e1, e2, e3, e4, e5, e6, e7, e8⟩ := pops_inv hp hsub hsrt hcvx hlft (fun q hq hlt => absurd hlt (nlt_of_le (ht q hq)))
  rw [e1]
  have ha : a ∈ Q := e2 a (.head _)
  have hap : Lt a p := hp a ha
  refine ⟨fun x hx => ?_, List.pairwise_cons.mpr ⟨fun x hx => hp x (e2 x hx), e3⟩, ⟨p, _, rfl, fun q hq => ?_⟩, ⟨b, ?_, fun q hq => ?_⟩, ?_, ?_⟩
  · rcases List.mem_cons.mp hx with rfl | hx
    · exact .head _
    · exact .tail _ (e2 x hx)
  · rcases List.mem_cons.mp hq with rfl | hq
    · exact Le.refl _
    · exact (hp q hq).le
  · rw [List.getLast?_cons_cons, e8, eb]
  · rcases List.mem_cons.mp hq with rfl | hq
    · exact (Lt.of_le_lt (hb a ha) hap).le
    · exact hb q hq
  · cases r with
    | nil => exact True.intro
    | cons s r' => exact ⟨e7 s r' rfl, e4⟩
  · refine ⟨fun q hq => ?_, ?_⟩
    · rcases List.mem_cons.mp hq with rfl | hq
      · exact ⟨by rw [cross_self2]; exact Int.le_refl _, fun _ => ⟨hap.le, Le.refl _⟩⟩
      · rcases tri a q with h | h | h
        · exact ⟨e6 q hq h, fun _ => ⟨h.le, (hp q hq).le⟩⟩
        · subst h
          exact ⟨by rw [cross_self3]; exact Int.le_refl _, fun _ => ⟨Le.refl _, hap.le⟩⟩
        · cases r with
          | nil =>
            have e : a = b := by
              have e8' : some a = (t :: r0).getLast? := e8
              rw [eb] at e8'
              exact Option.some.inj e8'
            subst e
            exact absurd h (nlt_of_le (hb q hq))
          | cons s r' =>
            have hs : Lt s a := e3.two
            have g := stop_left hs hap h (e7 s r' rfl) (e5.1 q hq).1
            exact ⟨Int.le_of_lt g, fun z => by omega⟩
    · cases r with
      | nil => exact True.intro
      | cons s r' => exact ext_left e3 e4 hap (e7 s r' rfl) Q e5
theorem Lft.congr {Q Q' : List Pt} (h : ∀ x, x ∈ Q' → x ∈ Q) : ∀ {l : List Pt}, Lft Q l → Lft Q' l
  | [], _ => True.intro
  | [_], _ => True.intro
  | _ :: _ :: _, hl => ⟨fun q hq => hl.1 q (h q hq), Lft.congr h hl.2⟩
theorem LInv.congr {st Q Q' : List Pt} (I : LInv st Q) (h : ∀ x, x ∈ Q' ↔ x ∈ Q) : LInv st Q' := by
  obtain ⟨t, r, e, ht⟩ := I.top
  obtain ⟨b, e', hb⟩ := I.bot
  exact ⟨fun x hx => (h x).mpr (I.sub x hx), I.srt, ⟨t, r, e, fun q hq => ht q ((h q).mp hq)⟩, ⟨b, e', fun q hq => hb q ((h q).mp hq)⟩, I.cvx, I.lft.congr fun x => (h x).mp⟩
def Asc (l : List Pt) : Prop := l.Pairwise Lt
theorem fold_inv : ∀ {ps st Q : List Pt}, LInv st Q → Asc ps → (∀ q ∈ Q, ∀ p ∈ ps, Lt q p) → LInv (ps.foldl (fun st p => p :: pops st p) st) (Q ++ ps)
  | [], st, Q, I, _, _ => by
    rw [List.append_nil]
    exact I
  | p :: ps, st, Q, I, ha, hq => by
    have hp := List.pairwise_cons.mp ha
    have I2 := I.step (fun q h => hq q h p (.head _))
    have I3 := fold_inv (ps := ps) I2 hp.2 (fun q h x hx => by
      rcases List.mem_cons.mp h with rfl | h
      · exact hp.1 x hx
      · exact hq q h x (.tail _ hx))
    refine I3.congr fun x => ?_
    simp only [List.mem_append, List.mem_cons]
    constructor
    · rintro (h | h | h)
      · exact .inl (.inr h)
      · exact .inl (.inl h)
      · exact .inr h
    · rintro ((h | h) | h)
      · exact .inr (.inl h)
      · exact .inl h
      · exact .inr (.inr h)
theorem chainR_inv {ps : List Pt} (hne : ps ≠ []) (ha : Asc ps) : LInv (chainR ps) ps := by
  cases ps with
  | nil => exact absurd rfl hne
  | cons p ps =>
    have hp := List.pairwise_cons.mp ha
    have I : LInv [p] [p] := ⟨fun x h => h, List.pairwise_singleton _ _, ⟨p, [], rfl, fun q h => by rw [List.mem_singleton.mp h]; exact Le.refl _⟩, ⟨p, rfl, fun q h => by rw [List.mem_singleton.mp h]; exact Le.refl _⟩, True.intro, True.intro⟩
    have I2 := fold_inv (ps := ps) I hp.2 (fun q h x hx => by rw [List.mem_singleton.mp h]; exact hp.1 x hx)
    exact I2
/-! ### neighbours in a list -/
def Nb (l : List Pt) (a b : Pt) : Prop := ∃ i, l[i]? = some a ∧ l[i + 1]? = some b
theorem Lft.nb {Q : List Pt} : ∀ {l : List Pt} {i : Nat} {d c : Pt}, Lft Q l → l[i]? = some d → l[i + 1]? = some c → ∀ q ∈ Q, Ed c d q
  | [], _, _, _, _, h, _ => by simp at h
  | [_], i, _, _, _, _, h => by simp at h
  | x :: y :: r, 0, d, c, hl, h1, h2 => by
    simp at h1 h2
    subst h1 h2
    exact hl.1
  | x :: y :: r, i + 1, d, c, hl, h1, h2 => Lft.nb (l := y :: r) (i := i) hl.2 (by simpa using h1) (by simpa using h2)
theorem Cvx.nb : ∀ {l : List Pt} {i : Nat} {e d c : Pt}, Cvx l → l[i]? = some e → l[i + 1]? = some d → l[i + 2]? = some c → 0 < cross c d e
  | [], _, _, _, _, _, h, _, _ => by simp at h
  | [_], i, _, _, _, _, _, h, _ => by simp at h
  | [_, _], i, _, _, _, _, _, _, h => by simp at h
  | x :: y :: z :: r, 0, e, d, c, hl, h1, h2, h3 => by
    simp at h1 h2 h3
    subst h1 h2 h3
    exact hl.1
  | x :: y :: z :: r, i + 1, e, d, c, hl, h1, h2, h3 => Cvx.nb (l := y :: z :: r) (i := i) hl.2 (by simpa using h1) (by simpa using h2) (by simpa using h3)
/-- the lower chain -/
structure Low (C Q : List Pt) : Prop where
  sub : ∀ x ∈ C, x ∈ Q
  asc : Asc C
  fst : ∃ b, C[0]? = some b ∧ ∀ q ∈ Q, Le b q
  lst : ∃ t, C.getLast? = some t ∧ ∀ q ∈ Q, Le q t
  edg : ∀ a b, Nb C a b → ∀ q ∈ Q, Ed a b q
  cvx : ∀ i a b c, C[i]? = some a → C[i + 1]? = some b → C[i + 2]? = some c → 0 < cross a b c
theorem low_chain {ps : List Pt} (hne : ps ≠ []) (ha : Asc ps) : Low (chain ps) ps := by
  have I := chainR_inv hne ha
  obtain ⟨t, r, e, ht⟩ := I.top
  obtain ⟨b, e', hb⟩ := I.bot
  unfold chain
  refine ⟨fun x hx => I.sub x (List.mem_reverse.mp hx), List.pairwise_reverse.mpr I.srt, ⟨b, ?_, hb⟩, ⟨t, ?_, ht⟩, ?_, ?_⟩
  · rw [← List.head?_eq_getElem?, List.head?_reverse]
    exact e'
  · rw [List.getLast?_reverse, e]
    rfl
  · rintro x y ⟨i, h1, h2⟩
    have l1 := (List.getElem?_eq_some_iff.mp h1).1
    have l2 := (List.getElem?_eq_some_iff.mp h2).1
    rw [List.length_reverse] at l1 l2
    rw [List.getElem?_reverse l1] at h1
    rw [List.getElem?_reverse l2] at h2
    refine I.lft.nb (i := (chainR ps).length - 1 - (i + 1)) h2 ?_
    rw [show (chainR ps).length - 1 - (i + 1) + 1 = (chainR ps).length - 1 - i by omega]
    exact h1
  · intro i x y z h1 h2 h3
    have l1 := (List.getElem?_eq_some_iff.mp h1).1
    have l2 := (List.getElem?_eq_some_iff.mp h2).1
    have l3 := (List.getElem?_eq_some_iff.mp h3).1
    rw [List.length_reverse] at l1 l2 l3
    rw [List.getElem?_reverse l1] at h1
    rw [List.getElem?_reverse l2] at h2
    rw [List.getElem?_reverse l3] at h3
    refine I.cvx.nb (i := (chainR ps).length - 1 - (i + 2)) h3 ?_ ?_
    · rw [show (chainR ps).length - 1 - (i + 2) + 1 = (chainR ps).length - 1 - (i + 1) by omega]
      exact h2
    · rw [show (chainR ps).length - 1 - (i + 2) + 2 = (chainR ps).length - 1 - i by omega]
      exact h1
/-! ### the half turn -/
def ng (p : Pt) : Pt := (-p.1, -p.2)
theorem ng_ng (p : Pt) : ng (ng p) = p := by
  unfold ng
  exact Prod.ext (by show - -p.1 = p.1; omega) (by show - -p.2 = p.2; omega)
theorem cross_ng (a b c : Pt) : cross (ng a) (ng b) (ng c) = cross a b c := by
  unfold cross ng
  dsimp only
  grind
theorem lt_ng {a b : Pt} : Lt (ng a) (ng b) ↔ Lt b a := by
  unfold Lt ng
  dsimp only
  omega
theorem le_ng {a b : Pt} : Le (ng a) (ng b) ↔ Le b a := by
  unfold Le ng
  dsimp only
  omega
theorem pops_ng (p : Pt) : ∀ st : List Pt, pops (st.map ng) (ng p) = (pops st p).map ng
  | [] => rfl
  | [_] => rfl
  | b :: a :: r => by
    have ih := pops_ng p (a :: r)
    by_cases h : cross a b p ≤ 0
    · rw [pops_go h, ← ih]
      show pops (ng b :: ng a :: r.map ng) (ng p) = _
      rw [pops_go (by rw [cross_ng]; exact h)]
      rfl
    · rw [pops_stop h]
      show pops (ng b :: ng a :: r.map ng) (ng p) = _
      rw [pops_stop (by rw [cross_ng]; exact h)]
      rfl
theorem chain_ng (ps : List Pt) : chain (ps.map ng) = (chain ps).map ng := by
  have go : ∀ (l st : List Pt), (l.map ng).foldl (fun st p => p :: pops st p) (st.map ng) = (l.foldl (fun st p => p :: pops st p) st).map ng := by
    intro l
    induction l with
    | nil => exact fun st => rfl
    | cons p l ih =>
      intro st
      have := ih (p :: pops st p)
      rw [List.map_cons, ← pops_ng] at this
      exact this
  unfold chain chainR
  rw [List.map_reverse]
  exact congrArg List.reverse (go ps [])
/-- the upper chain: points from right to left -/
structure Upp (C Q : List Pt) : Prop where
  sub : ∀ x ∈ C, x ∈ Q
  dec : Dec C
  fst : ∃ t, C[0]? = some t ∧ ∀ q ∈ Q, Le q t
  lst : ∃ b, C.getLast? = some b ∧ ∀ q ∈ Q, Le b q
  edg : ∀ a b, Nb C a b → ∀ q ∈ Q, 0 ≤ cross a b q ∧ (cross a b q = 0 → Le b q ∧ Le q a)
  cvx : ∀ i a b c, C[i]? = some a → C[i + 1]? = some b → C[i + 2]? = some c → 0 < cross a b c
theorem upp_chain {ps : List Pt} (hne : ps ≠ []) (ha : Asc ps) : Upp (chain ps.reverse) ps := by
  have hneg : (ps.reverse.map ng) ≠ [] := by
    intro z
    exact hne (List.reverse_eq_nil_iff.mp (List.map_eq_nil_iff.mp z))
  have hasc : Asc (ps.reverse.map ng) := by
    unfold Asc
    rw [List.pairwise_map, List.pairwise_reverse]
    exact ha.imp fun h => lt_ng.mpr h
  have L := low_chain hneg hasc
  rw [chain_ng] at L
  have mem : ∀ q, q ∈ ps → ng q ∈ ps.reverse.map ng := fun q hq => List.mem_map.mpr ⟨q, List.mem_reverse.mpr hq, rfl⟩
  have at_ : ∀ {i : Nat} {a : Pt}, (chain ps.reverse)[i]? = some a → ((chain ps.reverse).map ng)[i]? = some (ng a) := fun h => by rw [List.getElem?_map, h]; rfl
  refine ⟨fun x hx => ?_, ?_, ?_, ?_, ?_, ?_⟩
  · exact List.mem_reverse.mp (chain_mem hx)
  · have := L.asc
    unfold Asc at this
    rw [List.pairwise_map] at this
    exact this.imp fun h => lt_ng.mp h
  · obtain ⟨b, h1, h2⟩ := L.fst
    rw [List.getElem?_map] at h1
    obtain ⟨t, h3, rfl⟩ := Option.map_eq_some_iff.mp h1
    exact ⟨t, h3, fun q hq => le_ng.mp (h2 _ (mem q hq))⟩
  · obtain ⟨b, h1, h2⟩ := L.lst
    rw [List.getLast?_map] at h1
    obtain ⟨t, h3, rfl⟩ := Option.map_eq_some_iff.mp h1
    exact ⟨t, h3, fun q hq => le_ng.mp (h2 _ (mem q hq))⟩
  · rintro a b ⟨i, h1, h2⟩ q hq
    have := L.edg (ng a) (ng b) ⟨i, at_ h1, at_ h2⟩ (ng q) (mem q hq)
    unfold Ed at this
    rw [cross_ng, le_ng, le_ng] at this
    exact ⟨this.1, fun z => ⟨(this.2 z).2, (this.2 z).1⟩⟩
  · intro i a b c h1 h2 h3
    have := L.cvx i _ _ _ (at_ h1) (at_ h2) (at_ h3)
    rw [cross_ng] at this
    exact this
end K81
set_option maxHeartbeats 0
namespace K81
open Dt
/-! ### the hull as a polygon -/
theorem asc_ordd (ps : List Pt) : Asc (ordd ps) := by
  unfold Asc ordd
  rw [List.pairwise_map]
  exact (usrt_sorted _).imp fun h => h
theorem ordd_ne {ps : List Pt} (h : ps ≠ []) : ordd ps ≠ [] := by
  cases ps with
  | nil => exact absurd rfl h
  | cons p r => exact List.ne_nil_of_mem (mem_ordd.mpr (List.mem_cons_self (a := p)))
theorem ordd_congr {ps qs : List Pt} (h : ∀ x, x ∈ ps ↔ x ∈ qs) : ordd ps = ordd qs := by
  unfold ordd
  congr 1
  refine sorted_uniq (usrt_sorted _) (usrt_sorted _) fun x => ?_
  rw [mem_usrt, mem_usrt, List.mem_map, List.mem_map]
  constructor
  · rintro ⟨y, hy, e⟩
    exact ⟨y, (h y).mp hy, e⟩
  · rintro ⟨y, hy, e⟩
    exact ⟨y, (h y).mpr hy, e⟩
theorem hull_congr {ps qs : List Pt} (h : ∀ x, x ∈ ps ↔ x ∈ qs) : hullL ps = hullL qs := by
  unfold hullL
  rw [ordd_congr h]
def Btw (a b q : Pt) : Prop := (Le a q ∧ Le q b) ∨ (Le b q ∧ Le q a)
structure Poly (h Q : List Pt) : Prop where
  sub : ∀ x ∈ h, x ∈ Q
  nd : h.Nodup
  edge : ∀ i, i < h.length → ∀ q ∈ Q, 0 ≤ cross (nth h i) (nth h ((i + 1) % h.length)) q ∧ (cross (nth h i) (nth h ((i + 1) % h.length)) q = 0 → Btw (nth h i) (nth h ((i + 1) % h.length)) q)
  fst : 0 < h.length → ∀ q ∈ Q, Le (nth h 0) q
theorem nth_of {l : List Pt} {i : Nat} {a : Pt} (h : l[i]? = some a) : nth l i = a := by
  unfold nth
  rw [List.getD_eq_getElem?_getD, h]
  rfl
theorem last_at {l : List Pt} {a : Pt} (h : l.getLast? = some a) : l[l.length - 1]? = some a := by
  rw [← List.getLast?_eq_getElem?]
  exact h
theorem asc_lt {l : List Pt} (h : Asc l) {i j : Nat} {a b : Pt} (ha : l[i]? = some a) (hb : l[j]? = some b) (hij : i < j) : Lt a b := by
  have l2 := (List.getElem?_eq_some_iff.mp hb)
  have l1 := (List.getElem?_eq_some_iff.mp ha)
  obtain ⟨q1, e1⟩ := l1
  obtain ⟨q2, e2⟩ := l2
  have := List.pairwise_iff_getElem.mp h i j q1 q2 hij
  rw [e1, e2] at this
  exact this
theorem dec_lt {l : List Pt} (h : Dec l) {i j : Nat} {a b : Pt} (ha : l[i]? = some a) (hb : l[j]? = some b) (hij : i < j) : Lt b a := by
  obtain ⟨q1, e1⟩ := (List.getElem?_eq_some_iff.mp ha)
  obtain ⟨q2, e2⟩ := (List.getElem?_eq_some_iff.mp hb)
  have := List.pairwise_iff_getElem.mp h i j q1 q2 hij
  rw [e1, e2] at this
  exact this
/-- the two chains and their ends -/
structure Two (L U Q : List Pt) (b t : Pt) : Prop where
  low : Low L Q
  upp : Upp U Q
  l0 : L[0]? = some b
  l1 : L[L.length - 1]? = some t
  u0 : U[0]? = some t
  u1 : U[U.length - 1]? = some b
  mn : ∀ q ∈ Q, Le b q
  mx : ∀ q ∈ Q, Le q t
theorem two_mk {L U Q : List Pt} (l : Low L Q) (u : Upp U Q) : ∃ b t, Two L U Q b t := by
  obtain ⟨b, h1, h2⟩ := l.fst
  obtain ⟨t, h3, h4⟩ := l.lst
  obtain ⟨t', k1, k2⟩ := u.fst
  obtain ⟨b', k3, k4⟩ := u.lst
  have mt := l.sub t (List.mem_of_getLast? h3)
  have mt' := u.sub t' (List.mem_of_getElem? k1)
  have mb := l.sub b (List.mem_of_getElem? h1)
  have mb' := u.sub b' (List.mem_of_getLast? k3)
  have et : t' = t := (h4 t' mt').anti (k2 t mt)
  have eb : b' = b := (k4 b mb).anti (h2 b' mb')
  subst et eb
  exact ⟨_, _, l, u, h1, last_at h3, k1, last_at k3, h2, h4⟩
section
variable {L U Q : List Pt} {b t : Pt}
theorem Two.len (T : Two L U Q b t) : 0 < L.length ∧ 0 < U.length := ⟨(List.getElem?_eq_some_iff.mp T.l0).1, (List.getElem?_eq_some_iff.mp T.u0).1⟩
theorem Two.bt (T : Two L U Q b t) (h : b ≠ t) : 2 ≤ L.length ∧ 2 ≤ U.length := by
  obtain ⟨h1, h2⟩ := T.len
  constructor
  · rcases Nat.lt_or_ge 1 L.length with q | q
    · exact q
    · have e : L.length - 1 = 0 := by omega
      have := T.l1
      rw [e, T.l0] at this
      exact absurd (Option.some.inj this) h
  · rcases Nat.lt_or_ge 1 U.length with q | q
    · exact q
    · have e : U.length - 1 = 0 := by omega
      have := T.u1
      rw [e, T.u0] at this
      exact absurd (Option.some.inj this).symm h
theorem Two.one (T : Two L U Q b t) (h : b = t) : L.length = 1 ∧ U.length = 1 := by
  obtain ⟨h1, h2⟩ := T.len
  subst h
  constructor
  · rcases Nat.lt_or_ge 1 L.length with q | q
    · exact absurd rfl (asc_lt T.low.asc T.l0 T.l1 (by omega)).ne
    · omega
  · rcases Nat.lt_or_ge 1 U.length with q | q
    · exact absurd rfl (dec_lt T.upp.dec T.u0 T.u1 (by omega)).ne
    · omega
def joinH (L U : List Pt) : List Pt := L.dropLast ++ U.dropLast
theorem join_len (L U : List Pt) : (joinH L U).length = (L.length - 1) + (U.length - 1) := by
  unfold joinH
  rw [List.length_append, List.length_dropLast, List.length_dropLast]
theorem join_l {i : Nat} (h : i < L.length - 1) : (joinH L U)[i]? = L[i]? := by
  unfold joinH
  rw [List.getElem?_append_left (by rw [List.length_dropLast]; exact h), List.getElem?_dropLast, if_pos h]
theorem join_u {i : Nat} (h : i < U.length - 1) : (joinH L U)[L.length - 1 + i]? = U[i]? := by
  unfold joinH
  rw [List.getElem?_append_right (by rw [List.length_dropLast]; omega), List.length_dropLast, List.getElem?_dropLast]
  rw [show L.length - 1 + i - (L.length - 1) = i by omega, if_pos h]
/-- each side of the hull is a step of one of the chains -/
theorem Two.side (T : Two L U Q b t) {i : Nat} (hi : i < (joinH L U).length) : Nb L (nth (joinH L U) i) (nth (joinH L U) ((i + 1) % (joinH L U).length)) ∨ Nb U (nth (joinH L U) i) (nth (joinH L U) ((i + 1) % (joinH L U).length)) := by
  have hbt : b ≠ t := by
    intro e
    obtain ⟨h1, h2⟩ := T.one e
    rw [join_len, h1, h2] at hi
    omega
  obtain ⟨k1, k2⟩ := T.bt hbt
  have hn := join_len L U
  generalize hN : (joinH L U).length = n at *
  rcases Nat.lt_or_ge i (L.length - 1) with h | h
  · left
    have e1 : (joinH L U)[i]? = L[i]? := join_l h
    have e2 : (joinH L U)[(i + 1) % n]? = L[i + 1]? := by
      rw [Nat.mod_eq_of_lt (by omega)]
      rcases Nat.lt_or_ge (i + 1) (L.length - 1) with h' | h'
      · exact join_l h'
      · have e : i + 1 = L.length - 1 + 0 := by omega
        rw [e, join_u (by omega), T.u0, Nat.add_zero, T.l1]
    have hl1 : i < L.length := by omega
    have hl2 : i + 1 < L.length := by omega
    refine ⟨i, ?_, ?_⟩
    · rw [nth_of (e1.trans (nth_at hl1))]
      exact nth_at hl1
    · rw [nth_of (e2.trans (nth_at hl2))]
      exact nth_at hl2
  · right
    obtain ⟨j, rfl⟩ : ∃ j, i = L.length - 1 + j := ⟨i - (L.length - 1), by omega⟩
    have hj : j < U.length - 1 := by omega
    have e1 : (joinH L U)[L.length - 1 + j]? = U[j]? := join_u hj
    have e2 : (joinH L U)[(L.length - 1 + j + 1) % n]? = U[j + 1]? := by
      rcases Nat.lt_or_ge (j + 1) (U.length - 1) with h' | h'
      · rw [Nat.mod_eq_of_lt (by omega)]
        exact join_u h'
      · have e : L.length - 1 + j + 1 = n := by omega
        rw [e, Nat.mod_self, join_l (by omega), T.l0]
        have e' : j + 1 = U.length - 1 := by omega
        rw [e', T.u1]
    have hl1 : j < U.length := by omega
    have hl2 : j + 1 < U.length := by omega
    refine ⟨j, ?_, ?_⟩
    · rw [nth_of (e1.trans (nth_at hl1))]
      exact nth_at hl1
    · rw [nth_of (e2.trans (nth_at hl2))]
      exact nth_at hl2
theorem Two.apart (T : Two L U Q b t) {i j : Nat} {p : Pt} (hi : i < L.length - 1) (hj : j < U.length - 1) (h1 : L[i]? = some p) (h2 : U[j]? = some p) : False := by
  have pt_ : Lt p t := asc_lt T.low.asc h1 T.l1 (by omega)
  have bp : Lt b p := dec_lt T.upp.dec h2 T.u1 (by omega)
  have i0 : i ≠ 0 := by
    rintro rfl
    rw [T.l0] at h1
    exact bp.ne (Option.some.inj h1)
  have j0 : j ≠ 0 := by
    rintro rfl
    rw [T.u0] at h2
    exact pt_.ne (Option.some.inj h2).symm
  have g1 : L[i - 1]? = some (nth L (i - 1)) := nth_at (by omega)
  have g2 : L[i + 1]? = some (nth L (i + 1)) := nth_at (by omega)
  have g3 : U[j - 1]? = some (nth U (j - 1)) := nth_at (by omega)
  generalize nth L (i - 1) = c at *
  generalize nth L (i + 1) = d at *
  generalize nth U (j - 1) = a at *
  have cp : Lt c p := asc_lt T.low.asc g1 h1 (by omega)
  have pd : Lt p d := asc_lt T.low.asc h1 g2 (by omega)
  have pa : Lt p a := dec_lt T.upp.dec g3 h2 (by omega)
  have cv := T.low.cvx (i - 1) c p d g1 (by rw [show i - 1 + 1 = i by omega]; exact h1) (by rw [show i - 1 + 2 = i + 1 by omega]; exact g2)
  have nb : Nb U a p := ⟨j - 1, g3, by rw [show j - 1 + 1 = j by omega]; exact h2⟩
  have e1 := (T.upp.edg a p nb d (T.low.sub d (List.mem_of_getElem? g2))).1
  have e2 := (T.upp.edg a p nb c (T.low.sub c (List.mem_of_getElem? g1))).1
  have r := tr_ge pd.lp pa.lp cp.lp (by
    have e : (d.2 - p.2) * (a.1 - p.1) - (d.1 - p.1) * (a.2 - p.2) = cross a p d := by unfold cross; grind
    omega) (by
    have e : (a.2 - p.2) * (p.1 - c.1) - (a.1 - p.1) * (p.2 - c.2) = cross a p c := by unfold cross; grind
    omega)
  have e : (d.2 - p.2) * (p.1 - c.1) - (d.1 - p.1) * (p.2 - c.2) = - cross c p d := by unfold cross; grind
  omega
theorem Two.poly (T : Two L U Q b t) : Poly (joinH L U) Q := by
  refine ⟨fun x hx => ?_, ?_, fun i hi q hq => ?_, fun h q hq => ?_⟩
  · rcases List.mem_append.mp hx with h | h
    · exact T.low.sub x (List.dropLast_subset _ h)
    · exact T.upp.sub x (List.dropLast_subset _ h)
  · unfold joinH
    rw [List.nodup_append]
    refine ⟨?_, ?_, fun x hx y hy e => ?_⟩
    · exact ((T.low.asc.imp fun h => h.ne).sublist (List.dropLast_sublist _))
    · exact ((T.upp.dec.imp fun h => h.ne.symm).sublist (List.dropLast_sublist _))
    · subst e
      obtain ⟨i, hi, e1⟩ := List.mem_iff_getElem.mp hx
      obtain ⟨j, hj, e2⟩ := List.mem_iff_getElem.mp hy
      rw [List.length_dropLast] at hi hj
      refine T.apart hi hj (p := x) ?_ ?_
      · rw [List.getElem_dropLast] at e1
        rw [← e1]
        exact List.getElem?_eq_getElem (by omega)
      · rw [List.getElem_dropLast] at e2
        rw [← e2]
        exact List.getElem?_eq_getElem (by omega)
  · rcases T.side hi with h | h
    · have g := T.low.edg _ _ h q hq
      exact ⟨g.1, fun z => .inl (g.2 z)⟩
    · have g := T.upp.edg _ _ h q hq
      exact ⟨g.1, fun z => .inr (g.2 z)⟩
  · have hbt : b ≠ t := by
      intro e
      obtain ⟨h1, h2⟩ := T.one e
      rw [join_len, h1, h2] at h
      omega
    have := (T.bt hbt).1
    rw [nth_of ((join_l (by omega)).trans T.l0)]
    exact T.mn q hq
end
theorem hull_two {ps : List Pt} (h : ps ≠ []) : ∃ b t, Two (chain (ordd ps)) (chain (ordd ps).reverse) (ordd ps) b t := two_mk (low_chain (ordd_ne h) (asc_ordd ps)) (upp_chain (ordd_ne h) (asc_ordd ps))
theorem Poly.congr {h Q Q' : List Pt} (P : Poly h Q) (e : ∀ x, x ∈ Q' ↔ x ∈ Q) : Poly h Q' :=
  ⟨fun x hx => (e x).mpr (P.sub x hx), P.nd, fun i hi q hq => P.edge i hi q ((e q).mp hq), fun h0 q hq => P.fst h0 q ((e q).mp hq)⟩
theorem poly_hull {ps : List Pt} (h : ps ≠ []) : Poly (hullL ps) ps := by
  obtain ⟨b, t, T⟩ := hull_two h
  exact T.poly.congr fun x => mem_ordd.symm
/-! ### a polygon's corners turn to the left -/
theorem btw_zero {a b p q : Pt} (h1 : Lt a p) (h2 : Lt p b) (h0 : cross a b p = 0) (ha : 0 ≤ cross p q a) (hb : 0 ≤ cross p q b) : cross p q a = 0 ∧ cross p q b = 0 := by
  have i1 : (b.2 - p.2) * cross p q a + (p.2 - a.2) * cross p q b = -(q.2 - p.2) * cross a b p := by unfold cross; grind
  have i2 : (b.1 - p.1) * cross p q a + (p.1 - a.1) * cross p q b = -(q.1 - p.1) * cross a b p := by unfold cross; grind
  rw [h0, Int.mul_zero] at i1 i2
  unfold Lt at h1 h2
  by_cases c1 : a.2 < p.2 ∧ p.2 < b.2
  · have m1 := Int.mul_nonneg (show 0 ≤ b.2 - p.2 by omega) ha
    have m2 := Int.mul_nonneg (show 0 ≤ p.2 - a.2 by omega) hb
    exact ⟨nz_of_mul (show 0 < b.2 - p.2 by omega) (by omega), nz_of_mul (show 0 < p.2 - a.2 by omega) (by omega)⟩
  by_cases c2 : a.2 = p.2 ∧ p.2 = b.2
  · have m1 := Int.mul_nonneg (show 0 ≤ b.1 - p.1 by omega) ha
    have m2 := Int.mul_nonneg (show 0 ≤ p.1 - a.1 by omega) hb
    exact ⟨nz_of_mul (show 0 < b.1 - p.1 by omega) (by omega), nz_of_mul (show 0 < p.1 - a.1 by omega) (by omega)⟩
  exfalso
  by_cases c3 : a.2 = p.2
  · have e : cross a b p = (b.2 - a.2) * (p.1 - a.1) := by
      unfold cross
      rw [c3]
      grind
    have := Int.mul_pos (show 0 < b.2 - a.2 by omega) (show 0 < p.1 - a.1 by omega)
    omega
  · have c4 : p.2 = b.2 := by omega
    have e : cross a b p = -((b.2 - a.2) * (b.1 - p.1)) := by
      unfold cross
      rw [c4]
      grind
    have := Int.mul_pos (show 0 < b.2 - a.2 by omega) (show 0 < b.1 - p.1 by omega)
    omega
theorem nd_ne {h : List Pt} (nd : h.Nodup) {i j : Nat} (hi : i < h.length) (hj : j < h.length) (hij : i ≠ j) : nth h i ≠ nth h j := by
  intro e
  have h1 := nth_at hi
  have h2 := nth_at hj
  rw [e] at h1
  obtain ⟨q1, e1⟩ := List.getElem?_eq_some_iff.mp h1
  obtain ⟨q2, e2⟩ := List.getElem?_eq_some_iff.mp h2
  rcases Nat.lt_or_gt_of_ne hij with q | q
  · exact List.pairwise_iff_getElem.mp nd i j q1 q2 q (e1.trans e2.symm)
  · exact List.pairwise_iff_getElem.mp nd j i q2 q1 q (e2.trans e1.symm)
theorem Poly.strict {h Q : List Pt} (P : Poly h Q) {i j : Nat} (hi : i < h.length) (hj : j < h.length) (h1 : j ≠ i) (h2 : j ≠ (i + 1) % h.length) (h3 : 2 ≤ h.length) : 0 < cross (nth h i) (nth h ((i + 1) % h.length)) (nth h j) := by
  have hm := Nat.mod_lt (i + 1) (show 0 < h.length by omega)
  have hm2 := Nat.mod_lt (j + 1) (show 0 < h.length by omega)
  have pa : nth h j ≠ nth h i := nd_ne P.nd hj hi h1
  have pb : nth h j ≠ nth h ((i + 1) % h.length) := nd_ne P.nd hj hm h2
  have hjj : j ≠ (j + 1) % h.length := by
    intro e
    rcases Nat.lt_or_ge (j + 1) h.length with q | q
    · rw [Nat.mod_eq_of_lt q] at e
      omega
    · have : j + 1 = h.length := by omega
      rw [this, Nat.mod_self] at e
      omega
  have pq : nth h j ≠ nth h ((j + 1) % h.length) := nd_ne P.nd hj hm2 hjj
  have ma := P.sub _ (nth_mem hi)
  have mb := P.sub _ (nth_mem hm)
  have mp := P.sub _ (nth_mem hj)
  have E := P.edge i hi _ mp
  have Ea := P.edge j hj _ ma
  have Eb := P.edge j hj _ mb
  generalize nth h i = a at *
  generalize nth h ((i + 1) % h.length) = b at *
  generalize nth h j = p at *
  generalize nth h ((j + 1) % h.length) = q at *
  rcases Int.lt_or_eq_of_le E.1 with z | z
  · exact z
  exfalso
  have z := z.symm
  have bt := E.2 z
  have fin : cross p q a = 0 → cross p q b = 0 → (Lt a p ∧ Lt p b) ∨ (Lt b p ∧ Lt p a) → False := by
    intro za zb hc
    have ba := Ea.2 za
    have bb := Eb.2 zb
    unfold Btw Le at ba bb
    unfold Lt at hc
    have : p.1 ≠ q.1 ∨ p.2 ≠ q.2 := by
      by_cases e1 : p.1 = q.1
      · right
        intro e2
        exact pq (Prod.ext e1 e2)
      · exact .inl e1
    omega
  have na : a.1 ≠ p.1 ∨ a.2 ≠ p.2 := by
    by_cases e1 : a.1 = p.1
    · right
      intro e2
      exact pa (Prod.ext e1.symm e2.symm)
    · exact .inl e1
  have nb : b.1 ≠ p.1 ∨ b.2 ≠ p.2 := by
    by_cases e1 : b.1 = p.1
    · right
      intro e2
      exact pb (Prod.ext e1.symm e2.symm)
    · exact .inl e1
  rcases bt with ⟨q1, q2⟩ | ⟨q1, q2⟩
  · have l1 : Lt a p := by unfold Le at q1; unfold Lt; omega
    have l2 : Lt p b := by unfold Le at q2; unfold Lt; omega
    obtain ⟨za, zb⟩ := btw_zero (q := q) l1 l2 z Ea.1 Eb.1
    exact fin za zb (.inl ⟨l1, l2⟩)
  · have l1 : Lt b p := by unfold Le at q1; unfold Lt; omega
    have l2 : Lt p a := by unfold Le at q2; unfold Lt; omega
    obtain ⟨zb, za⟩ := btw_zero (q := q) l1 l2 (by rw [cross_swap]; omega) Eb.1 Ea.1
    exact fin za zb (.inr ⟨l1, l2⟩)
/-- three corners in order turn to the left -/
def Tri (h : List Pt) : Prop := ∀ i j k, i < j → j < k → k < h.length → 0 < cross (nth h i) (nth h j) (nth h k)
theorem plucker (o u a b c : Pt) : cross o u b * cross o a c = cross o u a * cross o b c + cross o u c * cross o a b := by unfold cross; grind
theorem Poly.tri {h Q : List Pt} (P : Poly h Q) : Tri h := by
  intro i j k hij hjk hk
  have E : ∀ i j, i + 1 < h.length → j < h.length → j ≠ i → j ≠ i + 1 → 0 < cross (nth h i) (nth h (i + 1)) (nth h j) := by
    intro i j h1 h2 h3 h4
    have := P.strict (i := i) (j := j) (by omega) h2 h3 (by rw [Nat.mod_eq_of_lt h1]; exact h4) (by omega)
    rw [Nat.mod_eq_of_lt h1] at this
    exact this
  have go : ∀ m, j + 1 + m < h.length → 0 < cross (nth h i) (nth h j) (nth h (j + 1 + m)) := by
    intro m
    induction m with
    | zero =>
      intro hm
      have := E j i (by omega) (by omega) (by omega) (by omega)
      rw [Nat.add_zero, ← cross_cyc]
      exact this
    | succ m ih =>
      intro hm
      have h1 := ih (by omega)
      have h2 := E (j + 1 + m) i (by omega) (by omega) (by omega) (by omega)
      rw [← cross_cyc, ← cross_cyc] at h2
      rw [cross_cyc] at h2
      by_cases e : j = i + 1
      · subst e
        exact E i (i + 1 + 1 + (m + 1)) (by omega) (by omega) (by omega) (by omega)
      · have u1 := E i j (by omega) (by omega) (by omega) (by omega)
        have u2 := E i (j + 1 + m) (by omega) (by omega) (by omega) (by omega)
        have u3 := E i (j + 1 + (m + 1)) (by omega) (by omega) (by omega) (by omega)
        refine pos_of_mul u2 ?_
        rw [plucker]
        have e3 : 0 < cross (nth h i) (nth h (j + 1 + m)) (nth h (j + 1 + (m + 1))) := by
          have := E (j + 1 + m) i (by omega) (by omega) (by omega) (by omega)
          rw [← cross_cyc]
          exact this
        have m1 := Int.mul_pos u1 e3
        have m2 := Int.mul_pos u3 h1
        omega
  have := go (k - (j + 1)) (by omega)
  rw [show j + 1 + (k - (j + 1)) = k by omega] at this
  exact this
end K81
set_option maxHeartbeats 0
namespace K81
open Dt
/-! ### the polygon is one -/
theorem next_uniq {a b b' : Pt} (h1 : a ≠ b) (h2 : a ≠ b') (e1 : 0 ≤ cross a b b' ∧ (cross a b b' = 0 → Btw a b b')) (e2 : 0 ≤ cross a b' b ∧ (cross a b' b = 0 → Btw a b' b)) : b = b' := by
  have e : cross a b' b = - cross a b b' := by unfold cross; grind
  have g1 := e1.2 (by omega)
  have g2 := e2.2 (by omega)
  have n1 : ¬ (a.1 = b.1 ∧ a.2 = b.2) := fun z => h1 (Prod.ext z.1 z.2)
  have n2 : ¬ (a.1 = b'.1 ∧ a.2 = b'.2) := fun z => h2 (Prod.ext z.1 z.2)
  unfold Btw Le at g1 g2
  exact Prod.ext (by omega) (by omega)
theorem Poly.same {h k Q : List Pt} (P : Poly h Q) (R : Poly k Q) (h2 : 2 ≤ h.length) (k2 : 2 ≤ k.length) : ∀ i, i < h.length → i < k.length → nth h i = nth k i
  | 0, _, _ => (P.fst (by omega) _ (R.sub _ (nth_mem (by omega)))).anti (R.fst (by omega) _ (P.sub _ (nth_mem (by omega))))
  | i + 1, hi, ki => by
    have ih := P.same R h2 k2 i (by omega) (by omega)
    have m1 := P.sub _ (nth_mem hi)
    have m2 := R.sub _ (nth_mem ki)
    have e1 := P.edge i (by omega) _ m2
    have e2 := R.edge i (by omega) _ m1
    rw [Nat.mod_eq_of_lt hi] at e1
    rw [Nat.mod_eq_of_lt ki] at e2
    rw [← ih] at e2
    have n1 := nd_ne P.nd (i := i) (j := i + 1) (by omega) hi (by omega)
    have n2 := nd_ne R.nd (i := i) (j := i + 1) (by omega) ki (by omega)
    rw [← ih] at n2
    exact next_uniq n1 n2 e1 e2
theorem Poly.nlt {h k Q : List Pt} (P : Poly h Q) (R : Poly k Q) (h2 : 2 ≤ h.length) (k2 : 2 ≤ k.length) : ¬ h.length < k.length := by
  intro hl
  have ih := P.same R h2 k2 (h.length - 1) (by omega) (by omega)
  have i0 := P.same R h2 k2 0 (by omega) (by omega)
  have m1 := P.sub _ (nth_mem (show 0 < h.length by omega))
  have m2 := R.sub _ (nth_mem hl)
  have e1 := P.edge (h.length - 1) (by omega) _ m2
  have e2 := R.edge (h.length - 1) (by omega) _ m1
  have e : h.length - 1 + 1 = h.length := by omega
  rw [e, Nat.mod_self] at e1
  rw [e, Nat.mod_eq_of_lt hl, ← ih] at e2
  have n1 := nd_ne P.nd (i := h.length - 1) (j := 0) (by omega) (by omega) (by omega)
  have n2 := nd_ne R.nd (i := h.length - 1) (j := h.length) (by omega) hl (by omega)
  rw [← ih] at n2
  have := next_uniq n1 n2 e1 e2
  rw [i0] at this
  exact nd_ne R.nd (i := 0) (j := h.length) (by omega) hl (by omega) this
theorem Poly.uniq {h k Q : List Pt} (P : Poly h Q) (R : Poly k Q) (h2 : 2 ≤ h.length) (k2 : 2 ≤ k.length) : h = k := by
  have n1 := P.nlt R h2 k2
  have n2 := R.nlt P k2 h2
  have hl : h.length = k.length := by omega
  refine List.ext_getElem? fun i => ?_
  rcases Nat.lt_or_ge i h.length with q | q
  · rw [nth_at q, nth_at (by omega), P.same R h2 k2 i q (by omega)]
  · rw [List.getElem?_eq_none q, List.getElem?_eq_none (by omega)]
/-! ### points on one line -/
theorem cross_sum (o a b c : Pt) : cross a b c = cross o a b + cross o b c + cross o c a := by unfold cross; grind
theorem on_line {b t p q r : Pt} (hbt : b ≠ t) (hp : cross b t p = 0) (hq : cross b t q = 0) (hr : cross b t r = 0) : cross p q r = 0 := by
  have i1 : (t.2 - b.2) * cross p q r = (q.2 - p.2) * (cross b t r - cross b t p) - (r.2 - p.2) * (cross b t q - cross b t p) := by unfold cross; grind
  have i2 : (t.1 - b.1) * cross p q r = (q.1 - p.1) * (cross b t r - cross b t p) - (r.1 - p.1) * (cross b t q - cross b t p) := by unfold cross; grind
  rw [hp, hq, hr] at i1 i2
  simp only [Int.sub_self, Int.mul_zero] at i1 i2
  rcases Int.mul_eq_zero.mp i1 with h | h
  · rcases Int.mul_eq_zero.mp i2 with h' | h'
    · exact absurd (Prod.ext (by omega) (by omega)) hbt
    · exact h'
  · exact h
theorem none_iff {ps : List Pt} (hne : ps ≠ []) : (hullL ps).length < 3 ↔ ∀ a ∈ ps, ∀ b ∈ ps, cross (nth ps 0) a b = 0 := by
  have h0 : nth ps 0 ∈ ps := nth_mem (List.length_pos_iff.mpr hne)
  constructor
  · intro hl a ha b hb
    obtain ⟨m, t, T⟩ := hull_two hne
    have mem : ∀ q, q ∈ ps → q ∈ ordd ps := fun q hq => mem_ordd.mpr hq
    by_cases e : m = t
    · have all : ∀ q, q ∈ ps → q = m := fun q hq => (e ▸ T.mx q (mem q hq) : Le q m).anti (T.mn q (mem q hq))
      rw [all _ h0, all _ ha, all _ hb]
      exact cross_self1 _ _
    · obtain ⟨k1, k2⟩ := T.bt e
      have hn : (hullL ps).length = _ := join_len (chain (ordd ps)) (chain (ordd ps).reverse)
      have l2 : (chain (ordd ps)).length - 1 = 1 := by omega
      have u2 : (chain (ordd ps).reverse).length - 1 = 1 := by omega
      have nl : Nb (chain (ordd ps)) m t := ⟨0, T.l0, by have g := T.l1; rw [l2] at g; exact g⟩
      have nu : Nb (chain (ordd ps).reverse) t m := ⟨0, T.u0, by have g := T.u1; rw [u2] at g; exact g⟩
      have all : ∀ q, q ∈ ps → cross m t q = 0 := fun q hq => by
        have g1 := (T.low.edg m t nl q (mem q hq)).1
        have g2 := (T.upp.edg t m nu q (mem q hq)).1
        rw [cross_swap] at g2
        omega
      exact on_line e (all _ h0) (all _ ha) (all _ hb)
  · intro h
    rcases Nat.lt_or_ge (hullL ps).length 3 with q | q
    · exact q
    exfalso
    have P := poly_hull hne
    have t := P.tri 0 1 2 (by decide) (by decide) q
    have m : ∀ i, i < 3 → nth (hullL ps) i ∈ ps := fun i hi => P.sub _ (nth_mem (by omega))
    rw [cross_sum (nth ps 0), h _ (m 0 (by decide)) _ (m 1 (by decide)), h _ (m 1 (by decide)) _ (m 2 (by decide)), h _ (m 2 (by decide)) _ (m 0 (by decide))] at t
    omega
theorem ne_of_hull {ps : List Pt} (h : ¬ (hullL ps).length < 3) : ps ≠ [] := by
  rintro rfl
  exact h (by decide)
theorem again {ps : List Pt} (h : ¬ (hullL ps).length < 3) : hullL (hullL ps) = hullL ps := by
  have P := poly_hull (ne_of_hull h)
  have hne : hullL ps ≠ [] := List.ne_nil_of_length_pos (by omega)
  have R := poly_hull hne
  have h3 : ¬ (hullL (hullL ps)).length < 3 := by
    rw [none_iff hne]
    intro z
    have t := P.tri 0 1 2 (by decide) (by decide) (by omega)
    have := z (nth (hullL ps) 1) (nth_mem (by omega)) (nth (hullL ps) 2) (nth_mem (by omega))
    omega
  have P' : Poly (hullL ps) (hullL ps) := ⟨fun x hx => hx, P.nd, fun i hi q hq => P.edge i hi q (P.sub q hq), fun h0 q hq => P.fst h0 q (P.sub q hq)⟩
  exact R.uniq P' (by omega) (by omega)
theorem back {ps : List Pt} : hullL ps.reverse = hullL ps := hull_congr fun x => List.mem_reverse
/-! ### the first corner -/
theorem lt_pair (p q : Int × Int) : PySem.W.DatumOrd.lt p q = decide (lexlt p q) := by
  show (if p.1 = q.1 then decide (p.2 < q.2) else decide (p.1 < q.1)) = _
  unfold lexlt
  by_cases h : p.1 = q.1
  · rw [if_pos h]
    refine decide_eq_decide.mpr ?_
    omega
  · rw [if_neg h]
    refine decide_eq_decide.mpr ?_
    omega
theorem minFold : ∀ (xs : List (Int × Int)) (x : Int × Int), (minPair x xs = x ∨ minPair x xs ∈ xs) ∧ ¬ lexlt x (minPair x xs) ∧ ∀ z ∈ xs, ¬ lexlt z (minPair x xs)
  | [], x => ⟨.inl rfl, lexlt_irrefl, fun z h => nomatch h⟩
  | y :: ys, x => by
    have e : minPair x (y :: ys) = minPair (if PySem.W.DatumOrd.lt y x = true then y else x) ys := rfl
    rw [e, lt_pair]
    by_cases h : lexlt y x
    · rw [if_pos (decide_eq_true h)]
      obtain ⟨h1, h2, h3⟩ := minFold ys y
      generalize minPair y ys = r at *
      refine ⟨.inr ?_, ?_, fun z hz => ?_⟩
      · rcases h1 with h1 | h1
        · rw [h1]
          exact .head _
        · exact .tail _ h1
      · intro z
        exact h2 (by unfold lexlt at *; omega)
      · rcases List.mem_cons.mp hz with rfl | hz
        · exact h2
        · exact h3 z hz
    · rw [if_neg (by rw [decide_eq_true_eq]; exact h)]
      obtain ⟨h1, h2, h3⟩ := minFold ys x
      generalize minPair x ys = r at *
      refine ⟨?_, h2, fun z hz => ?_⟩
      · rcases h1 with h1 | h1
        · exact .inl h1
        · exact .inr (.tail _ h1)
      · rcases List.mem_cons.mp hz with rfl | hz
        · intro q
          exact h2 (by unfold lexlt at *; omega)
        · exact h3 z hz
theorem least {ps : List Pt} (h : ¬ (hullL ps).length < 3) : swp (nth (hullL ps) 0) = leastV ps := by
  have hne := ne_of_hull h
  have P := poly_hull hne
  have hm : nth (hullL ps) 0 ∈ ps := P.sub _ (nth_mem (by omega))
  have hl := P.fst (by omega)
  generalize nth (hullL ps) 0 = m at *
  unfold leastV
  cases ps with
  | nil => exact absurd rfl hne
  | cons p r =>
    show swp m = minPair (swp p) (r.map swp)
    obtain ⟨h1, h2, h3⟩ := minFold (r.map swp) (swp p)
    have mem : ∃ y ∈ p :: r, minPair (swp p) (r.map swp) = swp y := by
      rcases h1 with h1 | h1
      · exact ⟨p, .head _, h1⟩
      · obtain ⟨y, hy, e⟩ := List.mem_map.mp h1
        exact ⟨y, .tail _ hy, e.symm⟩
    obtain ⟨y, hy, e⟩ := mem
    have g1 : ¬ lexlt (swp m) (swp y) := by
      rw [← e]
      rcases List.mem_cons.mp hm with h | h
      · rw [h]
        exact h2
      · exact h3 _ (List.mem_map.mpr ⟨m, h, rfl⟩)
    have g2 := hl y hy
    rw [e]
    have : m = y := by
      unfold lexlt swp at g1
      unfold Le at g2
      dsimp only at g1
      exact Prod.ext (by omega) (by omega)
    rw [this]
/-! ### simple -/
/-- each corner strictly to the left of each side that is not its own -/
def Str_ (h : List Pt) : Prop := ∀ i j, i < h.length → j < h.length → j ≠ i → j ≠ (i + 1) % h.length → 0 < cross (nth h i) (nth h ((i + 1) % h.length)) (nth h j)
theorem Tri.str {h : List Pt} (T : Tri h) (h3 : 3 ≤ h.length) : Str_ h := by
  intro i j hi hj h1 h2
  rcases Nat.lt_or_ge (i + 1) h.length with q | q
  · rw [Nat.mod_eq_of_lt q] at h2 ⊢
    rcases Nat.lt_or_ge j i with z | z
    · have := T j i (i + 1) z (by omega) q
      rw [← cross_cyc] at this
      exact this
    · exact T i (i + 1) j (by omega) (by omega) hj
  · have e : i + 1 = h.length := by omega
    rw [e, Nat.mod_self] at h2 ⊢
    have := T 0 j i (by omega) (by omega) hi
    rw [← cross_cyc, ← cross_cyc] at this
    exact this
theorem Tri.ne {h : List Pt} (T : Tri h) (h3 : 3 ≤ h.length) {i j : Nat} (hi : i < h.length) (hj : j < h.length) (hij : i < j) : nth h i ≠ nth h j := by
  intro e
  have : ∃ k, k < h.length ∧ k ≠ i ∧ k ≠ j := by
    by_cases c0 : i ≠ 0
    · exact ⟨0, by omega, by omega, by omega⟩
    · by_cases c1 : j ≠ 1
      · exact ⟨1, by omega, by omega, by omega⟩
      · exact ⟨2, by omega, by omega, by omega⟩
  obtain ⟨k, hk, k1, k2⟩ := this
  rcases Nat.lt_or_ge k i with q | q
  · have := T k i j q hij hj
    rw [e, cross_self2] at this
    omega
  rcases Nat.lt_or_ge k j with q2 | q2
  · have := T i k j (by omega) q2 hj
    rw [e, cross_self3] at this
    omega
  · have := T i j k hij (by omega) hk
    rw [e, cross_self1] at this
    omega
theorem sgn_p {v : Int} (h : 0 < v) : sgn v = 1 := by
  unfold sgn
  rw [decide_eq_true h, decide_eq_false (by omega)]
  rfl
theorem tri_simple {h : List Pt} (T : Tri h) (h3 : 3 ≤ h.length) : isSimple h = true := by
  have S := T.str h3
  unfold isSimple
  rw [List.all_eq_true]
  intro i hi
  have hi := List.mem_range.mp hi
  have hm := Nat.mod_lt (i + 1) (show 0 < h.length by omega)
  have hm2 := Nat.mod_lt ((i + 1) % h.length + 1) (show 0 < h.length by omega)
  have k1 : (i + 1) % h.length ≠ i := by
    rcases Nat.lt_or_ge (i + 1) h.length with q | q
    · rw [Nat.mod_eq_of_lt q]
      omega
    · have e : i + 1 = h.length := by omega
      rw [e, Nat.mod_self]
      omega
  have k2 : ((i + 1) % h.length + 1) % h.length ≠ i ∧ ((i + 1) % h.length + 1) % h.length ≠ (i + 1) % h.length := by
    rcases Nat.lt_or_ge (i + 1) h.length with q | q
    · rw [Nat.mod_eq_of_lt q]
      rcases Nat.lt_or_ge (i + 1 + 1) h.length with q2 | q2
      · rw [Nat.mod_eq_of_lt q2]
        omega
      · have e : i + 1 + 1 = h.length := by omega
        rw [e, Nat.mod_self]
        omega
    · have e : i + 1 = h.length := by omega
      rw [e, Nat.mod_self, Nat.mod_eq_of_lt (by omega)]
      omega
  unfold good
  rw [Bool.and_eq_true]
  constructor
  · unfold bad1
    have g := S i _ hi hm2 k2.1 k2.2
    have ne : ¬ nth h i = nth h ((i + 1) % h.length) := by
      rcases Nat.lt_or_gt_of_ne k1 with q | q
      · exact fun e => T.ne h3 hm hi q e.symm
      · exact T.ne h3 hi hm q
    rw [decide_eq_false ne, turnsBack_ne (by omega)]
    rfl
  · rw [List.all_eq_true]
    intro j hj
    have hj := List.mem_range.mp hj
    by_cases hij : i < j
    · rw [decide_eq_true hij, Bool.true_and]
      unfold bad2
      by_cases hn : isNext h.length i j = true
      · rw [hn]
        rfl
      · have hn' : ¬ (j = i + 1) ∧ ¬ (i = 0 ∧ j = h.length - 1) := by
          unfold isNext at hn
          constructor
          · intro z
            refine hn ?_
            rw [decide_eq_true (show ((j : Nat) : Int) = (i : Nat) + 1 by omega)]
            rfl
          · intro z
            refine hn ?_
            rw [decide_eq_true (show ((i : Nat) : Int) = 0 by omega), decide_eq_true (show ((j : Nat) : Int) = ((h.length : Nat) : Int) - 1 by omega), Bool.and_true, Bool.or_true]
        have hjm := Nat.mod_lt (j + 1) (show 0 < h.length by omega)
        have ei : (i + 1) % h.length = i + 1 := Nat.mod_eq_of_lt (by omega)
        have c : (j + 1) % h.length ≠ i ∧ (j + 1) % h.length ≠ i + 1 := by
          rcases Nat.lt_or_ge (j + 1) h.length with q | q
          · rw [Nat.mod_eq_of_lt q]
            omega
          · have e : j + 1 = h.length := by omega
            rw [e, Nat.mod_self]
            omega
        have c1 := S i j hi hj (by omega) (by omega)
        have c2 := S i ((j + 1) % h.length) hi hjm c.1 (by omega)
        have c3 := S j i hj hi (by omega) (fun e => c.1 e.symm)
        have c4 := S j ((i + 1) % h.length) hj hm (by omega) (by omega)
        have d : doMeet (nth h i) (nth h ((i + 1) % h.length)) (nth h j) (nth h ((j + 1) % h.length)) = false := by
          unfold doMeet
          rw [sgn_p c1, sgn_p c2, if_neg (by omega), isOn_ne (by omega), isOn_ne (by omega), isOn_ne (by omega), isOn_ne (by omega)]
          rfl
        rw [d, Bool.and_false]
        rfl
    · rw [decide_eq_false hij]
      rfl
end K81
set_option maxHeartbeats 0
namespace K81
open Dt
/-! ### areas -/
def X2 (p q : Pt) : Int := p.2 * q.1 - q.2 * p.1
theorem x2_self (p : Pt) : X2 p p = 0 := by unfold X2; omega
theorem x2_anti (p q : Pt) : X2 q p = - X2 p q := by unfold X2; grind
theorem cross_x2 (o p q : Pt) : cross o p q = X2 o p + X2 p q + X2 q o := by unfold cross X2; grind
def sumN (f : Nat → Int) : Nat → Int
  | 0 => 0
  | n + 1 => sumN f n + f n
theorem sumN_congr {f g : Nat → Int} : ∀ {n : Nat}, (∀ i, i < n → f i = g i) → sumN f n = sumN g n
  | 0, _ => rfl
  | n + 1, h => by
    show sumN f n + f n = sumN g n + g n
    rw [sumN_congr fun i hi => h i (by omega), h n (by omega)]
theorem sumN_add (f : Nat → Int) (a : Nat) : ∀ b, sumN f (a + b) = sumN f a + sumN (fun j => f (a + j)) b
  | 0 => by
    show sumN f a = sumN f a + 0
    omega
  | b + 1 => by
    show sumN f (a + b) + f (a + b) = sumN f a + (sumN (fun j => f (a + j)) b + f (a + b))
    rw [sumN_add f a b]
    omega
theorem sum_range (f : Nat → Int) : ∀ n, ((List.range n).map f).sum = sumN f n
  | 0 => rfl
  | n + 1 => by
    rw [List.range_succ, List.map_append, List.sum_append, sum_range f n]
    show sumN f n + (f n + 0) = sumN f n + f n
    omega
theorem area_at (h : List Pt) : area2 h = sumN (fun i => X2 (nth h i) (nth h ((i + 1) % h.length))) h.length := by
  unfold area2 sides
  rw [List.map_map, ← sum_range]
  rfl
/-- a closed path by its open part -/
theorem area_open {h : List Pt} {m : Nat} (hl : h.length = m + 1) : area2 h = sumN (fun i => X2 (nth h i) (nth h (i + 1))) m + X2 (nth h m) (nth h 0) := by
  rw [area_at, hl]
  show sumN _ m + X2 (nth h m) (nth h ((m + 1) % (m + 1))) = _
  rw [Nat.mod_self]
  congr 1
  refine sumN_congr fun i hi => ?_
  rw [Nat.mod_eq_of_lt (by omega)]
theorem tele (o : Pt) (f : Nat → Pt) : ∀ m, sumN (fun i => X2 (f i) (f (i + 1))) m = sumN (fun i => cross o (f i) (f (i + 1))) m - X2 o (f 0) + X2 o (f m)
  | 0 => by
    show (0 : Int) = 0 - X2 o (f 0) + X2 o (f 0)
    omega
  | m + 1 => by
    show sumN _ m + X2 (f m) (f (m + 1)) = (sumN _ m + cross o (f m) (f (m + 1))) - _ + _
    rw [tele o f m, cross_x2, x2_anti o (f (m + 1))]
    omega
theorem tri_area {h : List Pt} (T : Tri h) (h3 : 3 ≤ h.length) : 0 < area2 h := by
  obtain ⟨m, hm⟩ : ∃ m, h.length = m + 1 := ⟨h.length - 1, by omega⟩
  rw [area_open hm, tele (nth h 0), x2_self, x2_anti (nth h 0) (nth h m)]
  have go : ∀ j, j + 1 < h.length → 0 ≤ sumN (fun i => cross (nth h 0) (nth h i) (nth h (i + 1))) j ∧ (2 ≤ j → 0 < sumN (fun i => cross (nth h 0) (nth h i) (nth h (i + 1))) j) := by
    intro j
    induction j with
    | zero => exact fun _ => ⟨Int.le_refl _, fun z => by omega⟩
    | succ j ih =>
      intro hj
      have ih := ih (by omega)
      show 0 ≤ sumN _ j + cross (nth h 0) (nth h j) (nth h (j + 1)) ∧ (2 ≤ j + 1 → 0 < sumN _ j + cross (nth h 0) (nth h j) (nth h (j + 1)))
      by_cases e : j = 0
      · subst e
        rw [cross_self1]
        exact ⟨by omega, fun z => by omega⟩
      · have := T 0 j (j + 1) (by omega) (by omega) (by omega)
        exact ⟨by omega, fun _ => by omega⟩
  have := go (m - 1) (by omega)
  have e : sumN (fun i => cross (nth h 0) (nth h i) (nth h (i + 1))) m = sumN (fun i => cross (nth h 0) (nth h i) (nth h (i + 1))) (m - 1) + cross (nth h 0) (nth h (m - 1)) (nth h m) := by
    obtain ⟨k, rfl⟩ : ∃ k, m = k + 1 := ⟨m - 1, by omega⟩
    rfl
  have t := T 0 (m - 1) m (by omega) (by omega) (by omega)
  rw [e]
  omega
/-! ### the area of two halves -/
theorem part_len (h : List Pt) (i k : Nat) : (partOf h i k).length = stepsTo h.length i k + 1 := by
  unfold partOf
  rw [List.length_map, List.length_range]
theorem part_nth {h : List Pt} {i k m : Nat} (hm : m ≤ stepsTo h.length i k) : nth (partOf h i k) m = nth h (wrapN h.length (i + m)) := by
  refine nth_of ?_
  unfold partOf
  rw [List.getElem?_map, List.getElem?_range (by omega)]
  rfl
theorem half_lt {h : List Pt} {i k : Nat} (hik : i < k) (hk : k < h.length) : area2 (partOf h i k) + area2 (partOf h k i) = area2 h := by
  have s1 : stepsTo h.length i k = k - i := by unfold stepsTo; rw [if_pos (by omega)]
  have s2 : stepsTo h.length k i = i + h.length - k := by unfold stepsTo; rw [if_neg (by omega)]
  rw [area_open (part_len h i k), area_open (part_len h k i), area_at h]
  have w : ∀ {j : Nat}, j < h.length → wrapN h.length j = j := fun hj => by unfold wrapN; rw [if_pos hj]
  have w2 : ∀ {j : Nat}, wrapN h.length (h.length + j) = j := by
    intro j
    unfold wrapN
    rw [if_neg (by omega)]
    omega
  rw [part_nth (Nat.le_refl _), part_nth (Nat.zero_le _), part_nth (Nat.le_refl _), part_nth (Nat.zero_le _), s1, s2]
  rw [show i + (k - i) = k by omega, show k + (i + h.length - k) = h.length + i by omega, Nat.add_zero, Nat.add_zero, w hk, w (show i < h.length by omega), w2]
  have p1 : sumN (fun m => X2 (nth (partOf h i k) m) (nth (partOf h i k) (m + 1))) (k - i) = sumN (fun m => X2 (nth h (i + m)) (nth h ((i + m + 1) % h.length))) (k - i) := by
    refine sumN_congr fun m hm => ?_
    rw [part_nth (by omega), part_nth (by omega), w (by omega), w (by omega), Nat.mod_eq_of_lt (by omega)]
    rfl
  have p2 : sumN (fun m => X2 (nth (partOf h k i) m) (nth (partOf h k i) (m + 1))) (i + h.length - k) = sumN (fun m => X2 (nth h (k + m)) (nth h ((k + m + 1) % h.length))) (h.length - k) + sumN (fun m => X2 (nth h m) (nth h ((m + 1) % h.length))) i := by
    rw [show i + h.length - k = (h.length - k) + i by omega, sumN_add]
    congr 1
    · refine sumN_congr fun m hm => ?_
      rw [part_nth (by omega), part_nth (by omega), w (by omega)]
      rcases Nat.lt_or_ge (k + m + 1) h.length with q | q
      · rw [Nat.mod_eq_of_lt q, w (by omega)]
        rfl
      · have e : k + m + 1 = h.length := by omega
        rw [e, Nat.mod_self, show k + (m + 1) = h.length + 0 by omega, w2]
    · refine sumN_congr fun m hm => ?_
      rw [part_nth (by omega), part_nth (by omega), show k + (h.length - k + m) = h.length + m by omega, show k + (h.length - k + m + 1) = h.length + (m + 1) by omega, w2, w2, Nat.mod_eq_of_lt (by omega)]
  rw [p1, p2]
  have t : sumN (fun i => X2 (nth h i) (nth h ((i + 1) % h.length))) h.length = sumN (fun i => X2 (nth h i) (nth h ((i + 1) % h.length))) i + sumN (fun m => X2 (nth h (i + m)) (nth h ((i + m + 1) % h.length))) (k - i) + sumN (fun m => X2 (nth h (k + m)) (nth h ((k + m + 1) % h.length))) (h.length - k) := by
    rw [show sumN (fun i => X2 (nth h i) (nth h ((i + 1) % h.length))) h.length = sumN (fun i => X2 (nth h i) (nth h ((i + 1) % h.length))) (i + (k - i) + (h.length - k)) by rw [show i + (k - i) + (h.length - k) = h.length by omega]]
    rw [sumN_add, sumN_add]
    congr 1
    refine sumN_congr fun m hm => ?_
    rw [show i + (k - i) + m = k + m by omega]
  rw [t, x2_anti (nth h i) (nth h k)]
  omega
theorem half_area {h : List Pt} {i k : Nat} (o : okHalf h i k) : area2 (partOf h i k) + area2 (partOf h k i) = area2 h := by
  obtain ⟨_, hi, hk, n0, _, _⟩ := o
  rcases Nat.lt_trichotomy i k with q | q | q
  · exact half_lt q hk
  · subst q
    exact absurd (by rw [Int.sub_self]; exact Int.zero_emod _) n0
  · have := half_lt q hi
    omega
/-! ### paths -/
def pS : List Pt → Int
  | a :: b :: r => X2 a b + pS (b :: r)
  | _ => 0
theorem pS_app : ∀ (l : List Pt) (t : Pt) (r : List Pt), pS (l ++ t :: r) = pS (l ++ [t]) + pS (t :: r)
  | [], t, r => by
    show pS (t :: r) = 0 + pS (t :: r)
    omega
  | [a], t, r => by
    show X2 a t + pS (t :: r) = (X2 a t + 0) + pS (t :: r)
    omega
  | a :: b :: l, t, r => by
    show X2 a b + pS (b :: l ++ t :: r) = (X2 a b + pS (b :: l ++ [t])) + pS (t :: r)
    rw [pS_app (b :: l) t r]
    omega
theorem pS_ng : ∀ l : List Pt, pS (l.map ng) = pS l
  | [] => rfl
  | [_] => rfl
  | a :: b :: r => by
    show X2 (ng a) (ng b) + pS ((b :: r).map ng) = X2 a b + pS (b :: r)
    rw [pS_ng (b :: r)]
    congr 1
    unfold X2 ng
    dsimp only
    grind
theorem pS_sum : ∀ l : List Pt, pS l = sumN (fun i => X2 (nth l i) (nth l (i + 1))) (l.length - 1)
  | [] => rfl
  | [_] => rfl
  | a :: b :: r => by
    show X2 a b + pS (b :: r) = sumN _ (r.length + 1)
    rw [pS_sum (b :: r), show r.length + 1 = 1 + r.length by omega, sumN_add]
    congr 1
    · show X2 a b = 0 + X2 a b
      omega
    · refine sumN_congr fun i hi => ?_
      rw [show 1 + i + 1 = (i + 1) + 1 by omega, show 1 + i = i + 1 by omega]
      rfl
theorem nth_app {l r : List Pt} {i : Nat} (h : i < l.length) : nth (l ++ r) i = nth l i := by
  refine nth_of ?_
  rw [List.getElem?_append_left h]
  exact nth_at h
theorem nth_len {l r : List Pt} {p : Pt} : nth (l ++ p :: r) l.length = p := by
  refine nth_of ?_
  rw [List.getElem?_append_right (Nat.le_refl _), Nat.sub_self]
  rfl
theorem area_pS {h : List Pt} (hn : 0 < h.length) : area2 h = pS (h ++ [nth h 0]) := by
  rw [pS_sum, area_at, List.length_append, List.length_singleton, Nat.add_sub_cancel]
  refine sumN_congr fun i hi => ?_
  rw [nth_app hi]
  rcases Nat.lt_or_ge (i + 1) h.length with q | q
  · rw [Nat.mod_eq_of_lt q, nth_app q]
  · have e : i + 1 = h.length := by omega
    rw [e, Nat.mod_self, nth_len]
theorem dropLast_snoc {l : List Pt} {t : Pt} (h : l[l.length - 1]? = some t) : l = l.dropLast ++ [t] := by
  have h' : l.getLast? = some t := by rw [List.getLast?_eq_getElem?]; exact h
  obtain ⟨ys, e⟩ := List.getLast?_eq_some_iff.mp h'
  rw [e, List.dropLast_concat]
theorem join_area {L U Q : List Pt} {b t : Pt} (T : Two L U Q b t) (hbt : b ≠ t) : area2 (joinH L U) = pS L + pS U := by
  obtain ⟨k1, k2⟩ := T.bt hbt
  have hn := join_len L U
  have e0 : nth (joinH L U) 0 = b := nth_of ((join_l (by omega)).trans T.l0)
  rw [area_pS (by omega), e0]
  have eU := dropLast_snoc T.u1
  have eL := dropLast_snoc T.l1
  unfold joinH
  rw [List.append_assoc, ← eU]
  have hu := T.u0
  cases U with
  | nil => simp at hu
  | cons u r =>
    have : u = t := Option.some.inj hu
    subst this
    rw [pS_app, ← eL]
/-! ### the lowest path is the greatest -/
theorem pS_same {b : Pt} : ∀ {c : List Pt}, (∀ x ∈ c, x = b) → pS (b :: c) = 0
  | [], _ => rfl
  | x :: r, h => by
    have e := h x (.head _)
    subst e
    show X2 x x + pS (x :: r) = 0
    rw [x2_self, pS_same fun y hy => h y (.tail _ hy)]
    rfl
def EdgeOk (L c : List Pt) : Prop := ∀ a b, Nb L a b → Lt a b ∧ ∀ q ∈ c, 0 ≤ cross a b q
theorem Nb.tail {a : Pt} {r : List Pt} {x y : Pt} (h : Nb r x y) : Nb (a :: r) x y := by
  obtain ⟨i, h1, h2⟩ := h
  exact ⟨i + 1, by simpa using h1, by simpa using h2⟩
theorem EdgeOk.tail {a : Pt} {L c : List Pt} (h : EdgeOk (a :: L) c) : EdgeOk L c := fun x y n => h x y n.tail
theorem EdgeOk.head {a b : Pt} {L c : List Pt} (h : EdgeOk (a :: b :: L) c) : Lt a b ∧ ∀ q ∈ c, 0 ≤ cross a b q := h a b ⟨0, rfl, rfl⟩
theorem EdgeOk.last {c : List Pt} : ∀ {L : List Pt} {a t : Pt}, EdgeOk (a :: L) c → (a :: L).getLast? = some t → Le a t
  | [], a, t, _, h => by
    have : a = t := Option.some.inj h
    subst this
    exact Le.refl _
  | b :: L, a, t, h, h2 => h.head.1.le.trans (h.tail.last (by rw [List.getLast?_cons_cons] at h2; exact h2))
theorem turn_at {l0 l1 x y : Pt} (h01 : Lt l0 l1) (hx : Lt x l1) (hy : Le l1 y) (gx : 0 ≤ cross l0 l1 x) (gy : 0 ≤ cross l0 l1 y) : 0 ≤ cross x l1 y := by
  rcases lt_or_eq hy with h | h
  · rw [cross_vec]
    refine tr_ge hx.lp h01.lp h.lp ?_ ?_
    · have e : (l1.2 - x.2) * (l1.1 - l0.1) - (l1.1 - x.1) * (l1.2 - l0.2) = cross l0 l1 x := by unfold cross; grind
      omega
    · rw [← cross_vec]
      exact gy
  · subst h
    rw [cross_self2]
    exact Int.le_refl _
/-- along one side that is not upright -/
theorem side_flat {l0 l1 : Pt} {r Q : List Pt} (hE : l0.2 < l1.2) (h01 : Lt l0 l1) (outer : ∀ (y : Pt) (c : List Pt), (∀ q ∈ y :: c, q ∈ Q) → (l1 :: y :: c).Pairwise Le → (l1 :: y :: c).getLast? = (l1 :: r).getLast? → pS (l1 :: y :: c) ≤ pS (l1 :: r)) (hg : ∀ q ∈ Q, 0 ≤ cross l0 l1 q) (hr : ∀ t, (l1 :: r).getLast? = some t → Le l1 t) :
    ∀ (c : List Pt) (x : Pt), (∀ q ∈ x :: c, q ∈ Q) → Lt x l1 → Le l0 x → (x :: c).Pairwise Le → (x :: c).getLast? = (l1 :: r).getLast? → (l1.2 - l0.2) * (pS (x :: c) + X2 l0 x - (X2 l0 l1 + pS (l1 :: r))) ≤ -((x.2 - l0.2) * cross l0 l1 x)
  | [], x, hq, hx, h0, hs, hl => by
    exfalso
    exact nlt_of_le (hr x hl.symm) hx
  | y :: c, x, hq, hx, h0, hs, hl => by
    have hxy : Le x y := (List.pairwise_cons.mp hs).1 y (.head _)
    have gx := hg x (hq x (.head _))
    have gy := hg y (hq y (.tail _ (.head _)))
    have hl2 : (y :: c).getLast? = (l1 :: r).getLast? := by rw [List.getLast?_cons_cons] at hl; exact hl
    by_cases hy : Lt y l1
    · have ih := side_flat hE h01 outer hg hr c y (fun q h => hq q (.tail _ h)) hy (h0.trans hxy) (List.pairwise_cons.mp hs).2 hl2
      have e1 : pS (x :: y :: c) = X2 x y + pS (y :: c) := rfl
      have e2 : (l1.2 - l0.2) * (X2 x y + X2 l0 x - X2 l0 y) = (x.2 - l0.2) * cross l0 l1 y - (y.2 - l0.2) * cross l0 l1 x := by unfold X2 cross; grind
      have e3 : (y.2 - x.2) * (cross l0 l1 x + cross l0 l1 y) = ((y.2 - l0.2) * cross l0 l1 y - (x.2 - l0.2) * cross l0 l1 x) - ((x.2 - l0.2) * cross l0 l1 y - (y.2 - l0.2) * cross l0 l1 x) := by grind
      have m := Int.mul_nonneg (show 0 ≤ y.2 - x.2 by unfold Le at hxy; omega) (show 0 ≤ cross l0 l1 x + cross l0 l1 y by omega)
      have e4 : (l1.2 - l0.2) * (pS (x :: y :: c) + X2 l0 x - (X2 l0 l1 + pS (l1 :: r))) = (l1.2 - l0.2) * (X2 x y + X2 l0 x - X2 l0 y) + (l1.2 - l0.2) * (pS (y :: c) + X2 l0 y - (X2 l0 l1 + pS (l1 :: r))) := by
        rw [e1]
        grind
      omega
    · have hy' := le_of_nlt hy
      have hs2 : (l1 :: y :: c).Pairwise Le := List.pairwise_cons.mpr ⟨fun z hz => by
        rcases List.mem_cons.mp hz with h | h
        · rw [h]
          exact hy'
        · exact hy'.trans ((List.pairwise_cons.mp (List.pairwise_cons.mp hs).2).1 z h), (List.pairwise_cons.mp hs).2⟩
      have ih := outer y c (fun q h => hq q (.tail _ h)) hs2 (by rw [List.getLast?_cons_cons]; exact hl2)
      have e1 : pS (x :: y :: c) = X2 x y + pS (y :: c) := rfl
      have e2 : pS (l1 :: y :: c) = X2 l1 y + pS (y :: c) := rfl
      have t := turn_at h01 hx hy' gx gy
      rw [cross_x2, x2_anti x y] at t
      have b1 : pS (x :: y :: c) + X2 l0 x - (X2 l0 l1 + pS (l1 :: r)) ≤ -(cross l0 l1 x) := by
        have e3 : cross l0 l1 x = X2 l0 l1 + X2 l1 x + X2 x l0 := cross_x2 _ _ _
        rw [x2_anti x l1, x2_anti l0 x] at e3
        omega
      have m := Int.mul_le_mul_of_nonneg_left b1 (show 0 ≤ l1.2 - l0.2 by omega)
      have m2 := Int.mul_nonneg (show 0 ≤ l1.2 - x.2 by unfold Lt at hx; omega) gx
      have e5 : (l1.2 - x.2) * cross l0 l1 x = (l1.2 - l0.2) * cross l0 l1 x - (x.2 - l0.2) * cross l0 l1 x := by grind
      have e6 : (l1.2 - l0.2) * -(cross l0 l1 x) = -((l1.2 - l0.2) * cross l0 l1 x) := by grind
      omega
/-- along an upright side -/
theorem side_up {l0 l1 : Pt} {r Q : List Pt} (hE : l0.2 = l1.2) (h01 : Lt l0 l1) (outer : ∀ (y : Pt) (c : List Pt), (∀ q ∈ y :: c, q ∈ Q) → (l1 :: y :: c).Pairwise Le → (l1 :: y :: c).getLast? = (l1 :: r).getLast? → pS (l1 :: y :: c) ≤ pS (l1 :: r)) (hg : ∀ q ∈ Q, 0 ≤ cross l0 l1 q) (hr : ∀ t, (l1 :: r).getLast? = some t → Le l1 t) :
    ∀ (c : List Pt) (x : Pt), (∀ q ∈ x :: c, q ∈ Q) → Lt x l1 → Le l0 x → (x :: c).Pairwise Le → (x :: c).getLast? = (l1 :: r).getLast? → pS (x :: c) + X2 l0 x ≤ X2 l0 l1 + pS (l1 :: r)
  | [], x, hq, hx, h0, hs, hl => by
    exfalso
    exact nlt_of_le (hr x hl.symm) hx
  | y :: c, x, hq, hx, h0, hs, hl => by
    have hxy : Le x y := (List.pairwise_cons.mp hs).1 y (.head _)
    have gx := hg x (hq x (.head _))
    have gy := hg y (hq y (.tail _ (.head _)))
    have hl2 : (y :: c).getLast? = (l1 :: r).getLast? := by rw [List.getLast?_cons_cons] at hl; exact hl
    have ex : x.2 = l0.2 := by unfold Lt at hx; unfold Le at h0; omega
    by_cases hy : Lt y l1
    · have ih := side_up hE h01 outer hg hr c y (fun q h => hq q (.tail _ h)) hy (h0.trans hxy) (List.pairwise_cons.mp hs).2 hl2
      have ey : y.2 = l0.2 := by unfold Lt at hy; unfold Le at h0 hxy; omega
      have e1 : pS (x :: y :: c) = X2 x y + pS (y :: c) := rfl
      have e2 : X2 x y + X2 l0 x - X2 l0 y = 0 := by
        unfold X2
        rw [ex, ey]
        grind
      omega
    · have hy' := le_of_nlt hy
      have hs2 : (l1 :: y :: c).Pairwise Le := List.pairwise_cons.mpr ⟨fun z hz => by
        rcases List.mem_cons.mp hz with h | h
        · rw [h]
          exact hy'
        · exact hy'.trans ((List.pairwise_cons.mp (List.pairwise_cons.mp hs).2).1 z h), (List.pairwise_cons.mp hs).2⟩
      have ih := outer y c (fun q h => hq q (.tail _ h)) hs2 (by rw [List.getLast?_cons_cons]; exact hl2)
      have e1 : pS (x :: y :: c) = X2 x y + pS (y :: c) := rfl
      have e2 : pS (l1 :: y :: c) = X2 l1 y + pS (y :: c) := rfl
      have t := turn_at h01 hx hy' gx gy
      rw [cross_x2, x2_anti x y] at t
      have e3 : X2 x l1 + X2 l0 x - X2 l0 l1 = 0 := by
        unfold X2
        rw [ex, ← hE]
        grind
      omega
theorem path_le {Q : List Pt} : ∀ (L : List Pt) (l0 : Pt) (c : List Pt), EdgeOk (l0 :: L) Q → (∀ q ∈ L, q ∈ Q) → (∀ q ∈ l0 :: c, q ∈ Q) → (l0 :: c).Pairwise Le → (l0 :: c).getLast? = (l0 :: L).getLast? → pS (l0 :: c) ≤ pS (l0 :: L)
  | [], l0, c, _, _, _, hs, hl => by
    have e : pS (l0 :: c) = 0 := by
      refine pS_same fun x hx => ?_
      have h1 : Le l0 x := (List.pairwise_cons.mp hs).1 x hx
      have hlast : (l0 :: c).getLast? = some l0 := hl
      obtain ⟨ys, e⟩ := List.getLast?_eq_some_iff.mp hlast
      have h2 : Le x l0 := by
        have hs' := hs
        rw [e, List.pairwise_append] at hs'
        have hx' : x ∈ ys ++ [l0] := by
          rw [← e]
          exact .tail _ hx
        rcases List.mem_append.mp hx' with h | h
        · exact hs'.2.2 x h l0 (List.mem_singleton.mpr rfl)
        · rw [List.mem_singleton.mp h]
          exact Le.refl _
      exact h2.anti h1
    rw [e]
    exact Int.le_refl _
  | l1 :: r, l0, c, hE, hL, hq, hs, hl => by
    obtain ⟨h01, hg⟩ := hE.head
    have outer : ∀ (y : Pt) (c : List Pt), (∀ q ∈ y :: c, q ∈ Q) → (l1 :: y :: c).Pairwise Le → (l1 :: y :: c).getLast? = (l1 :: r).getLast? → pS (l1 :: y :: c) ≤ pS (l1 :: r) := fun y c h1 h2 h3 => path_le r l1 (y :: c) hE.tail (fun q hq => hL q (.tail _ hq)) (fun q hq => by
      rcases List.mem_cons.mp hq with h | h
      · rw [h]
        exact hL l1 (.head _)
      · exact h1 q h) h2 h3
    have hr : ∀ t, (l1 :: r).getLast? = some t → Le l1 t := fun t ht => hE.tail.last ht
    have hl' : (l0 :: c).getLast? = (l1 :: r).getLast? := by rw [hl, List.getLast?_cons_cons]
    have e : pS (l0 :: l1 :: r) = X2 l0 l1 + pS (l1 :: r) := rfl
    rw [e]
    have h2 : l0.2 ≤ l1.2 := by unfold Lt at h01; omega
    rcases Int.lt_or_eq_of_le h2 with h | h
    · have g := side_flat h h01 outer hg hr c l0 hq h01 (Le.refl _) hs hl'
      rw [Int.sub_self, Int.zero_mul, x2_self] at g
      rcases Int.lt_or_le (X2 l0 l1 + pS (l1 :: r)) (pS (l0 :: c)) with z | z
      · have := Int.mul_pos (show 0 < l1.2 - l0.2 by omega) (show 0 < pS (l0 :: c) + 0 - (X2 l0 l1 + pS (l1 :: r)) by omega)
        omega
      · exact z
    · have g := side_up h h01 outer hg hr c l0 hq h01 (Le.refl _) hs hl'
      rw [x2_self] at g
      omega
/-- more points, a lower chain that is no less -/
theorem low_more {L L' Q Q' : List Pt} {b t b' t' : Pt} (l : Low L Q) (l' : Low L' Q') (sub : ∀ q ∈ Q, q ∈ Q') (h0 : L[0]? = some b) (h1 : L[L.length - 1]? = some t) (h0' : L'[0]? = some b') (h1' : L'[L'.length - 1]? = some t') : X2 b' b + pS L + X2 t t' ≤ pS L' := by
  have mb : b ∈ Q := l.sub b (List.mem_of_getElem? h0)
  have mt : t ∈ Q := l.sub t (List.mem_of_getElem? h1)
  have mb' : b' ∈ Q' := l'.sub b' (List.mem_of_getElem? h0')
  have mt' : t' ∈ Q' := l'.sub t' (List.mem_of_getElem? h1')
  obtain ⟨u, e1, e2⟩ := l'.fst
  rw [h0'] at e1
  cases e1
  obtain ⟨v, e3, e4⟩ := l'.lst
  have e3' := last_at e3
  rw [h1'] at e3'
  cases e3'
  have hE : EdgeOk L' Q' := fun x y n => by
    obtain ⟨i, k1, k2⟩ := n
    exact ⟨asc_lt l'.asc k1 k2 (by omega), fun q hq => (l'.edg x y ⟨i, k1, k2⟩ q hq).1⟩
  cases L' with
  | nil => simp at h0'
  | cons x r' =>
    have ex : x = b' := Option.some.inj h0'
    subst ex
    cases L with
    | nil => simp at h0
    | cons y r =>
      have ey : y = b := Option.some.inj h0
      subst ey
      have hs : (x :: (y :: r ++ [t'])).Pairwise Le := by
        refine List.pairwise_cons.mpr ⟨fun z hz => ?_, ?_⟩
        · rcases List.mem_append.mp hz with h | h
          · exact e2 z (sub z (l.sub z h))
          · rw [List.mem_singleton.mp h]
            exact e2 t' mt'
        · rw [List.pairwise_append]
          exact ⟨l.asc.imp fun h => h.le, List.pairwise_singleton _ _, fun z hz w hw => by
            rw [List.mem_singleton.mp hw]
            exact e4 z (sub z (l.sub z hz))⟩
      have g := path_le (Q := Q') r' x (y :: r ++ [t']) hE (fun q hq => l'.sub q (.tail _ hq)) (fun q hq => by
        rcases List.mem_cons.mp hq with h | h
        · rw [h]
          exact mb'
        · rcases List.mem_append.mp h with h | h
          · exact sub q (l.sub q h)
          · rw [List.mem_singleton.mp h]
            exact mt') hs (by
        rw [e3, show x :: (y :: r ++ [t']) = (x :: (y :: r)) ++ [t'] from rfl, List.getLast?_concat])
      have e5 : pS (x :: (y :: r ++ [t'])) = X2 x y + pS (y :: r ++ [t']) := rfl
      have eL := dropLast_snoc h1
      have e6 : pS (y :: r ++ [t']) = pS (y :: r) + X2 t t' := by
        have e7 : y :: r ++ [t'] = (y :: r).dropLast ++ t :: [t'] := by
          conv => lhs; rw [eL]
          rw [List.append_assoc]
          rfl
        rw [e7, pS_app, ← eL]
        show _ + (X2 t t' + 0) = _
        omega
      omega
theorem Upp.ng {C Q : List Pt} (u : Upp C Q) : Low (C.map K81.ng) (Q.map K81.ng) := by
  have at_ : ∀ {i : Nat} {a : Pt}, (C.map K81.ng)[i]? = some a → C[i]? = some (K81.ng a) := fun {i a} h => by
    rw [List.getElem?_map] at h
    obtain ⟨x, h1, rfl⟩ := Option.map_eq_some_iff.mp h
    rw [ng_ng]
    exact h1
  refine ⟨fun x hx => ?_, ?_, ?_, ?_, ?_, ?_⟩
  · obtain ⟨y, hy, rfl⟩ := List.mem_map.mp hx
    exact List.mem_map.mpr ⟨y, u.sub y hy, rfl⟩
  · unfold Asc
    rw [List.pairwise_map]
    exact u.dec.imp fun h => lt_ng.mpr h
  · obtain ⟨t, h1, h2⟩ := u.fst
    refine ⟨K81.ng t, by rw [List.getElem?_map, h1]; rfl, fun q hq => ?_⟩
    obtain ⟨y, hy, rfl⟩ := List.mem_map.mp hq
    exact le_ng.mpr (h2 y hy)
  · obtain ⟨t, h1, h2⟩ := u.lst
    refine ⟨K81.ng t, by rw [List.getLast?_map, h1]; rfl, fun q hq => ?_⟩
    obtain ⟨y, hy, rfl⟩ := List.mem_map.mp hq
    exact le_ng.mpr (h2 y hy)
  · rintro a b ⟨i, h1, h2⟩ q hq
    obtain ⟨y, hy, rfl⟩ := List.mem_map.mp hq
    have g := u.edg _ _ ⟨i, at_ h1, at_ h2⟩ y hy
    have e : cross (K81.ng a) (K81.ng b) y = cross a b (K81.ng y) := by
      rw [← cross_ng, ng_ng, ng_ng]
    rw [e] at g
    refine ⟨g.1, fun z => ?_⟩
    have g2 := g.2 z
    exact ⟨(le_ng (a := K81.ng y) (b := a)).mp (by rw [ng_ng]; exact g2.2), (le_ng (a := b) (b := K81.ng y)).mp (by rw [ng_ng]; exact g2.1)⟩
  · intro i a b c h1 h2 h3
    have g := u.cvx i _ _ _ (at_ h1) (at_ h2) (at_ h3)
    rw [cross_ng] at g
    exact g
theorem x2_ng (p q : Pt) : X2 (ng p) (ng q) = X2 p q := by
  unfold X2 ng
  dsimp only
  grind
theorem area_more {ps more : List Pt} (h : ¬ (hullL ps).length < 3) : area2 (hullL ps) ≤ area2 (hullL (ps ++ more)) := by
  have hne := ne_of_hull h
  have hne' : ps ++ more ≠ [] := fun z => hne (List.append_eq_nil_iff.mp z).1
  obtain ⟨b, t, T⟩ := hull_two hne
  obtain ⟨b', t', T'⟩ := hull_two hne'
  have sub : ∀ q ∈ ordd ps, q ∈ ordd (ps ++ more) := fun q hq => mem_ordd.mpr (List.mem_append_left _ (mem_ordd.mp hq))
  have hbt : b ≠ t := by
    intro e
    obtain ⟨h1, h2⟩ := T.one e
    have hn : (hullL ps).length = _ := join_len (chain (ordd ps)) (chain (ordd ps).reverse)
    omega
  have hbt' : b' ≠ t' := by
    intro e
    have mb := sub b (T.low.sub b (List.mem_of_getElem? T.l0))
    have mt := sub t (T.low.sub t (List.mem_of_getElem? T.l1))
    have e1 : b = b' := (e ▸ T'.mx b mb : Le b b').anti (T'.mn b mb)
    have e2 : t = b' := (e ▸ T'.mx t mt : Le t b').anti (T'.mn t mt)
    exact hbt (e1.trans e2.symm)
  have a1 : area2 (hullL ps) = _ := join_area T hbt
  have a2 : area2 (hullL (ps ++ more)) = _ := join_area T' hbt'
  have g1 := low_more T.low T'.low sub T.l0 T.l1 T'.l0 T'.l1
  have at_ : ∀ {C : List Pt} {i : Nat} {a : Pt}, C[i]? = some a → (C.map ng)[i]? = some (ng a) := fun h => by rw [List.getElem?_map, h]; rfl
  have g2 := low_more T.upp.ng T'.upp.ng (fun q hq => by
    obtain ⟨y, hy, rfl⟩ := List.mem_map.mp hq
    exact List.mem_map.mpr ⟨y, sub y hy, rfl⟩) (at_ T.u0) (by rw [List.length_map]; exact at_ T.u1) (at_ T'.u0) (by rw [List.length_map]; exact at_ T'.u1)
  rw [pS_ng, pS_ng, x2_ng, x2_ng] at g2
  rw [a1, a2]
  rw [x2_anti t t', x2_anti b' b] at g2
  omega
theorem wide {ps more : List Pt} (h : ¬ (hullL ps).length < 3) : ¬ (hullL (ps ++ more)).length < 3 := by
  have hne := ne_of_hull h
  have hne' : ps ++ more ≠ [] := fun z => hne (List.append_eq_nil_iff.mp z).1
  rw [none_iff hne'] 
  rw [none_iff hne] at h
  intro z
  refine h fun a ha b hb => ?_
  have e : nth (ps ++ more) 0 = nth ps 0 := nth_app (List.length_pos_iff.mpr hne)
  rw [← e]
  exact z a (List.mem_append_left _ ha) b (List.mem_append_left _ hb)
end K81
set_option maxHeartbeats 0
namespace K81
open Dt
/-! ### identities -/
theorem id_on1 (a b p q z : Pt) : (b.1 - a.1) * cross p q z = (b.1 - z.1) * cross p q a + (z.1 - a.1) * cross p q b - (q.1 - p.1) * (cross a b z * -1) * -1 * -1 := by unfold cross; grind
theorem id_on2 (a b p q z : Pt) : (b.2 - a.2) * cross p q z = (b.2 - z.2) * cross p q a + (z.2 - a.2) * cross p q b + (q.2 - p.2) * cross a b z := by unfold cross; grind
theorem id_tri (a b q0 q1 q2 z : Pt) : cross q0 q1 q2 * cross a b z = cross q1 q2 z * cross a b q0 - cross q0 q2 z * cross a b q1 + cross q0 q1 z * cross a b q2 := by unfold cross; grind
theorem id_top (m0 m m1 z : Pt) : cross m0 m m1 * (z.1 - m.1) = -(cross m m1 z * (m.1 - m0.1)) + cross m0 m z * (m1.1 - m.1) := by unfold cross; grind
theorem id_alt (a b c d z : Pt) : cross b c d * (a.1 - z.1) - cross a c d * (b.1 - z.1) + cross a b d * (c.1 - z.1) - cross a b c * (d.1 - z.1) = 0 := by unfold cross; grind
theorem id_e1 (r a b z : Pt) : cross r a b * (z.1 - a.1) = cross r a z * (b.1 - a.1) - cross a b z * (a.1 - r.1) := by unfold cross; grind
theorem id_e2 (r a b z : Pt) : cross r a b * (z.2 - a.2) = cross r a z * (b.2 - a.2) - cross a b z * (a.2 - r.2) := by unfold cross; grind
theorem id_f1 (n a b z : Pt) : cross b n a * (z.1 - b.1) = cross b n z * (a.1 - b.1) + cross a b z * (n.1 - b.1) := by unfold cross; grind
theorem id_f2 (n a b z : Pt) : cross b n a * (z.2 - b.2) = cross b n z * (a.2 - b.2) + cross a b z * (n.2 - b.2) := by unfold cross; grind
theorem id_k (p q r s z : Pt) : (q.1 - z.1) * cross r s p - (p.1 - z.1) * cross r s q = cross p q z * (r.1 - s.1) + cross r s z * (q.1 - p.1) := by unfold cross; grind
theorem id_h1 (p q r s z : Pt) : (cross p q z * (r.1 - s.1) + cross r s z * (q.1 - p.1)) * z.1 = cross r s z * ((q.1 - z.1) * p.1 - (p.1 - z.1) * q.1) + cross p q z * ((r.1 - z.1) * s.1 - (s.1 - z.1) * r.1) := by unfold cross; grind
theorem id_h2 (p q r s z : Pt) : (cross p q z * (r.1 - s.1) + cross r s z * (q.1 - p.1)) * z.2 = cross r s z * ((q.1 - z.1) * p.2 - (p.1 - z.1) * q.2) + cross p q z * ((r.1 - z.1) * s.2 - (s.1 - z.1) * r.2) := by unfold cross; grind
theorem id_h (a b p q r s z : Pt) : (cross p q z * (r.1 - s.1) + cross r s z * (q.1 - p.1)) * cross a b z = cross r s z * ((q.1 - z.1) * cross a b p - (p.1 - z.1) * cross a b q) + cross p q z * ((r.1 - z.1) * cross a b s - (s.1 - z.1) * cross a b r) := by
  have h1 := id_h1 p q r s z
  have h2 := id_h2 p q r s z
  generalize cross p q z = x at *
  generalize cross r s z = y at *
  unfold cross
  grind
end K81
set_option maxHeartbeats 0
namespace K81
open Dt
/-! ### in a polygon -/
def In (h : List Pt) (z : Pt) : Prop := ∀ i, i < h.length → 0 ≤ cross (nth h i) (nth h ((i + 1) % h.length)) z
theorem np_mul {a b : Int} (ha : 0 ≤ a) (hb : b ≤ 0) : a * b ≤ 0 := by
  have := Int.mul_nonneg ha (show 0 ≤ -b by omega)
  rw [Int.mul_neg] at this
  omega
theorem np_of_mul {a b : Int} (ha : 0 < a) (h : a * b ≤ 0) : b ≤ 0 := by
  have : 0 ≤ a * -b := by rw [Int.mul_neg]; omega
  have := nn_of_mul ha this
  omega
/-- what lies on the left of a line, corner by corner, does so as a whole -/
theorem fan_left {Q : List Pt} (T : Tri Q) (h3 : 3 ≤ Q.length) {z a b : Pt} (hz : In Q z) (hl : ∀ i, i < Q.length → 0 ≤ cross a b (nth Q i)) : 0 ≤ cross a b z := by
  have e0 : 0 ≤ cross (nth Q 0) (nth Q 1) z := by
    have := hz 0 (by omega)
    rw [Nat.mod_eq_of_lt (by omega)] at this
    exact this
  have en : cross (nth Q 0) (nth Q (Q.length - 1)) z ≤ 0 := by
    have := hz (Q.length - 1) (by omega)
    rw [show Q.length - 1 + 1 = Q.length by omega, Nat.mod_self, cross_swap] at this
    omega
  have go : ∀ m, 1 ≤ m → m < Q.length → (∃ i, 1 ≤ i ∧ i + 1 < Q.length ∧ 0 ≤ cross (nth Q 0) (nth Q i) z ∧ cross (nth Q 0) (nth Q (i + 1)) z ≤ 0) ∨ 0 ≤ cross (nth Q 0) (nth Q m) z := by
    intro m
    induction m with
    | zero => intro h; omega
    | succ m ih =>
      intro h1 h2
      by_cases e : m = 0
      · subst e
        exact .inr e0
      · rcases ih (by omega) (by omega) with h | h
        · exact .inl h
        · rcases Int.le_total (cross (nth Q 0) (nth Q (m + 1)) z) 0 with g | g
          · exact .inl ⟨m, by omega, h2, h, g⟩
          · exact .inr g
  have : ∃ i, 1 ≤ i ∧ i + 1 < Q.length ∧ 0 ≤ cross (nth Q 0) (nth Q i) z ∧ cross (nth Q 0) (nth Q (i + 1)) z ≤ 0 := by
    rcases go (Q.length - 2) (by omega) (by omega) with h | h
    · exact h
    · exact ⟨Q.length - 2, by omega, by omega, h, by rw [show Q.length - 2 + 1 = Q.length - 1 by omega]; exact en⟩
  obtain ⟨i, i1, i2, g1, g2⟩ := this
  have t := T 0 i (i + 1) (by omega) (by omega) i2
  have g3 := hz i (by omega)
  rw [Nat.mod_eq_of_lt i2] at g3
  refine nn_of_mul t ?_
  rw [id_tri]
  have m1 := Int.mul_nonneg g3 (hl 0 (by omega))
  have m2 := Int.mul_nonneg (show 0 ≤ -(cross (nth Q 0) (nth Q (i + 1)) z) by omega) (hl i (by omega))
  have m3 := Int.mul_nonneg g1 (hl (i + 1) i2)
  rw [Int.neg_mul] at m2
  omega
/-! ### on a side -/
theorem isOn_iff {a b z : Pt} : isOn a b z = true ↔ cross a b z = 0 ∧ ((a.1 ≤ z.1 ∧ z.1 ≤ b.1) ∨ (b.1 ≤ z.1 ∧ z.1 ≤ a.1)) ∧ ((a.2 ≤ z.2 ∧ z.2 ≤ b.2) ∨ (b.2 ≤ z.2 ∧ z.2 ≤ a.2)) := by
  constructor
  · intro h
    by_cases c : cross a b z = 0
    · rw [isOn_eq c] at h
      simp only [Bool.and_eq_true, decide_eq_true_eq] at h
      unfold mn mx at h
      refine ⟨c, ?_, ?_⟩
      · by_cases q : b.1 < a.1
        · rw [if_pos q, if_neg (by omega)] at h
          omega
        · rw [if_neg q] at h
          by_cases q2 : b.1 > a.1
          · rw [if_pos q2] at h
            omega
          · rw [if_neg q2] at h
            omega
      · by_cases q : b.2 < a.2
        · have q3 : ¬ b.2 > a.2 := by omega
          rw [if_pos q, if_neg q3] at h
          omega
        · have h2 := h.2
          rw [if_neg q] at h2
          by_cases q2 : b.2 > a.2
          · rw [if_pos q2] at h2
            omega
          · rw [if_neg q2] at h2
            omega
    · rw [isOn_ne c] at h
      cases h
  · rintro ⟨c, h1, h2⟩
    rw [isOn_eq c]
    simp only [Bool.and_eq_true, decide_eq_true_eq]
    unfold mn mx
    refine ⟨⟨?_, ?_⟩, ?_, ?_⟩ <;> split <;> omega
theorem on_left {a b p q z : Pt} (hab : a ≠ b) (h : isOn a b z = true) (ha : 0 ≤ cross p q a) (hb : 0 ≤ cross p q b) : 0 ≤ cross p q z := by
  obtain ⟨c, h1, h2⟩ := isOn_iff.mp h
  have i1 := id_on1 a b p q z
  have i2 := id_on2 a b p q z
  rw [c] at i1 i2
  simp only [Int.zero_mul, Int.mul_zero, Int.sub_zero, Int.add_zero] at i1 i2
  have n : a.1 ≠ b.1 ∨ a.2 ≠ b.2 := by
    by_cases e1 : a.1 = b.1
    · right
      intro e2
      exact hab (Prod.ext e1 e2)
    · exact .inl e1
  have key : ∀ {x y w : Int}, x ≠ y → ((x ≤ w ∧ w ≤ y) ∨ (y ≤ w ∧ w ≤ x)) → (y - x) * cross p q z = (y - w) * cross p q a + (w - x) * cross p q b → 0 ≤ cross p q z := by
    intro x y w hxy hw e
    rcases Int.lt_or_gt_of_ne hxy with g | g
    · refine nn_of_mul (show 0 < y - x by omega) ?_
      rw [e]
      have := Int.mul_nonneg (show 0 ≤ y - w by omega) ha
      have := Int.mul_nonneg (show 0 ≤ w - x by omega) hb
      omega
    · refine nn_of_mul (show 0 < x - y by omega) ?_
      have e' : (x - y) * cross p q z = (w - y) * cross p q a + (x - w) * cross p q b := by
        have : (x - y) * cross p q z = -((y - x) * cross p q z) := by rw [← Int.neg_mul]; congr 1; omega
        rw [this, e]
        have a1 : (w - y) * cross p q a = -((y - w) * cross p q a) := by rw [← Int.neg_mul]; congr 1; omega
        have a2 : (x - w) * cross p q b = -((w - x) * cross p q b) := by rw [← Int.neg_mul]; congr 1; omega
        rw [a1, a2]
        omega
      rw [e']
      have := Int.mul_nonneg (show 0 ≤ w - y by omega) ha
      have := Int.mul_nonneg (show 0 ≤ x - w by omega) hb
      omega
  rcases n with n | n
  · refine key n h1 ?_
    rw [i1]
  · exact key n h2 i2
/-- on the line of a side, and not right of the next two: on the side -/
theorem on_of {r a b n z : Pt} (c : cross a b z = 0) (g1 : 0 ≤ cross r a z) (g2 : 0 ≤ cross b n z) (p1 : 0 < cross r a b) (p2 : 0 < cross b n a) : isOn a b z = true := by
  have e1 := id_e1 r a b z
  have e2 := id_e2 r a b z
  have f1 := id_f1 n a b z
  have f2 := id_f2 n a b z
  rw [c, Int.zero_mul] at e1 e2 f1 f2
  rw [Int.sub_zero] at e1 e2
  rw [Int.add_zero] at f1 f2
  have key : ∀ {x y w : Int}, cross r a b * (w - x) = cross r a z * (y - x) → cross b n a * (w - y) = cross b n z * (x - y) → (x ≤ w ∧ w ≤ y) ∨ (y ≤ w ∧ w ≤ x) := by
    intro x y w k1 k2
    rcases Int.le_total x y with g | g
    · have a1 := Int.mul_nonneg g1 (show 0 ≤ y - x by omega)
      have a2 := np_mul g2 (show x - y ≤ 0 by omega)
      have b1 := nn_of_mul p1 (show 0 ≤ cross r a b * (w - x) by omega)
      have b2 := np_of_mul p2 (show cross b n a * (w - y) ≤ 0 by omega)
      omega
    · have a1 := np_mul g1 (show y - x ≤ 0 by omega)
      have a2 := Int.mul_nonneg g2 (show 0 ≤ x - y by omega)
      have b1 := np_of_mul p1 (show cross r a b * (w - x) ≤ 0 by omega)
      have b2 := nn_of_mul p2 (show 0 ≤ cross b n a * (w - y) by omega)
      omega
  exact isOn_iff.mpr ⟨c, key e1 f1, key e2 f2⟩
/-! ### the walk around -/
theorem next_ne {n i : Nat} (hi : i < n) (h3 : 3 ≤ n) : (i + 1) % n ≠ i ∧ ((i + 1) % n + 1) % n ≠ i ∧ ((i + 1) % n + 1) % n ≠ (i + 1) % n := by
  rcases Nat.lt_or_ge (i + 1) n with q | q
  · rw [Nat.mod_eq_of_lt q]
    rcases Nat.lt_or_ge (i + 1 + 1) n with q2 | q2
    · rw [Nat.mod_eq_of_lt q2]
      omega
    · have e : i + 1 + 1 = n := by omega
      rw [e, Nat.mod_self]
      omega
  · have e : i + 1 = n := by omega
    rw [e, Nat.mod_self, Nat.mod_eq_of_lt (by omega)]
    omega
def prev (n i : Nat) : Nat := if i = 0 then n - 1 else i - 1
theorem prev_next {n i : Nat} (hi : i < n) : prev n i < n ∧ (prev n i + 1) % n = i := by
  unfold prev
  by_cases e : i = 0
  · rw [if_pos e, show n - 1 + 1 = n by omega, Nat.mod_self]
    omega
  · rw [if_neg e, show i - 1 + 1 = i by omega, Nat.mod_eq_of_lt hi]
    omega
section
variable {h : List Pt} {z : Pt}
theorem in_on (T : Tri h) (h3 : 3 ≤ h.length) (hz : In h z) {i : Nat} (hi : i < h.length) (c : cross (nth h i) (nth h ((i + 1) % h.length)) z = 0) : isOn (nth h i) (nth h ((i + 1) % h.length)) z = true := by
  have S := T.str h3
  obtain ⟨r1, r2⟩ := prev_next hi
  have hm := Nat.mod_lt (i + 1) (show 0 < h.length by omega)
  obtain ⟨n1, n2, n3⟩ := next_ne hi h3
  have nr := next_ne r1 h3
  rw [r2] at nr
  have g1 := hz _ r1
  rw [r2] at g1
  have g2 := hz _ hm
  have p1 := S (prev h.length i) ((i + 1) % h.length) r1 hm nr.2.1 (by rw [r2]; exact n1)
  rw [r2] at p1
  have p2 := S ((i + 1) % h.length) i hm hi (fun e => n1 e.symm) (fun e => n2 e.symm)
  exact on_of c g1 g2 p1 p2
theorem on_in (T : Tri h) (h3 : 3 ≤ h.length) {i : Nat} (hi : i < h.length) (o : isOn (nth h i) (nth h ((i + 1) % h.length)) z = true) : In h z := by
  intro j hj
  have S := T.str h3
  have hm := Nat.mod_lt (i + 1) (show 0 < h.length by omega)
  have nn : ∀ k, k < h.length → 0 ≤ cross (nth h j) (nth h ((j + 1) % h.length)) (nth h k) := by
    intro k hk
    by_cases e1 : k = j
    · rw [e1, cross_self3]
      exact Int.le_refl _
    · by_cases e2 : k = (j + 1) % h.length
      · rw [e2, cross_self2]
        exact Int.le_refl _
      · exact Int.le_of_lt (S j k hj hk e1 e2)
  have ne : nth h i ≠ nth h ((i + 1) % h.length) := by
    obtain ⟨n1, _⟩ := next_ne hi h3
    rcases Nat.lt_or_gt_of_ne n1 with q | q
    · exact fun e => T.ne h3 hm hi q e.symm
    · exact T.ne h3 hi hm q
  exact on_left ne o (nn i hi) (nn _ hm)
/-! ### signs around -/
def sg (h : List Pt) (z : Pt) (i : Nat) : Bool := decide (z.1 < (nth h i).1)
theorem alt1 (T : Tri h) {i j k l : Nat} (hij : i < j) (hjk : j < k) (hkl : k < l) (hl : l < h.length) : ¬ (sg h z i = true ∧ sg h z j = false ∧ sg h z k = true ∧ sg h z l = false) := by
  rintro ⟨a, b, c, d⟩
  unfold sg at a b c d
  rw [decide_eq_true_eq] at a c
  rw [decide_eq_false_iff_not] at b d
  have e := id_alt (nth h i) (nth h j) (nth h k) (nth h l) z
  have m1 := Int.mul_pos (T j k l hjk hkl hl) (show 0 < (nth h i).1 - z.1 by omega)
  have m2 := np_mul (Int.le_of_lt (T i k l (by omega) hkl hl)) (show (nth h j).1 - z.1 ≤ 0 by omega)
  have m3 := Int.mul_pos (T i j l hij (by omega) hl) (show 0 < (nth h k).1 - z.1 by omega)
  have m4 := np_mul (Int.le_of_lt (T i j k hij hjk (by omega))) (show (nth h l).1 - z.1 ≤ 0 by omega)
  omega
theorem alt2 (T : Tri h) {i j k l : Nat} (hij : i < j) (hjk : j < k) (hkl : k < l) (hl : l < h.length) : ¬ (sg h z i = false ∧ sg h z j = true ∧ sg h z k = false ∧ sg h z l = true) := by
  rintro ⟨a, b, c, d⟩
  unfold sg at a b c d
  rw [decide_eq_true_eq] at b d
  rw [decide_eq_false_iff_not] at a c
  have e := id_alt (nth h i) (nth h j) (nth h k) (nth h l) z
  have m1 := np_mul (Int.le_of_lt (T j k l hjk hkl hl)) (show (nth h i).1 - z.1 ≤ 0 by omega)
  have m2 := Int.mul_pos (T i k l (by omega) hkl hl) (show 0 < (nth h j).1 - z.1 by omega)
  have m3 := np_mul (Int.le_of_lt (T i j l hij (by omega) hl)) (show (nth h k).1 - z.1 ≤ 0 by omega)
  have m4 := Int.mul_pos (T i j k hij hjk (by omega)) (show 0 < (nth h l).1 - z.1 by omega)
  omega
def up (h : List Pt) (z : Pt) (i : Nat) : Prop := sg h z i = false ∧ sg h z ((i + 1) % h.length) = true
def dn (h : List Pt) (z : Pt) (i : Nat) : Prop := sg h z i = true ∧ sg h z ((i + 1) % h.length) = false
theorem bf {b : Bool} (h : b = true) (g : b = false) : False := by rw [h] at g; cases g
theorem up_one (T : Tri h) {i j : Nat} (hij : i < j) (hj : j < h.length) (hu : up h z i) (hv : up h z j) : False := by
  obtain ⟨a1, a2⟩ := hu
  obtain ⟨b1, b2⟩ := hv
  rw [Nat.mod_eq_of_lt (show i + 1 < h.length by omega)] at a2
  have n : i + 1 ≠ j := fun e => bf (e ▸ a2) b1
  rcases Nat.lt_or_ge (j + 1) h.length with q | q
  · rw [Nat.mod_eq_of_lt q] at b2
    exact alt2 T (z := z) (show i < i + 1 by omega) (show i + 1 < j by omega) (show j < j + 1 by omega) q ⟨a1, a2, b1, b2⟩
  · have e : j + 1 = h.length := by omega
    rw [e, Nat.mod_self] at b2
    have n0 : i ≠ 0 := fun e => bf b2 (e ▸ a1)
    exact alt1 T (z := z) (show 0 < i by omega) (show i < i + 1 by omega) (show i + 1 < j by omega) hj ⟨b2, a1, a2, b1⟩
theorem dn_one (T : Tri h) {i j : Nat} (hij : i < j) (hj : j < h.length) (hu : dn h z i) (hv : dn h z j) : False := by
  obtain ⟨a1, a2⟩ := hu
  obtain ⟨b1, b2⟩ := hv
  rw [Nat.mod_eq_of_lt (show i + 1 < h.length by omega)] at a2
  have n : i + 1 ≠ j := fun e => bf b1 (e ▸ a2)
  rcases Nat.lt_or_ge (j + 1) h.length with q | q
  · rw [Nat.mod_eq_of_lt q] at b2
    exact alt1 T (z := z) (show i < i + 1 by omega) (show i + 1 < j by omega) (show j < j + 1 by omega) q ⟨a1, a2, b1, b2⟩
  · have e : j + 1 = h.length := by omega
    rw [e, Nat.mod_self] at b2
    have n0 : i ≠ 0 := fun e => bf (e ▸ a1) b2
    exact alt2 T (z := z) (show 0 < i by omega) (show i < i + 1 by omega) (show i + 1 < j by omega) hj ⟨b2, a1, a2, b1⟩
theorem around {s : Nat → Bool} {n : Nat} {b : Bool} (hs : ∀ i, i < n → s i = b → s ((i + 1) % n) = b) {i j : Nat} (hi : i < n) (hj : j < n) (h : s i = b) : s j = b := by
  have go : ∀ m, s ((i + m) % n) = b := by
    intro m
    induction m with
    | zero =>
      rw [Nat.add_zero, Nat.mod_eq_of_lt hi]
      exact h
    | succ m ih =>
      have := hs ((i + m) % n) (Nat.mod_lt _ (by omega)) ih
      rw [Nat.mod_add_mod] at this
      exact this
  have e : (i + (j + n - i)) % n = j := by
    rw [show i + (j + n - i) = j + n by omega, Nat.add_mod_right, Nat.mod_eq_of_lt hj]
  rw [← e]
  exact go _
theorem ex_up {i j : Nat} (hi : i < h.length) (hj : j < h.length) (h1 : sg h z i = false) (h2 : sg h z j = true) : ∃ u, u < h.length ∧ up h z u := by
  apply Classical.byContradiction
  intro hn
  refine bf h2 (around (s := sg h z) (b := false) (fun k hk e => ?_) hi hj h1)
  cases g : sg h z ((k + 1) % h.length) with
  | false => rfl
  | true => exact absurd ⟨k, hk, e, g⟩ hn
theorem ex_dn {i j : Nat} (hi : i < h.length) (hj : j < h.length) (h1 : sg h z i = true) (h2 : sg h z j = false) : ∃ u, u < h.length ∧ dn h z u := by
  apply Classical.byContradiction
  intro hn
  refine bf (around (s := sg h z) (b := true) (fun k hk e => ?_) hi hj h1) h2
  cases g : sg h z ((k + 1) % h.length) with
  | true => rfl
  | false => exact absurd ⟨k, hk, e, g⟩ hn
end
/-! ### the parity -/
def tog (z : Pt) (s : Pt × Pt) : Bool := (decide (z.1 < s.1.1) != decide (z.1 < s.2.1)) && (decide (0 < cross s.1 s.2 z) == decide (s.1.1 < s.2.1))
def par (z : Pt) : List (Pt × Pt) → Bool
  | [] => false
  | s :: r => tog z s ^^ par z r
theorem go_on {z : Pt} : ∀ {ss : List (Pt × Pt)} {b : Bool}, (∃ s ∈ ss, isOn s.1 s.2 z = true) → whereGo z ss b = "edge"
  | [], _, h => by
    obtain ⟨s, hs, _⟩ := h
    cases hs
  | s :: r, b, h => by
    unfold whereGo
    by_cases e : isOn s.1 s.2 z = true
    · rw [if_pos e]
    · rw [if_neg e]
      have : ∃ s ∈ r, isOn s.1 s.2 z = true := by
        obtain ⟨s', hs, h'⟩ := h
        rcases List.mem_cons.mp hs with q | q
        · rw [q] at h'
          exact absurd h' e
        · exact ⟨s', q, h'⟩
      split <;> exact go_on this
theorem go_par {z : Pt} : ∀ {ss : List (Pt × Pt)} {b : Bool}, (∀ s ∈ ss, isOn s.1 s.2 z = false) → whereGo z ss b = (if (b ^^ par z ss) = true then ("inside" : PySem.Str) else ("outside" : PySem.Str))
  | [], b, _ => by
    unfold whereGo par
    rw [Bool.xor_false]
  | s :: r, b, h => by
    have e := h s (.head _)
    unfold whereGo
    rw [if_neg (by rw [e]; exact Bool.false_ne_true)]
    show (if tog z s = true then _ else _) = _
    have ih := fun b => go_par (ss := r) (b := b) (fun s' hs => h s' (.tail _ hs))
    unfold par
    cases g : tog z s with
    | true =>
      rw [if_pos rfl, ih]
      cases b <;> cases par z r <;> rfl
    | false =>
      rw [if_neg Bool.false_ne_true, ih]
      cases b <;> cases par z r <;> rfl
def parN (f : Nat → Bool) : Nat → Bool
  | 0 => false
  | n + 1 => parN f n ^^ f n
theorem par_app (z : Pt) : ∀ (l r : List (Pt × Pt)), par z (l ++ r) = (par z l ^^ par z r)
  | [], r => by
    show par z r = (false ^^ par z r)
    rw [Bool.false_xor]
  | s :: l, r => by
    show (tog z s ^^ par z (l ++ r)) = ((tog z s ^^ par z l) ^^ par z r)
    rw [par_app z l r, Bool.xor_assoc]
theorem par_range (z : Pt) (g : Nat → Pt × Pt) : ∀ n, par z ((List.range n).map g) = parN (fun i => tog z (g i)) n
  | 0 => rfl
  | n + 1 => by
    rw [List.range_succ, List.map_append, par_app, par_range z g n]
    show (_ ^^ (tog z (g n) ^^ false)) = _
    rw [Bool.xor_false]
    rfl
theorem parN_0 {f : Nat → Bool} : ∀ {n : Nat}, (∀ i, i < n → f i = false) → parN f n = false
  | 0, _ => rfl
  | n + 1, h => by
    show (parN f n ^^ f n) = false
    rw [parN_0 fun i hi => h i (by omega), h n (by omega)]
    rfl
theorem parN_1 {f : Nat → Bool} {u : Nat} : ∀ {n : Nat}, u < n → (∀ i, i < n → i ≠ u → f i = false) → parN f n = f u
  | 0, h, _ => by omega
  | n + 1, hu, h => by
    show (parN f n ^^ f n) = f u
    by_cases e : u = n
    · subst e
      rw [parN_0 fun i hi => h i (by omega) (by omega), Bool.false_xor]
    · rw [parN_1 (by omega) fun i hi hn => h i (by omega) hn, h n (by omega) (fun z => e z.symm), Bool.xor_false]
theorem parN_2 {f : Nat → Bool} {u d : Nat} (hud : u ≠ d) : ∀ {n : Nat}, u < n → d < n → (∀ i, i < n → i ≠ u → i ≠ d → f i = false) → parN f n = (f u ^^ f d)
  | 0, h, _, _ => by omega
  | n + 1, hu, hd, h => by
    show (parN f n ^^ f n) = _
    by_cases e : u = n
    · subst e
      rw [parN_1 (u := d) (by omega) fun i hi hn => h i (by omega) (by omega) hn, Bool.xor_comm]
    · by_cases e2 : d = n
      · subst e2
        rw [parN_1 (u := u) (by omega) fun i hi hn => h i (by omega) hn (by omega)]
      · rw [parN_2 hud (by omega) (by omega) fun i hi h1 h2 => h i (by omega) h1 h2, h n (by omega) (fun z => e z.symm) (fun z => e2 z.symm), Bool.xor_false]
end K81
set_option maxHeartbeats 0
namespace K81
open Dt
theorem n_eo : ("edge" : PySem.Str) ≠ ("outside" : PySem.Str) := by decide +kernel
theorem n_ei : ("edge" : PySem.Str) ≠ ("inside" : PySem.Str) := by decide +kernel
theorem n_io : ("inside" : PySem.Str) ≠ ("outside" : PySem.Str) := by decide +kernel
abbrev sde (h : List Pt) (i : Nat) : Pt × Pt := (nth h i, nth h ((i + 1) % h.length))
section
variable {h : List Pt} {z : Pt}
theorem tog_up {i : Nat} (u : up h z i) : tog z (sde h i) = decide (0 < cross (nth h i) (nth h ((i + 1) % h.length)) z) := by
  obtain ⟨a, b⟩ := u
  unfold sg at a b
  unfold tog
  rw [decide_eq_false_iff_not] at a
  rw [decide_eq_true_eq] at b
  dsimp only
  rw [decide_eq_false a, decide_eq_true b, decide_eq_true (show (nth h i).1 < (nth h ((i + 1) % h.length)).1 by omega)]
  cases decide (0 < cross (nth h i) (nth h ((i + 1) % h.length)) z) <;> rfl
theorem tog_dn {i : Nat} (u : dn h z i) : tog z (sde h i) = !decide (0 < cross (nth h i) (nth h ((i + 1) % h.length)) z) := by
  obtain ⟨a, b⟩ := u
  unfold sg at a b
  unfold tog
  rw [decide_eq_false_iff_not] at b
  rw [decide_eq_true_eq] at a
  dsimp only
  rw [decide_eq_false b, decide_eq_true a, decide_eq_false (show ¬ (nth h i).1 < (nth h ((i + 1) % h.length)).1 by omega)]
  cases decide (0 < cross (nth h i) (nth h ((i + 1) % h.length)) z) <;> rfl
theorem tog_no {i : Nat} (nu : ¬ up h z i) (nd : ¬ dn h z i) : tog z (sde h i) = false := by
  unfold tog
  dsimp only
  have e : decide (z.1 < (nth h i).1) = decide (z.1 < (nth h ((i + 1) % h.length)).1) := by
    show sg h z i = sg h z _
    cases a : sg h z i with
    | true =>
      cases b : sg h z ((i + 1) % h.length) with
      | true => rfl
      | false => exact absurd ⟨a, b⟩ nd
    | false =>
      cases b : sg h z ((i + 1) % h.length) with
      | true => exact absurd ⟨a, b⟩ nu
      | false => rfl
  rw [e]
  cases decide (z.1 < (nth h ((i + 1) % h.length)).1) <;> rfl
theorem mem_sides {s : Pt × Pt} (hs : s ∈ sides h) : ∃ i, i < h.length ∧ s = sde h i := by
  unfold sides at hs
  obtain ⟨i, hi, rfl⟩ := List.mem_map.mp hs
  exact ⟨i, List.mem_range.mp hi, rfl⟩
theorem sde_mem {i : Nat} (hi : i < h.length) : sde h i ∈ sides h := List.mem_map.mpr ⟨i, List.mem_range.mpr hi, rfl⟩
def NoOn (h : List Pt) (z : Pt) : Prop := ∀ i, i < h.length → isOn (nth h i) (nth h ((i + 1) % h.length)) z = false
theorem where_par (n : NoOn h z) : whereF h z = (if parN (fun i => tog z (sde h i)) h.length = true then ("inside" : PySem.Str) else ("outside" : PySem.Str)) := by
  unfold whereF
  rw [go_par (fun s hs => by
    obtain ⟨i, hi, rfl⟩ := mem_sides hs
    exact n i hi), Bool.false_xor, ← par_range]
  rfl
theorem where_edge {i : Nat} (hi : i < h.length) (o : isOn (nth h i) (nth h ((i + 1) % h.length)) z = true) : whereF h z = "edge" := go_on ⟨sde h i, sde_mem hi, o⟩
theorem on_or (h : List Pt) (z : Pt) : NoOn h z ∨ ∃ i, i < h.length ∧ isOn (nth h i) (nth h ((i + 1) % h.length)) z = true := by
  by_cases e : ∃ i, i < h.length ∧ isOn (nth h i) (nth h ((i + 1) % h.length)) z = true
  · exact .inr e
  · left
    intro i hi
    cases g : isOn (nth h i) (nth h ((i + 1) % h.length)) z with
    | false => rfl
    | true => exact absurd ⟨i, hi, g⟩ e
theorem strad_on {p q z : Pt} (c : cross p q z = 0) (h1 : p.1 ≤ z.1) (h2 : z.1 < q.1) : isOn p q z = true := by
  refine isOn_iff.mpr ⟨c, .inl ⟨h1, by omega⟩, ?_⟩
  have e1 : (q.1 - p.1) * (z.2 - p.2) = (q.2 - p.2) * (z.1 - p.1) - cross p q z := by unfold cross; grind
  have e2 : (q.1 - p.1) * (q.2 - z.2) = (q.2 - p.2) * (q.1 - z.1) + cross p q z := by unfold cross; grind
  rw [c] at e1 e2
  rcases Int.le_total p.2 q.2 with g | g
  · left
    have m1 := Int.mul_nonneg (show 0 ≤ q.2 - p.2 by omega) (show 0 ≤ z.1 - p.1 by omega)
    have m2 := Int.mul_nonneg (show 0 ≤ q.2 - p.2 by omega) (show 0 ≤ q.1 - z.1 by omega)
    have a1 := nn_of_mul (show 0 < q.1 - p.1 by omega) (show 0 ≤ (q.1 - p.1) * (z.2 - p.2) by omega)
    have a2 := nn_of_mul (show 0 < q.1 - p.1 by omega) (show 0 ≤ (q.1 - p.1) * (q.2 - z.2) by omega)
    omega
  · right
    have m1 := np_mul (show 0 ≤ z.1 - p.1 by omega) (show q.2 - p.2 ≤ 0 by omega)
    have m2 := np_mul (show 0 ≤ q.1 - z.1 by omega) (show q.2 - p.2 ≤ 0 by omega)
    rw [Int.mul_comm] at m1 m2
    have a1 := np_of_mul (show 0 < q.1 - p.1 by omega) (show (q.1 - p.1) * (z.2 - p.2) ≤ 0 by omega)
    have a2 := np_of_mul (show 0 < q.1 - p.1 by omega) (show (q.1 - p.1) * (q.2 - z.2) ≤ 0 by omega)
    omega
theorem Tri.nn (T : Tri h) (h3 : 3 ≤ h.length) {j k : Nat} (hj : j < h.length) (hk : k < h.length) : 0 ≤ cross (nth h j) (nth h ((j + 1) % h.length)) (nth h k) := by
  by_cases e1 : k = j
  · rw [e1, cross_self3]
    exact Int.le_refl _
  · by_cases e2 : k = (j + 1) % h.length
    · rw [e2, cross_self2]
      exact Int.le_refl _
    · exact Int.le_of_lt (T.str h3 j k hj hk e1 e2)
/-- between the side that goes up and the one that goes down: in -/
theorem both_in (T : Tri h) (h3 : 3 ≤ h.length) {u d : Nat} (hu : u < h.length) (hd : d < h.length) (U : up h z u) (D : dn h z d) (a : 0 < cross (nth h u) (nth h ((u + 1) % h.length)) z) (b : 0 < cross (nth h d) (nth h ((d + 1) % h.length)) z) : In h z := by
  intro k0 he
  have hu' := Nat.mod_lt (u + 1) (show 0 < h.length by omega)
  have hd' := Nat.mod_lt (d + 1) (show 0 < h.length by omega)
  obtain ⟨u1, u2⟩ := U
  obtain ⟨d1, d2⟩ := D
  unfold sg at u1 u2 d1 d2
  rw [decide_eq_false_iff_not] at u1 d2
  rw [decide_eq_true_eq] at u2 d1
  have k1 := T.nn h3 he hu
  have k2 := T.nn h3 he hu'
  have k3 := T.nn h3 he hd
  have k4 := T.nn h3 he hd'
  have e := id_h (nth h k0) (nth h ((k0 + 1) % h.length)) (nth h u) (nth h ((u + 1) % h.length)) (nth h d) (nth h ((d + 1) % h.length)) z
  generalize nth h u = p at *
  generalize nth h ((u + 1) % h.length) = q at *
  generalize nth h d = r at *
  generalize nth h ((d + 1) % h.length) = s at *
  have m1 := Int.mul_pos a (show 0 < r.1 - s.1 by omega)
  have m2 := Int.mul_pos b (show 0 < q.1 - p.1 by omega)
  refine nn_of_mul (show 0 < cross p q z * (r.1 - s.1) + cross r s z * (q.1 - p.1) by omega) ?_
  rw [e]
  have n1 := Int.mul_nonneg (show 0 ≤ q.1 - z.1 by omega) k1
  have n2 := Int.mul_nonneg (show 0 ≤ -(p.1 - z.1) by omega) k2
  have n3 := Int.mul_nonneg (show 0 ≤ r.1 - z.1 by omega) k4
  have n4 := Int.mul_nonneg (show 0 ≤ -(s.1 - z.1) by omega) k3
  rw [Int.neg_mul] at n2 n4
  have f1 := Int.mul_nonneg (Int.le_of_lt b) (show 0 ≤ (q.1 - z.1) * cross (nth h k0) (nth h ((k0 + 1) % h.length)) p - (p.1 - z.1) * cross (nth h k0) (nth h ((k0 + 1) % h.length)) q by omega)
  have f2 := Int.mul_nonneg (Int.le_of_lt a) (show 0 ≤ (r.1 - z.1) * cross (nth h k0) (nth h ((k0 + 1) % h.length)) s - (s.1 - z.1) * cross (nth h k0) (nth h ((k0 + 1) % h.length)) r by omega)
  omega
theorem both_out (T : Tri h) (h3 : 3 ≤ h.length) (no : NoOn h z) {u d : Nat} (hu : u < h.length) (hd : d < h.length) (U : up h z u) (D : dn h z d) (a : cross (nth h u) (nth h ((u + 1) % h.length)) z ≤ 0) (b : cross (nth h d) (nth h ((d + 1) % h.length)) z ≤ 0) : False := by
  have hu' := Nat.mod_lt (u + 1) (show 0 < h.length by omega)
  obtain ⟨u1, u2⟩ := U
  obtain ⟨d1, d2⟩ := D
  unfold sg at u1 u2 d1 d2
  rw [decide_eq_false_iff_not] at u1 d2
  rw [decide_eq_true_eq] at u2 d1
  have k1 := T.nn h3 hd hu
  have k2 := T.nn h3 hd hu'
  have non := no u hu
  have e := id_k (nth h u) (nth h ((u + 1) % h.length)) (nth h d) (nth h ((d + 1) % h.length)) z
  generalize nth h u = p at *
  generalize nth h ((u + 1) % h.length) = q at *
  generalize nth h d = r at *
  generalize nth h ((d + 1) % h.length) = s at *
  have n1 := Int.mul_nonneg (show 0 ≤ q.1 - z.1 by omega) k1
  have n2 := Int.mul_nonneg (show 0 ≤ -(p.1 - z.1) by omega) k2
  rw [Int.neg_mul] at n2
  have m1 := np_mul (show 0 ≤ r.1 - s.1 by omega) a
  have m2 := np_mul (show 0 ≤ q.1 - p.1 by omega) b
  rw [Int.mul_comm] at m1 m2
  have z0 : cross p q z * (r.1 - s.1) = 0 := by omega
  rw [Int.mul_comm] at z0
  have a0 := nz_of_mul (show 0 < r.1 - s.1 by omega) z0
  have := strad_on a0 (by omega) (by omega)
  rw [this] at non
  cases non
/-- the two sides that the height of z meets -/
theorem two_sides (T : Tri h) {u d : Nat} (hu : u < h.length) (hd : d < h.length) (U : up h z u) (D : dn h z d) : parN (fun i => tog z (sde h i)) h.length = (decide (0 < cross (nth h u) (nth h ((u + 1) % h.length)) z) ^^ !decide (0 < cross (nth h d) (nth h ((d + 1) % h.length)) z)) := by
  have hud : u ≠ d := fun e => bf D.1 (e ▸ U.1)
  rw [parN_2 hud hu hd (fun i hi h1 h2 => tog_no (fun hv => ?_) (fun hv => ?_)), tog_up U, tog_dn D]
  · rcases Nat.lt_or_gt_of_ne h1 with q | q
    · exact up_one T q hu hv U
    · exact up_one T q hi U hv
  · rcases Nat.lt_or_gt_of_ne h2 with q | q
    · exact dn_one T q hd hv D
    · exact dn_one T q hi D hv
theorem w_out (T : Tri h) (h3 : 3 ≤ h.length) (hz : ¬ In h z) : whereF h z = "outside" := by
  have no : NoOn h z := by
    rcases on_or h z with g | ⟨i, hi, g⟩
    · exact g
    · exact absurd (on_in T h3 hi g) hz
  rw [where_par no]
  have e : parN (fun i => tog z (sde h i)) h.length = false := by
    by_cases hu : ∃ u, u < h.length ∧ up h z u
    · obtain ⟨u, hu, U⟩ := hu
      obtain ⟨d, hd, D⟩ := ex_dn (h := h) (z := z) (Nat.mod_lt (u + 1) (show 0 < h.length by omega)) hu U.2 U.1
      rw [two_sides T hu hd U D]
      by_cases a : 0 < cross (nth h u) (nth h ((u + 1) % h.length)) z
      · by_cases b : 0 < cross (nth h d) (nth h ((d + 1) % h.length)) z
        · exact absurd (both_in T h3 hu hd U D a b) hz
        · rw [decide_eq_true a, decide_eq_false b]
          rfl
      · by_cases b : 0 < cross (nth h d) (nth h ((d + 1) % h.length)) z
        · rw [decide_eq_false a, decide_eq_true b]
          rfl
        · exact (both_out T h3 no hu hd U D (by omega) (by omega)).elim
    · refine parN_0 fun i hi => tog_no (fun U => hu ⟨i, hi, U⟩) (fun D => ?_)
      exact hu (ex_up (h := h) (z := z) (Nat.mod_lt (i + 1) (show 0 < h.length by omega)) hi D.2 D.1)
  rw [e]
  rfl
theorem ex_max (f : Nat → Int) : ∀ n, 0 < n → ∃ m, m < n ∧ ∀ i, i < n → f i ≤ f m
  | 0, h => by omega
  | n + 1, _ => by
    by_cases e : n = 0
    · subst e
      exact ⟨0, by omega, fun i hi => by rw [show i = 0 by omega]; exact Int.le_refl _⟩
    · obtain ⟨m, hm, g⟩ := ex_max f n (by omega)
      rcases Int.le_total (f n) (f m) with q | q
      · refine ⟨m, by omega, fun i hi => ?_⟩
        by_cases e : i = n
        · rw [e]
          exact q
        · exact g i (by omega)
      · refine ⟨n, by omega, fun i hi => ?_⟩
        by_cases e : i = n
        · rw [e]
          exact Int.le_refl _
        · exact Int.le_trans (g i (by omega)) q
/-- at the highest (or lowest) corner -/
theorem some_high (T : Tri h) (h3 : 3 ≤ h.length) (hz : In h z) (no : NoOn h z) : ∃ i, i < h.length ∧ sg h z i = true := by
  apply Classical.byContradiction
  intro hn
  have low : ∀ i, i < h.length → (nth h i).1 ≤ z.1 := by
    intro i hi
    cases g : sg h z i with
    | true => exact absurd ⟨i, hi, g⟩ hn
    | false =>
      unfold sg at g
      rw [decide_eq_false_iff_not] at g
      omega
  obtain ⟨m, hm, mx⟩ := ex_max (fun i => (nth h i).1) h.length (by omega)
  obtain ⟨r1, r2⟩ := prev_next hm
  have hm' := Nat.mod_lt (m + 1) (show 0 < h.length by omega)
  obtain ⟨n1, n2, n3⟩ := next_ne hm h3
  have nr := next_ne r1 h3
  rw [r2] at nr
  have p := T.str h3 (prev h.length m) ((m + 1) % h.length) r1 hm' nr.2.1 (by rw [r2]; exact n1)
  rw [r2] at p
  have c1 := hz _ r1
  have c2 := hz _ hm
  have o1 : cross (nth h (prev h.length m)) (nth h ((prev h.length m + 1) % h.length)) z ≠ 0 := fun e => bf (in_on T h3 hz r1 e) (no _ r1)
  have o2 : cross (nth h m) (nth h ((m + 1) % h.length)) z ≠ 0 := fun e => bf (in_on T h3 hz hm e) (no _ hm)
  rw [r2] at c1 o1
  have e := id_top (nth h (prev h.length m)) (nth h m) (nth h ((m + 1) % h.length)) z
  have x1 := mx _ r1
  have x2 := mx _ hm'
  have x3 := low m hm
  generalize nth h (prev h.length m) = a at *
  generalize nth h m = b at *
  generalize nth h ((m + 1) % h.length) = d at *
  have m1 := Int.mul_nonneg (show 0 ≤ cross b d z by omega) (show 0 ≤ b.1 - a.1 by omega)
  have m2 := np_mul (show 0 ≤ cross a b z by omega) (show d.1 - b.1 ≤ 0 by omega)
  have m3 := Int.mul_nonneg (Int.le_of_lt p) (show 0 ≤ z.1 - b.1 by omega)
  have z1 := nz_of_mul (show 0 < cross b d z by omega) (show cross b d z * (b.1 - a.1) = 0 by omega)
  have z2 := nz_of_mul (show 0 < cross a b z by omega) (show cross a b z * (d.1 - b.1) = 0 by omega)
  have : cross a b d = 0 := by
    unfold cross
    rw [show d.1 - a.1 = 0 by omega, show b.1 - a.1 = 0 by omega, Int.mul_zero, Int.zero_mul]
    rfl
  omega
theorem some_low (T : Tri h) (h3 : 3 ≤ h.length) (hz : In h z) : ∃ i, i < h.length ∧ sg h z i = false := by
  apply Classical.byContradiction
  intro hn
  have hi : ∀ i, i < h.length → z.1 < (nth h i).1 := by
    intro i hi
    cases g : sg h z i with
    | false => exact absurd ⟨i, hi, g⟩ hn
    | true =>
      unfold sg at g
      rw [decide_eq_true_eq] at g
      exact g
  obtain ⟨m, hm, mx⟩ := ex_max (fun i => -(nth h i).1) h.length (by omega)
  obtain ⟨r1, r2⟩ := prev_next hm
  have hm' := Nat.mod_lt (m + 1) (show 0 < h.length by omega)
  obtain ⟨n1, n2, n3⟩ := next_ne hm h3
  have nr := next_ne r1 h3
  rw [r2] at nr
  have p := T.str h3 (prev h.length m) ((m + 1) % h.length) r1 hm' nr.2.1 (by rw [r2]; exact n1)
  rw [r2] at p
  have c1 := hz _ r1
  have c2 := hz _ hm
  rw [r2] at c1
  have e := id_top (nth h (prev h.length m)) (nth h m) (nth h ((m + 1) % h.length)) z
  have x1 := mx _ r1
  have x2 := mx _ hm'
  have x3 := hi m hm
  generalize nth h (prev h.length m) = a at *
  generalize nth h m = b at *
  generalize nth h ((m + 1) % h.length) = d at *
  have m1 := np_mul c2 (show b.1 - a.1 ≤ 0 by omega)
  have m2 := Int.mul_nonneg c1 (show 0 ≤ d.1 - b.1 by omega)
  have := nn_of_mul p (show 0 ≤ cross a b d * (z.1 - b.1) by omega)
  omega
theorem w_in (T : Tri h) (h3 : 3 ≤ h.length) (hz : In h z) : whereF h z ≠ "outside" := by
  rcases on_or h z with no | ⟨i, hi, g⟩
  · obtain ⟨i, hi, g1⟩ := some_high T h3 hz no
    obtain ⟨j, hj, g2⟩ := some_low T h3 hz
    obtain ⟨u, hu, U⟩ := ex_up (h := h) (z := z) hj hi g2 g1
    obtain ⟨d, hd, D⟩ := ex_dn (h := h) (z := z) hi hj g1 g2
    have a : 0 < cross (nth h u) (nth h ((u + 1) % h.length)) z := by
      have := hz u hu
      have n : cross (nth h u) (nth h ((u + 1) % h.length)) z ≠ 0 := fun e => bf (in_on T h3 hz hu e) (no u hu)
      omega
    have b : 0 < cross (nth h d) (nth h ((d + 1) % h.length)) z := by
      have := hz d hd
      have n : cross (nth h d) (nth h ((d + 1) % h.length)) z ≠ 0 := fun e => bf (in_on T h3 hz hd e) (no d hd)
      omega
    rw [where_par no, two_sides T hu hd U D, decide_eq_true a, decide_eq_true b]
    exact n_io
  · rw [where_edge hi g]
    exact n_eo
theorem w_iff (T : Tri h) (h3 : 3 ≤ h.length) : whereF h z = "outside" ↔ ¬ In h z := ⟨fun e hz => w_in T h3 hz e, w_out T h3⟩
theorem w_strict (T : Tri h) (h3 : 3 ≤ h.length) (e : whereF h z = "inside") {i : Nat} (hi : i < h.length) : 0 < cross (nth h i) (nth h ((i + 1) % h.length)) z := by
  have hz : In h z := by
    apply Classical.byContradiction
    intro n
    rw [w_out T h3 n] at e
    exact n_io e.symm
  have g := hz i hi
  have n : cross (nth h i) (nth h ((i + 1) % h.length)) z ≠ 0 := fun c => by
    rw [where_edge hi (in_on T h3 hz hi c)] at e
    exact n_ei e
  omega
theorem w_corner (T : Tri h) (h3 : 3 ≤ h.length) (hz : z ∈ h) : whereF h z ≠ "inside" := by
  intro e
  obtain ⟨i, hi, e2⟩ := List.mem_iff_getElem.mp hz
  have : nth h i = z := nth_of (by rw [List.getElem?_eq_getElem hi, e2])
  have g := w_strict T h3 e hi
  rw [← this, cross_self3] at g
  omega
end
end K81
set_option maxHeartbeats 0
namespace K81
open Dt
theorem steps_ok {h : List Pt} {i k : Nat} (o : okHalf h i k) : 2 ≤ stepsTo h.length i k ∧ stepsTo h.length i k < h.length ∧ 2 ≤ stepsTo h.length k i ∧ stepsTo h.length k i < h.length := by
  obtain ⟨_, hi, hk, n0, n1, n2⟩ := o
  rcases Nat.lt_trichotomy i k with q | q | q
  · have e : (((i : Nat) : Int) - (k : Nat)) % ((h.length : Nat) : Int) = ((h.length : Nat) : Int) - ((k : Nat) - (i : Nat)) := by
      have e2 : ((i : Nat) : Int) - (k : Nat) = (((h.length : Nat) : Int) - ((k : Nat) - (i : Nat))) + ((h.length : Nat) : Int) * (-1) := by omega
      rw [e2, Int.add_mul_emod_self_left]
      exact Int.emod_eq_of_lt (by omega) (by omega)
    rw [e] at n0 n1 n2
    unfold stepsTo
    rw [if_pos (by omega), if_neg (by omega)]
    omega
  · subst q
    exact absurd (by rw [Int.sub_self]; exact Int.zero_emod _) n0
  · have e : (((i : Nat) : Int) - (k : Nat)) % ((h.length : Nat) : Int) = ((i : Nat) : Int) - (k : Nat) := Int.emod_eq_of_lt (by omega) (by omega)
    rw [e] at n0 n1 n2
    unfold stepsTo
    rw [if_neg (by omega), if_pos (by omega)]
    omega
theorem wrapN_lt {n i m : Nat} (hi : i < n) (hm : m < n) : wrapN n (i + m) < n := by
  unfold wrapN
  split <;> omega
theorem wrapN_next {n i m : Nat} (hi : i < n) (hm : m + 1 < n) : (wrapN n (i + m) + 1) % n = wrapN n (i + (m + 1)) := by
  unfold wrapN
  rcases Nat.lt_trichotomy (i + m + 1) n with q | q | q
  · rw [if_pos (by omega), if_pos (by omega), Nat.mod_eq_of_lt (by omega)]
    rfl
  · rw [if_pos (by omega), if_neg (by omega), q, Nat.mod_self]
    omega
  · rw [if_neg (by omega), if_neg (by omega), Nat.mod_eq_of_lt (by omega)]
    omega
section
variable {h : List Pt} {i k : Nat} {z : Pt}
theorem part_0 (hi : i < h.length) : nth (partOf h i k) 0 = nth h i := by
  rw [part_nth (Nat.zero_le _)]
  unfold wrapN
  rw [Nat.add_zero, if_pos hi]
theorem part_s (hi : i < h.length) (hk : k < h.length) : nth (partOf h i k) (stepsTo h.length i k) = nth h k := by
  rw [part_nth (Nat.le_refl _)]
  congr 1
  unfold wrapN stepsTo
  split <;> split <;> omega
theorem part_tri (T : Tri h) (hi : i < h.length) (hs : stepsTo h.length i k < h.length) : Tri (partOf h i k) := by
  intro a b c hab hbc hc
  rw [part_len] at hc
  rw [part_nth (by omega), part_nth (by omega), part_nth (by omega)]
  generalize stepsTo h.length i k = s at *
  unfold wrapN
  rcases Nat.lt_or_ge (i + c) h.length with q | q
  · rw [if_pos (by omega), if_pos (by omega), if_pos q]
    exact T _ _ _ (by omega) (by omega) q
  · rw [if_neg (show ¬ i + c < h.length by omega)]
    rcases Nat.lt_or_ge (i + b) h.length with q2 | q2
    · rw [if_pos (by omega), if_pos q2, ← cross_cyc, ← cross_cyc]
      exact T _ _ _ (by omega) (by omega) q2
    · rw [if_neg (show ¬ i + b < h.length by omega)]
      rcases Nat.lt_or_ge (i + a) h.length with q3 | q3
      · rw [if_pos q3, ← cross_cyc]
        exact T _ _ _ (by omega) (by omega) q3
      · rw [if_neg (by omega)]
        exact T _ _ _ (by omega) (by omega) (by omega)
theorem in_part (hi : i < h.length) (hk : k < h.length) (hs : stepsTo h.length i k < h.length) (hz : In h z) (c : 0 ≤ cross (nth h k) (nth h i) z) : In (partOf h i k) z := by
  intro m hm
  rw [part_len] at hm ⊢
  by_cases e : m = stepsTo h.length i k
  · rw [e, Nat.mod_self, part_s hi hk, part_0 hi]
    exact c
  · rw [Nat.mod_eq_of_lt (by omega), part_nth (by omega), part_nth (by omega), ← wrapN_next hi (by omega)]
    exact hz _ (wrapN_lt hi (by omega))
theorem part_in (T : Tri h) (h3 : 3 ≤ h.length) (hi : i < h.length) (hs2 : 2 ≤ stepsTo h.length i k) (hs : stepsTo h.length i k < h.length) (hz : In (partOf h i k) z) : In h z := by
  intro e he
  refine fan_left (part_tri T hi hs) (by rw [part_len]; omega) hz fun m hm => ?_
  rw [part_len] at hm
  rw [part_nth (by omega)]
  exact T.nn h3 he (wrapN_lt hi (by omega))
theorem half_simple (T : Tri h) (o : okHalf h i k) : isSimple (partOf h i k) = true ∧ 0 < area2 (partOf h i k) := by
  obtain ⟨s1, s2, s3, s4⟩ := steps_ok o
  have P := part_tri (k := k) T o.2.1 s2
  have l : 3 ≤ (partOf h i k).length := by rw [part_len]; omega
  exact ⟨tri_simple P l, tri_area P l⟩
theorem half_out (T : Tri h) (h3 : 3 ≤ h.length) (o : okHalf h i k) : whereF h z = "outside" ↔ whereF (partOf h i k) z = "outside" ∧ whereF (partOf h k i) z = "outside" := by
  obtain ⟨s1, s2, s3, s4⟩ := steps_ok o
  have hi := o.2.1
  have hk := o.2.2.1
  rw [w_iff T h3, w_iff (part_tri T hi s2) (by rw [part_len]; omega), w_iff (part_tri T hk s4) (by rw [part_len]; omega)]
  constructor
  · intro n
    exact ⟨fun g => n (part_in T h3 hi s1 s2 g), fun g => n (part_in T h3 hk s3 s4 g)⟩
  · rintro ⟨n1, n2⟩ hz
    rcases Int.le_total 0 (cross (nth h k) (nth h i) z) with c | c
    · exact n1 (in_part hi hk s2 hz c)
    · exact n2 (in_part hk hi s4 hz (by rw [cross_swap]; omega))
theorem half_in (T : Tri h) (h3 : 3 ≤ h.length) (o : okHalf h i k) : ¬ (whereF (partOf h i k) z = "inside" ∧ whereF (partOf h k i) z = "inside") := by
  obtain ⟨s1, s2, s3, s4⟩ := steps_ok o
  have hi := o.2.1
  have hk := o.2.2.1
  rintro ⟨g1, g2⟩
  have a := w_strict (part_tri T hi s2) (by rw [part_len]; omega) g1 (i := stepsTo h.length i k) (by rw [part_len]; omega)
  have b := w_strict (part_tri T hk s4) (by rw [part_len]; omega) g2 (i := stepsTo h.length k i) (by rw [part_len]; omega)
  rw [part_len, Nat.mod_self, part_s hi hk, part_0 hi] at a
  rw [part_len, Nat.mod_self, part_s hk hi, part_0 hk, cross_swap] at b
  omega
end
theorem facts_all (ps more : List Pt) (h3 : 3 ≤ ps.length) : Facts ps more := by
  have hne : ps ≠ [] := List.ne_nil_of_length_pos (by omega)
  have P := poly_hull hne
  have T := P.tri
  exact {
    none_iff := none_iff hne
    simple := fun h => tri_simple T (by omega)
    area := fun h => tri_area T (by omega)
    least := fun h => least h
    left := fun h k hk p hp => (P.edge k hk p hp).1
    turn := fun h k hk => by
      obtain ⟨n1, n2, n3⟩ := next_ne hk (by omega)
      have e : (k + 2) % (hullL ps).length = ((k + 1) % (hullL ps).length + 1) % (hullL ps).length := by rw [Nat.mod_add_mod]
      rw [e]
      exact T.str (by omega) k _ hk (Nat.mod_lt _ (by omega)) n2 n3
    notOut := fun h p hp => w_in T (by omega) fun i hi => (P.edge i hi p hp).1
    notIn := fun h p hp => w_corner T (by omega) hp
    again := fun h => again h
    back := fun h => back
    wide := fun h => wide h
    wideA := fun h => area_more h
    halfA := fun h i k o => half_area o
    halfS := fun h i k o => half_simple T o
    halfO := fun h i k o z => half_out T (by omega) o
    halfI := fun h i k o z => half_in T (by omega) o }
end K81
set_option maxRecDepth 100000
open PySem PySem.W PyProof.Rows
set_option maxHeartbeats 0 in
theorem PySem.Challenge.cw_portolan_k81_whole_hulls_and_halves_holds : PySem.Challenge.rw_portolan_k81_whole_hulls_and_halves.Holds := by
  w_on; o_law; k_head; (case hw => w_witness2)
  k_fill
  refine L2.walk_of (l := PySem.Challenge.rw_portolan_k81_whole_hulls_and_halves) (n := 63) (k := 6) (x := "script") (CX := fun _ => L2.CX0) (sp := fun w => Dt.SpLaw _) rfl (by decide) rfl ⟨rfl, by decide, by decide⟩ (fun w h Y => PySem.W.kIn_of Y) ?F (fun _ _ a ns hl _ hS => ⟨a, ns, rfl, hS, hl, fun _ => rfl⟩) (fun _ _ _ _ _ h => h)
  case F =>
    intro w mg fa h KX G hmg
    refine' K81.all_mk K81.facts_all KX G hmg ?a0 ?l0 ?c0 ?k0 ?a1 ?l1 ?c1 ?k1 ?a2 ?l2 ?c2 ?k2 ?a3 ?l3 ?c3 ?k3 ?a4 ?l4 ?c4 ?k4 ?a5 ?l5 ?c5 ?k5 ?a6 ?l6 ?c6 ?k6 ?a7 ?l7 ?c7 ?k7 ?a8 ?l8 ?c8 ?k8 ?a9 ?l9 ?c9 ?k9 ?a10 ?l10 ?c10 ?k10 ?a11 ?l11 ?c11 ?k11 ?a12 ?l12 ?c12 ?k12 ?a13 ?l13 ?c13 ?k13 ?a14 ?l14 ?c14 ?k14 ?a15 ?l15 ?c15 ?k15 ?a16 ?l16 ?c16 ?k16 ?a17 ?l17 ?c17 ?k17 ?a18 ?l18 ?c18 ?k18 ?a19 ?l19 ?c19 ?k19 ?a20 ?l20 ?c20 ?k20 ?a21 ?l21 ?c21 ?k21 ?a22 ?l22 ?c22 ?k22 ?a23 ?l23 ?c23 ?k23 ?a24 ?l24 ?c24 ?k24 ?a25 ?l25 ?c25 ?k25 ?z0 ?z1 ?z2 ?z3 ?z4 ?z5 ?z6 ?z7 ?z8 ?z9 ?z10 ?z11 ?z12 ?z13 ?aC ?xC ?kC ?bC ?tC ?iC ?sC
    (case a0 => k_is); (case l0 => k_is); (case c0 => k_is); (case k0 => k_is)
    (case a1 => k_is); (case l1 => k_is); (case c1 => k_is); (case k1 => k_is)
    (case a2 => k_is); (case l2 => k_is); (case c2 => k_is); (case k2 => k_is)
    (case a3 => k_is); (case l3 => k_is); (case c3 => k_is); (case k3 => k_is)
    (case a4 => k_is); (case l4 => k_is); (case c4 => k_is); (case k4 => k_is)
    (case a5 => k_is); (case l5 => k_is); (case c5 => k_is); (case k5 => k_is)
    (case a6 => k_is); (case l6 => k_is); (case c6 => k_is); (case k6 => k_is)
    (case a7 => k_is); (case l7 => k_is); (case c7 => k_is); (case k7 => k_is)
    (case a8 => k_is); (case l8 => k_is); (case c8 => k_is); (case k8 => k_is)
    (case a9 => k_is); (case l9 => k_is); (case c9 => k_is); (case k9 => k_is)
    (case a10 => k_is); (case l10 => k_is); (case c10 => k_is); (case k10 => k_is)
    (case a11 => k_is); (case l11 => k_is); (case c11 => k_is); (case k11 => k_is)
    (case a12 => k_is); (case l12 => k_is); (case c12 => k_is); (case k12 => k_is)
    (case a13 => k_is); (case l13 => k_is); (case c13 => k_is); (case k13 => k_is)
    (case a14 => k_is); (case l14 => k_is); (case c14 => k_is); (case k14 => k_is)
    (case a15 => k_is); (case l15 => k_is); (case c15 => k_is); (case k15 => k_is)
    (case a16 => k_is); (case l16 => k_is); (case c16 => k_is); (case k16 => k_is)
    (case a17 => k_is); (case l17 => k_is); (case c17 => k_is); (case k17 => k_is)
    (case a18 => k_is); (case l18 => k_is); (case c18 => k_is); (case k18 => k_is)
    (case a19 => k_is); (case l19 => k_is); (case c19 => k_is); (case k19 => k_is)
    (case a20 => k_is); (case l20 => k_is); (case c20 => k_is); (case k20 => k_is)
    (case a21 => k_is); (case l21 => k_is); (case c21 => k_is); (case k21 => k_is)
    (case a22 => k_is); (case l22 => k_is); (case c22 => k_is); (case k22 => k_is)
    (case a23 => k_is); (case l23 => k_is); (case c23 => k_is); (case k23 => k_is)
    (case a24 => k_is); (case l24 => k_is); (case c24 => k_is); (case k24 => k_is)
    (case a25 => k_is); (case l25 => k_is); (case c25 => k_is); (case k25 => k_is)
    (case z0 => k_is); (case z1 => k_is); (case z2 => k_is); (case z3 => k_is); (case z4 => k_is); (case z5 => k_is); (case z6 => k_is); (case z7 => k_is); (case z8 => k_is); (case z9 => k_is); (case z10 => k_is); (case z11 => k_is); (case z12 => k_is); (case z13 => k_is)
    (case aC => k_is); (case kC => k_is); (case bC => k_is); (case tC => k_is); (case iC => k_is)
    (case sC => first | rfl | k_is)
    (case xC => k_exc)
