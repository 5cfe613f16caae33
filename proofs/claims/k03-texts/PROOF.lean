import PyProof.Rows.All
import Wide.All
import OpenK.AllK
import Wide.FinOn
import HandS.ForMost
import HandS.ForExc
import HandS.Conv
import HandS.Zip
import HandS.Walk
import HandS.TupMul
import HandS.TupAny
import HandS.Deep
import HandS.IsInst
import HandS.Zip0
import HandS.Text
import HandS.More
import KE.KIndexWalk
import PyProof.StrOps2
import PySem.Challenge.RW_wholefract_k03_programs_and_powers_writt
set_option Elab.async false
set_option linter.all false
set_option maxRecDepth 100000
set_option maxHeartbeats 4000000
set_option autoImplicit false
/-! Mp: data by value, a store of owned objects, and what the hand layer's readings become over them. -/
namespace Mp
open PySem L2

/-- data; a list told by value is never changed by anybody; ref i: the i-th owned object -/
inductive D where
  | non | bl (b : Bool) | int (i : Int) | str (x : Str)
  | ref (i : Nat)
  | tup (xs : List D) | lst (xs : List D)
  | scr (ns : List Int)
  | obj (C : Str) (ns : List Str) (vs : List D)
  | glo (n : Str)
  | ty (n : String)
inductive O where
  | lst (xs : List D)
  | dK (ks : List Key) (vs : List D)
  | dT (ks : List (List Key)) (vs : List D)
  | ins (C : Str) (ns : List Str) (vs : List D)
abbrev S := List O
abbrev Sl := List (Option D)
structure Xc where
  cls : Str
  arg : Option Int
inductive Res (α : Type) where
  | ok (a : α) (s : S) | exc (x : Xc) (s : S) | stuck
def Res.bind {α β : Type} (r : Res α) (f : α → S → Res β) : Res β := match r with
  | .ok a s => f a s
  | .exc x s => .exc x s
  | .stuck => .stuck
def Res.ofO {α : Type} : Option (α × S) → Res α
  | some (a, s) => .ok a s
  | none => .stuck

structure G where
  K : PySem.W.Frag
  mg : Str → Option Value
abbrev gx (X : Cx) : G := ⟨X.K, X.mg⟩

/-- what is tracked and not owned -/
def Fr (ι : List Addr) (H : Hp) : Hp := fun a => if a ∈ ι then none else H a
theorem Fr.sub {ι : List Addr} {H : Hp} {a : Addr} {o : HO} (h : Fr ι H a = some o) : a ∉ ι ∧ H a = some o := by
  unfold Fr at h
  split at h
  · cases h
  · exact ⟨by assumption, h⟩
theorem Fr.mk {ι : List Addr} {H : Hp} {a : Addr} {o : HO} (h1 : a ∉ ι) (h : H a = some o) : Fr ι H a = some o := by
  unfold Fr
  rw [if_neg h1]; exact h

mutual
def Rep (g : G) (ι : List Addr) (H : Hp) : D → V → Prop
  | .non, v => v = .non
  | .bl b, v => v = .bl b
  | .int i, v => v = .int i
  | .str x, v => v = .str x
  | .ref i, v => ∃ p, ι[i]? = some p ∧ v = .ref p
  | .tup ds, v => ∃ p vs, v = .ref p ∧ SqT g.K (Fr ι H) p vs ∧ RepL g ι H ds vs
  | .lst ds, v => ∃ p vs, v = .ref p ∧ Fr ι H p = some (.lst vs) ∧ RepL g ι H ds vs
  | .scr ns, v => ∃ p, v = .ref p ∧ SqL g.K (Fr ι H) p (ns.map .int)
  | .obj C ns ds, v => ∃ p Ca dx vs, v = .ref p ∧ g.mg C = some (.ref Ca) ∧ Fr ι H p = some (.ins Ca dx (ns.zip vs)) ∧ ns.length = ds.length ∧ RepL g ι H ds vs
  | .glo n, v => ∃ p, v = .ref p ∧ g.mg n = some (.ref p)
  | .ty n, v => v = .ty n
def RepL (g : G) (ι : List Addr) (H : Hp) : List D → List V → Prop
  | [], vs => vs = []
  | d :: ds, vs => ∃ v r, vs = v :: r ∧ Rep g ι H d v ∧ RepL g ι H ds r
end

structure Ext (ι : List Addr) (H : Hp) (ι' : List Addr) (H' : Hp) : Prop where
  pre : ∃ t, ι' = ι ++ t
  keep : ∀ a o, a ∉ ι → H a = some o → a ∉ ι' ∧ H' a = some o
theorem Ext.refl {ι : List Addr} {H : Hp} : Ext ι H ι H := ⟨⟨[], by simp⟩, fun _ _ h1 h2 => ⟨h1, h2⟩⟩
theorem Ext.trans {ι ι1 ι2 : List Addr} {H H1 H2 : Hp} (a : Ext ι H ι1 H1) (b : Ext ι1 H1 ι2 H2) : Ext ι H ι2 H2 := by
  obtain ⟨⟨t, e⟩, k⟩ := a
  obtain ⟨⟨t', e'⟩, k'⟩ := b
  exact ⟨⟨t ++ t', by rw [e', e, List.append_assoc]⟩, fun x o h1 h2 => let ⟨h3, h4⟩ := k x o h1 h2; k' x o h3 h4⟩
theorem Ext.fr {ι ι' : List Addr} {H H' : Hp} (e : Ext ι H ι' H') {a : Addr} {o : HO} (h : Fr ι H a = some o) : Fr ι' H' a = some o :=
  let ⟨h1, h2⟩ := Fr.sub h
  let ⟨h3, h4⟩ := e.keep a o h1 h2
  Fr.mk h3 h4
theorem Ext.rdd {ι ι' : List Addr} {H H' : Hp} (e : Ext ι H ι' H') {a : Addr} {u : HO} (h : Rd (Fr ι H) a u) : Rd (Fr ι' H') a u := by
  rcases h with h | ⟨o, h⟩
  · exact .inl (e.fr h)
  · exact .inr ⟨o, e.fr h⟩
theorem Ext.sqT {K : PySem.W.Frag} {ι ι' : List Addr} {H H' : Hp} (e : Ext ι H ι' H') {a : Addr} {xs : List V} (h : SqT K (Fr ι H) a xs) : SqT K (Fr ι' H') a xs := by
  rcases h with h | h
  · exact .inl (e.rdd h)
  · exact .inr h
theorem Ext.sqL {K : PySem.W.Frag} {ι ι' : List Addr} {H H' : Hp} (e : Ext ι H ι' H') {a : Addr} {xs : List V} (h : SqL K (Fr ι H) a xs) : SqL K (Fr ι' H') a xs := by
  rcases h with h | h
  · exact .inl (e.rdd h)
  · exact .inr h
theorem Ext.ix {ι ι' : List Addr} {H H' : Hp} (e : Ext ι H ι' H') {i : Nat} {p : Addr} (h : ι[i]? = some p) : ι'[i]? = some p := by
  obtain ⟨t, e⟩ := e.pre
  rw [e, List.getElem?_append_left (List.getElem?_eq_some_iff.mp h).1]
  exact h
mutual
theorem Rep.ext {g : G} {ι ι' : List Addr} {H H' : Hp} (e : Ext ι H ι' H') : ∀ (d : D) (v : V), Rep g ι H d v → Rep g ι' H' d v
  | .non, v, h => h
  | .bl _, v, h => h
  | .int _, v, h => h
  | .str _, v, h => h
  | .ref i, v, h => by
    obtain ⟨p, h1, h2⟩ := h
    exact ⟨p, e.ix h1, h2⟩
  | .tup ds, v, h => by
    obtain ⟨p, vs, h1, h2, h3⟩ := h
    exact ⟨p, vs, h1, e.sqT h2, RepL.ext e ds vs h3⟩
  | .lst ds, v, h => by
    obtain ⟨p, vs, h1, h2, h3⟩ := h
    exact ⟨p, vs, h1, e.fr h2, RepL.ext e ds vs h3⟩
  | .scr ns, v, h => by
    obtain ⟨p, h1, h2⟩ := h
    exact ⟨p, h1, e.sqL h2⟩
  | .obj C ns ds, v, h => by
    obtain ⟨p, Ca, dx, vs, h1, h2, h3, h4, h5⟩ := h
    exact ⟨p, Ca, dx, vs, h1, h2, e.fr h3, h4, RepL.ext e ds vs h5⟩
  | .glo n, v, h => h
  | .ty n, v, h => h
theorem RepL.ext {g : G} {ι ι' : List Addr} {H H' : Hp} (e : Ext ι H ι' H') : ∀ (ds : List D) (vs : List V), RepL g ι H ds vs → RepL g ι' H' ds vs
  | [], vs, h => h
  | d :: ds, vs, h => by
    obtain ⟨v, r, h1, h2, h3⟩ := h
    exact ⟨v, r, h1, Rep.ext e d v h2, RepL.ext e ds r h3⟩
end
theorem RepL.length {g : G} {ι : List Addr} {H : Hp} : ∀ {ds : List D} {vs : List V}, RepL g ι H ds vs → ds.length = vs.length
  | [], vs, h => by rw [show vs = [] from h]; rfl
  | d :: ds, vs, h => by
    obtain ⟨v, r, rfl, _, h3⟩ := h
    simp [RepL.length h3]
theorem RepL.get {g : G} {ι : List Addr} {H : Hp} : ∀ {ds : List D} {vs : List V} {i : Nat} {d : D}, RepL g ι H ds vs → ds[i]? = some d → ∃ v, vs[i]? = some v ∧ Rep g ι H d v
  | [], vs, i, d, h, e => by simp at e
  | x :: ds, vs, 0, d, h, e => by
    obtain ⟨v, r, rfl, h2, h3⟩ := h
    simp at e; subst e
    exact ⟨v, rfl, h2⟩
  | x :: ds, vs, i + 1, d, h, e => by
    obtain ⟨v, r, rfl, h2, h3⟩ := h
    obtain ⟨v', h4, h5⟩ := RepL.get (i := i) (d := d) h3 (by simpa using e)
    exact ⟨v', by simpa using h4, h5⟩
theorem RepL.get' {g : G} {ι : List Addr} {H : Hp} {ds : List D} {vs : List V} {i : Nat} {v : V} (h : RepL g ι H ds vs) (e : vs[i]? = some v) : ∃ d, ds[i]? = some d ∧ Rep g ι H d v := by
  have hl := h.length
  have hi := (List.getElem?_eq_some_iff.mp e).1
  have hd : i < ds.length := by omega
  obtain ⟨v', e', r⟩ := h.get (i := i) (d := ds[i]) (by simp [hd])
  rw [e] at e'; cases e'
  exact ⟨ds[i], by simp [hd], r⟩
theorem RepL.append {g : G} {ι : List Addr} {H : Hp} : ∀ {ds es : List D} {vs ws : List V}, RepL g ι H ds vs → RepL g ι H es ws → RepL g ι H (ds ++ es) (vs ++ ws)
  | [], es, vs, ws, h, h' => by rw [show vs = [] from h]; exact h'
  | d :: ds, es, vs, ws, h, h' => by
    obtain ⟨v, r, rfl, h2, h3⟩ := h
    exact ⟨v, r ++ ws, rfl, h2, RepL.append h3 h'⟩
theorem RepL.one {g : G} {ι : List Addr} {H : Hp} {d : D} {v : V} (h : Rep g ι H d v) : RepL g ι H [d] [v] := ⟨v, [], rfl, h, rfl⟩
theorem RepL.drop {g : G} {ι : List Addr} {H : Hp} : ∀ {ds : List D} {vs : List V} (n : Nat), RepL g ι H ds vs → RepL g ι H (ds.drop n) (vs.drop n)
  | ds, vs, 0, h => h
  | [], vs, n + 1, h => by rw [show vs = [] from h]; rfl
  | d :: ds, vs, n + 1, h => by
    obtain ⟨v, r, rfl, h2, h3⟩ := h
    exact RepL.drop n h3
theorem RepL.take {g : G} {ι : List Addr} {H : Hp} : ∀ {ds : List D} {vs : List V} (n : Nat), RepL g ι H ds vs → RepL g ι H (ds.take n) (vs.take n)
  | ds, vs, 0, h => rfl
  | [], vs, n + 1, h => by rw [show vs = [] from h]; rfl
  | d :: ds, vs, n + 1, h => by
    obtain ⟨v, r, rfl, h2, h3⟩ := h
    exact ⟨v, r.take n, rfl, h2, RepL.take n h3⟩
theorem RepL.set {g : G} {ι : List Addr} {H : Hp} {d : D} {v : V} (hd : Rep g ι H d v) : ∀ {ds : List D} {vs : List V} (n : Nat), RepL g ι H ds vs → RepL g ι H (ds.set n d) (vs.set n v)
  | [], vs, n, h => by rw [show vs = [] from h]; rfl
  | x :: ds, vs, 0, h => by
    obtain ⟨y, r, rfl, h2, h3⟩ := h
    exact ⟨v, r, rfl, hd, h3⟩
  | x :: ds, vs, n + 1, h => by
    obtain ⟨y, r, rfl, h2, h3⟩ := h
    exact ⟨y, r.set n v, rfl, h2, RepL.set hd n h3⟩
theorem RepL.ints {g : G} {ι : List Addr} {H : Hp} : ∀ (ns : List Int), RepL g ι H (ns.map .int) (ns.map .int)
  | [] => rfl
  | n :: ns => ⟨.int n, ns.map .int, rfl, rfl, RepL.ints ns⟩
theorem RepL.of_ints {g : G} {ι : List Addr} {H : Hp} : ∀ {ns : List Int} {vs : List V}, RepL g ι H (ns.map .int) vs → vs = ns.map .int
  | [], vs, h => h
  | n :: ns, vs, h => by
    obtain ⟨v, r, rfl, h2, h3⟩ := h
    rw [show v = .int n from h2, RepL.of_ints h3]; rfl

/-! ### the store -/
def Holds (g : G) (ι : List Addr) (H : Hp) (p : Addr) : O → Prop
  | .lst ds => ∃ vs, H p = some (.lst vs) ∧ RepL g ι H ds vs
  | .dK ks ds => ∃ vs, H p = some (.dK (ks.zip vs)) ∧ ks.length = ds.length ∧ RepL g ι H ds vs
  | .dT ks ds => ∃ vs, H p = some (.dT (ks.zip vs)) ∧ ks.length = ds.length ∧ RepL g ι H ds vs
  | .ins C ns ds => ∃ Ca dx vs, g.mg C = some (.ref Ca) ∧ H p = some (.ins Ca dx (ns.zip vs)) ∧ ns.length = ds.length ∧ RepL g ι H ds vs
structure Sim (g : G) (ι : List Addr) (H : Hp) (s : S) : Prop where
  len : ι.length = s.length
  nd : ι.Nodup
  own : ∀ (i : Nat) (p : Addr) (o : O), ι[i]? = some p → s[i]? = some o → Holds g ι H p o
def EnvR (g : G) (ι : List Addr) (H : Hp) (env : Sl) (σ : L2.St) : Prop :=
  env.length = σ.length ∧ ∀ (i : Nat) (d : D), env[i]? = some (some d) → ∃ v, σ[i]? = some (some v) ∧ Rep g ι H d v
theorem EnvR.ext {g : G} {ι ι' : List Addr} {H H' : Hp} {env : Sl} {σ : L2.St} (h : EnvR g ι H env σ) (e : Ext ι H ι' H') : EnvR g ι' H' env σ :=
  ⟨h.1, fun i d q => let ⟨v, h1, h2⟩ := h.2 i d q; ⟨v, h1, Rep.ext e d v h2⟩⟩
theorem EnvR.set {g : G} {ι : List Addr} {H : Hp} {env : Sl} {σ : L2.St} (h : EnvR g ι H env σ) (i : Nat) {d : D} {v : V} (r : Rep g ι H d v) : EnvR g ι H (env.set i (some d)) (σ.set i (some v)) := by
  refine ⟨by simp [h.1], fun j e q => ?_⟩
  by_cases hj : i = j
  · subst hj
    have hi : i < env.length := by
      have := (List.getElem?_eq_some_iff.mp q).1
      simpa using this
    rw [List.getElem?_set_self hi] at q
    cases q
    exact ⟨v, by rw [List.getElem?_set_self (by rw [← h.1]; exact hi)], r⟩
  · rw [List.getElem?_set_ne hj] at q
    obtain ⟨w, h1, h2⟩ := h.2 j e q
    exact ⟨w, by rw [List.getElem?_set_ne hj]; exact h1, h2⟩
/-- an exception told -/
def XRep (g : G) (x : Xc) (c : Value) (dd : Option Addr) (H : Hp) : Prop :=
  ∃ C, g.mg x.cls = some (.ref C) ∧ c = .ref C ∧ match x.arg with
    | none => dd = none
    | some n => ∃ d, dd = some d ∧ H d = some (.xd [("steps", .int n)])

section
variable {α β α' β' : Type}
abbrev RelA (α β : Type) := List Addr → Hp → α → β → Prop
/-- what is wanted behind a computation -/
def Post (R : RelA α β) (g : G) (W : WX) (ι : List Addr) (H : Hp) (σ : L2.St) (r : Res α) (Q : β → Hp → Prop) : Prop :=
  match r with
  | .ok d s' => ∀ v H' ι', Sim g ι' H' s' → Ext ι H ι' H' → R ι' H' d v → Q v H'
  | .exc x s' => ∀ c dd H' ι', Sim g ι' H' s' → Ext ι H ι' H' → XRep g x c dd H' → W c dd σ H'
  | .stuck => False
def rd (R : RelA α β) (g : G) (W : WX) (f : Sl → S → Res α) : L2.St → Hp → (β → Hp → Prop) → Prop := fun σ H Q =>
  ∃ env s ι, Sim g ι H s ∧ EnvR g ι H env σ ∧ Post R g W ι H σ (f env s) Q
variable {R : RelA α β} {R' : RelA α' β'} {g : G} {W : WX} {ι ι' : List Addr} {H H' : Hp} {σ : L2.St} {r : Res α} {Q Q' : β → Hp → Prop}
theorem Post.mono (h : Post R g W ι H σ r Q) (k : ∀ v H', Q v H' → Q' v H') : Post R g W ι H σ r Q' := by
  cases r with
  | ok d s' => exact fun v H' ι' a b c => k _ _ (h v H' ι' a b c)
  | exc x s' => exact h
  | stuck => exact h
theorem Post.ext (h : Post R g W ι H σ r Q) (e : Ext ι H ι' H') : Post R g W ι' H' σ r Q := by
  cases r with
  | ok d s' => exact fun v H2 ι2 a b c => h v H2 ι2 a (e.trans b) c
  | exc x s' => exact fun v dd H2 ι2 a b c => h v dd H2 ι2 a (e.trans b) c
  | stuck => exact h
theorem Post.bnd {k : α → S → Res α'} {Q : β' → Hp → Prop} (h : Post R' g W ι H σ (r.bind k) Q) :
    Post R g W ι H σ r fun v H1 => ∃ s1 ι1 a, Sim g ι1 H1 s1 ∧ Ext ι H ι1 H1 ∧ R ι1 H1 a v ∧ Post R' g W ι1 H1 σ (k a s1) Q := by
  cases r with
  | ok d s' => exact fun v H1 ι1 a b c => ⟨s', ι1, d, a, b, c, Post.ext h b⟩
  | exc x s' => exact h
  | stuck => exact h
/-- an operation on values that raises nothing -/
def PostO (R : RelA α β) (g : G) (ι : List Addr) (H : Hp) (r : Option (α × S)) (Q : β → Hp → Prop) : Prop :=
  match r with
  | some (d, s') => ∀ v H' ι', Sim g ι' H' s' → Ext ι H ι' H' → R ι' H' d v → Q v H'
  | none => False
theorem Post.toO {r : Option (α × S)} (h : Post R g W ι H σ (Res.ofO r) Q) : PostO R g ι H r Q := by
  cases r with
  | none => exact h
  | some x => exact h
end

/-! ### judgements -/
abbrev RV (g : G) : RelA D V := Rep g
abbrev RVs (g : G) : RelA (List D) (List V) := RepL g
abbrev RB : RelA Bool Bool := fun _ _ a b => a = b
abbrev ROi : RelA (Option Int) (Option Int) := fun _ _ a b => a = b
def SemE (X : Cx) (W : WX) (e : Expr) (f : Sl → S → Res D) : Prop := PE X e (rd (RV (gx X)) (gx X) W f)
def SemT (X : Cx) (W : WX) (e : Expr) (f : Sl → S → Res Bool) : Prop := PT X e (rd RB (gx X) W f)
def SemW (X : Cx) (W : WX) (e : Expr) (f : Sl → S → Res Bool) : Prop := PW X e (rd RB (gx X) W f)
def SemA (X : Cx) (W : WX) (es : List Expr) (f : Sl → S → Res (List D)) : Prop := PA X es (rd (RVs (gx X)) (gx X) W f)

theorem _root_.L2.PE.wk {X : Cx} {e : Expr} {t t' : TE} (h : PE X e t) (k : ∀ σ H Q, t' σ H Q → t σ H Q) : PE X e t' := ⟨fun pins s σ H Q I q => h.run pins s σ H Q I (k σ H Q q)⟩
theorem _root_.L2.PT.wk {X : Cx} {e : Expr} {t t' : TT} (h : PT X e t) (k : ∀ σ H Q, t' σ H Q → t σ H Q) : PT X e t' := ⟨fun pins s σ H Q I q => h.run pins s σ H Q I (k σ H Q q)⟩
theorem _root_.L2.PW.wk {X : Cx} {e : Expr} {t t' : TT} (h : PW X e t) (k : ∀ σ H Q, t' σ H Q → t σ H Q) : PW X e t' := ⟨fun wh pins s σ H Q I q => h.run wh pins s σ H Q I (k σ H Q q)⟩
theorem _root_.L2.PA.wk {X : Cx} {es : List Expr} {t t' : TA} (h : PA X es t) (k : ∀ σ H Q, t' σ H Q → t σ H Q) : PA X es t' := ⟨fun pos pins s σ H Q I q => h.run pos pins s σ H Q I (k σ H Q q)⟩
theorem _root_.L2.PS.wk {X : Cx} {st : Stmt} {t t' : TS} (h : PS X st t) (k : ∀ D σ H, t' D σ H → t D σ H) : PS X st t' := ⟨fun pins s σ H D I q => h.run pins s σ H D I (k D σ H q)⟩
theorem _root_.L2.PSs.wk {X : Cx} {st : List Stmt} {t t' : TS} (h : PSs X st t) (k : ∀ D σ H, t' D σ H → t D σ H) : PSs X st t' := ⟨fun pins s σ H D I q => h.run pins s σ H D I (k D σ H q)⟩

/-! ### names, constants -/
def eVar (i : Nat) : Sl → S → Res D := fun e s => match e[i]? with
  | some (some d) => .ok d s
  | _ => .stuck
def eC (d : D) : Sl → S → Res D := fun _ s => .ok d s
section
variable {X : Cx} {W : WX} {e a b : Expr} {es : List Expr} {pos : Pos}
theorem se_var (i : Nat) {x : Str} (hN : X.N[i]? = some x := by rfl) (hv : Vis X.env.scope x := by first | exact Or.inl rfl | exact Or.inr (Or.inl rfl) | exact Or.inr (Or.inr rfl))
    (hd : (x == ("__debug__" : Str)) = false := by decide) (hcd : (x == ("__classdict__" : Str)) = false := by decide) : SemE X W (.Name x pos) (eVar i) := by
  refine (pe_var hN hv hd hcd).wk fun σ H Q ⟨env, s, ι, hs, he, h⟩ => ?_
  unfold eVar at h
  split at h
  · rename_i d q
    obtain ⟨v, h1, h2⟩ := he.2 i d q
    exact ⟨v, h1, h v H ι hs .refl h2⟩
  · exact h.elim
theorem se_c {v : V} {d : D} (h : PE X e (tC v)) (r : ∀ ι H, Rep (gx X) ι H d v) : SemE X W e (eC d) :=
  h.wk fun σ H Q ⟨env, s, ι, hs, he, q⟩ => q v H ι hs .refl (r ι H)
theorem se_int {i j} : SemE X W (.Constant (.int i) j pos) (eC (.int i)) := se_c pe_int fun _ _ => rfl
theorem se_bl {b j} : SemE X W (.Constant (.bool b) j pos) (eC (.bl b)) := se_c pe_bl fun _ _ => rfl
theorem se_non {j} : SemE X W (.Constant .none j pos) (eC .non) := se_c pe_non fun _ _ => rfl
theorem se_str {x j} : SemE X W (.Constant (.str x) j pos) (eC (.str x)) := se_c pe_str fun _ _ => rfl
theorem se_glob {x : Str} {v : V} {u : Value} {d : D} (hg : Gl X x) (hm : X.mg x = some u) (r : RelV v u) (hr : ∀ ι H, Rep (gx X) ι H d v) (hd : (x == ("__debug__" : Str)) = false := by decide) : SemE X W (.Name x pos) (eC d) :=
  se_c (pe_glob hg hm r hd) hr

/-! ### two-place operations -/
def eOp (p : D → D → S → Option (D × S)) (fa fb : Sl → S → Res D) : Sl → S → Res D := fun e s => (fa e s).bind fun a s => (fb e s).bind fun b s => .ofO (p a b s)
def rP2 (g : G) (p : D → D → S → Option (D × S)) : R2 := fun x y H Q => ∃ a b s ι, Sim g ι H s ∧ Rep g ι H a x ∧ Rep g ι H b y ∧ PostO (RV g) g ι H (p a b s) Q
theorem op2_wk {p : D → D → S → Option (D × S)} {fa fb : Sl → S → Res D} {g : G} (σ : L2.St) (H : Hp) (Q : VK) (h : rd (RV g) g W (eOp p fa fb) σ H Q) : tOp (rP2 g p) (rd (RV g) g W fa) (rd (RV g) g W fb) σ H Q := by
  obtain ⟨env, s, ι, hs, he, h⟩ := h
  refine ⟨env, s, ι, hs, he, (Post.bnd (R := RV g) h).mono fun x H1 ⟨s1, ι1, a, S1, E1, Ra, P1⟩ => ?_⟩
  refine ⟨env, s1, ι1, S1, he.ext E1, (Post.bnd (R := RV g) P1).mono fun y H2 ⟨s2, ι2, b, S2, E2, Rb, P2⟩ => ?_⟩
  exact ⟨a, b, s2, ι2, S2, Rep.ext E2 _ _ Ra, Rb, P2.toO⟩
theorem _root_.L2.OpR.wk {f : Value → Value → Sem Value} {r r' : R2} (h : OpR X f r) (k : ∀ x y H Q, r' x y H Q → r x y H Q) : OpR X f r' := fun pins s σ H x y v u Q I rx ry q => h pins s σ H x y v u Q I rx ry (k x y H Q q)
theorem se_op {op : Operator} {p : D → D → S → Option (D × S)} {fa fb : Sl → S → Res D} (ho : OpR X (binaryOp op) (rP2 (gx X) p)) (ha : SemE X W a fa) (hb : SemE X W b fb) : SemE X W (.BinOp a op b pos) (eOp p fa fb) :=
  (pe_op ho ha hb).wk op2_wk
theorem se_cmp {op : CmpOp} {p : D → D → S → Option (D × S)} {fa fb : Sl → S → Res D} (ho : OpR X (compareOp op) (rP2 (gx X) p)) (ha : SemE X W a fa) (hb : SemE X W b fb) (hm : behindInMarks op b = false) : SemE X W (.Compare a [op] [b] pos) (eOp p fa fb) :=
  (pe_cmpR ho ha hb hm).wk op2_wk
def eTest (f : Sl → S → Res D) : Sl → S → Res Bool := fun e s => (f e s).bind fun d s => match d with
  | .bl b => .ok b s
  | _ => .stuck
theorem test_wk {f : Sl → S → Res D} {g : G} (σ : L2.St) (H : Hp) (Q : Bool → Hp → Prop) (h : rd RB g W (eTest f) σ H Q) : tB (rd (RV g) g W f) σ H Q := by
  obtain ⟨env, s, ι, hs, he, h⟩ := h
  refine ⟨env, s, ι, hs, he, (Post.bnd (R := RV g) h).mono fun x H1 ⟨s1, ι1, a, S1, E1, Ra, P1⟩ => ?_⟩
  cases a <;> first | exact P1.elim | skip
  exact ⟨_, Ra, P1 _ H1 ι1 S1 .refl rfl⟩
theorem st_val {f : Sl → S → Res D} (h : SemE X W e f) (he : ∀ whole, isTrue e X.env whole = (do let v ← whole; standAt e.pos; holding [v] (truthy v)) := by intro _; rfl) : SemT X W e (eTest f) := (pt_val h he).wk test_wk
theorem st_cmp {op : CmpOp} {p : D → D → S → Option (D × S)} {fa fb : Sl → S → Res D} (ho : OpR X (compareOp op) (rP2 (gx X) p)) (ha : SemE X W a fa) (hb : SemE X W b fb) (hm : behindInMarks op b = false) : SemT X W (.Compare a [op] [b] pos) (eTest (eOp p fa fb)) := by
  refine (pt_cmpR ho ha hb hm).wk fun σ H Q h => ?_
  have := test_wk σ H Q h
  exact op2_wk (W := W) σ H _ this
end
end Mp

namespace Mp
open PySem L2

def big : Nat := 100000
theorem big_le {n : Nat} (h : n ≤ big) : n ≤ sizeLine := Nat.le_trans h (by decide)
theorem big_lt {n : Nat} (h : n < big) : n < sizeLine := Nat.lt_of_lt_of_le h (by decide)

/-! ### the store's laws -/
section
variable {g : G} {ι : List Addr} {H : Hp} {s : S}
theorem Sim.some_at (h : Sim g ι H s) {i : Nat} {p : Addr} (e : ι[i]? = some p) : ∃ o, H p = some o := by
  have hi : i < s.length := by rw [← h.len]; exact (List.getElem?_eq_some_iff.mp e).1
  have := h.own i p s[i] e (by simp [hi])
  cases q : s[i] with
  | lst ds => rw [q] at this; obtain ⟨vs, h1, _⟩ := this; exact ⟨_, h1⟩
  | dK ks ds => rw [q] at this; obtain ⟨vs, h1, _⟩ := this; exact ⟨_, h1⟩
  | dT ks ds => rw [q] at this; obtain ⟨vs, h1, _⟩ := this; exact ⟨_, h1⟩
  | ins C ns ds => rw [q] at this; obtain ⟨Ca, dx, vs, h1, h2, _⟩ := this; exact ⟨_, h2⟩
theorem Sim.notin (h : Sim g ι H s) {p : Addr} (n : H p = none) : p ∉ ι := fun hm => by
  obtain ⟨i, hi, e⟩ := List.getElem_of_mem hm
  obtain ⟨o, q⟩ := h.some_at (i := i) (p := p) (by rw [List.getElem?_eq_getElem hi, e])
  rw [n] at q; cases q
theorem Ext.new {p : Addr} {o : HO} (n : H p = none) : Ext ι H ι (upd H p o) :=
  ⟨⟨[], by simp⟩, fun a u h1 h2 => ⟨h1, by rw [upd_ne (ne_of_none h2 n)]; exact h2⟩⟩
theorem Ext.put {p : Addr} {o : HO} (n : p ∈ ι) : Ext ι H ι (upd H p o) :=
  ⟨⟨[], by simp⟩, fun a u h1 h2 => ⟨h1, by rw [upd_ne (show a ≠ p from fun e => h1 (by rw [e]; exact n))]; exact h2⟩⟩
theorem Ext.alloc {p : Addr} {o : HO} (n : H p = none) : Ext ι H (ι ++ [p]) (upd H p o) :=
  ⟨⟨[p], rfl⟩, fun a u h1 h2 => by
    have ne := ne_of_none h2 n
    exact ⟨by simp [h1, ne], by rw [upd_ne ne]; exact h2⟩⟩
theorem Holds.ext {ι' : List Addr} {H' : Hp} {p : Addr} {o : O} (e : Ext ι H ι' H') (hp : H' p = H p) (h : Holds g ι H p o) : Holds g ι' H' p o := by
  cases o with
  | lst ds => obtain ⟨vs, h1, h2⟩ := h; exact ⟨vs, hp.trans h1, RepL.ext e _ _ h2⟩
  | dK ks ds => obtain ⟨vs, h1, h3, h2⟩ := h; exact ⟨vs, hp.trans h1, h3, RepL.ext e _ _ h2⟩
  | dT ks ds => obtain ⟨vs, h1, h3, h2⟩ := h; exact ⟨vs, hp.trans h1, h3, RepL.ext e _ _ h2⟩
  | ins C ns ds => obtain ⟨Ca, dx, vs, h0, h1, h3, h2⟩ := h; exact ⟨Ca, dx, vs, h0, hp.trans h1, h3, RepL.ext e _ _ h2⟩
/-- a new object that nobody owns -/
theorem Sim.new (h : Sim g ι H s) {p : Addr} {o : HO} (n : H p = none) : Sim g ι (upd H p o) s :=
  ⟨h.len, h.nd, fun i q u e1 e2 => Holds.ext (Ext.new n) (upd_ne fun e => by
    obtain ⟨u', hu⟩ := h.some_at e1
    rw [e, n] at hu; cases hu) (h.own i q u e1 e2)⟩
theorem Fr.new (h : Sim g ι H s) {p : Addr} {o : HO} (n : H p = none) : Fr ι (upd H p o) p = some o := Fr.mk (h.notin n) upd_same
/-- a new object that is owned -/
theorem Sim.alloc (h : Sim g ι H s) {p : Addr} {ho : HO} {o : O} (n : H p = none) (k : Holds g (ι ++ [p]) (upd H p ho) p o) : Sim g (ι ++ [p]) (upd H p ho) (s ++ [o]) := by
  refine ⟨by simp [h.len], ?_, fun i q u e1 e2 => ?_⟩
  · rw [List.nodup_append]
    refine ⟨h.nd, by simp, fun a ha b hb => ?_⟩
    have : b = p := by simpa using hb
    subst this
    exact fun e => h.notin n (e ▸ ha)
  · by_cases hi : i < ι.length
    · rw [List.getElem?_append_left hi] at e1
      rw [List.getElem?_append_left (by rw [← h.len]; exact hi)] at e2
      exact Holds.ext (Ext.alloc n) (upd_ne fun e => by
        obtain ⟨u', hu⟩ := h.some_at e1
        rw [e, n] at hu; cases hu) (h.own i q u e1 e2)
    · have hil : i = ι.length := by
        have := (List.getElem?_eq_some_iff.mp e1).1
        simp at this; omega
      subst hil
      simp at e1
      rw [h.len] at e2
      simp at e2
      subst e1 e2
      exact k
/-- an owned object changed -/
theorem Sim.put (h : Sim g ι H s) {i : Nat} {p : Addr} {ho : HO} {o : O} (e : ι[i]? = some p) (k : Holds g ι (upd H p ho) p o) : Sim g ι (upd H p ho) (s.set i o) := by
  have hm : p ∈ ι := List.mem_of_getElem? e
  refine ⟨by simp [h.len], h.nd, fun j q u e1 e2 => ?_⟩
  by_cases hj : i = j
  · subst hj
    rw [e] at e1; cases e1
    have hi : i < s.length := by rw [← h.len]; exact (List.getElem?_eq_some_iff.mp e).1
    rw [List.getElem?_set_self hi] at e2
    cases e2
    exact k
  · rw [List.getElem?_set_ne hj] at e2
    refine Holds.ext (Ext.put hm) (upd_ne fun e' => ?_) (h.own j q u e1 e2)
    subst e'
    obtain ⟨h1, h2⟩ := List.getElem?_eq_some_iff.mp e
    obtain ⟨h3, h4⟩ := List.getElem?_eq_some_iff.mp e1
    exact hj ((List.getElem_inj h.nd).mp (h2.trans h4.symm))
theorem Sim.lst (h : Sim g ι H s) {i : Nat} {p : Addr} {ds : List D} (e : ι[i]? = some p) (q : s[i]? = some (.lst ds)) : ∃ vs, H p = some (.lst vs) ∧ RepL g ι H ds vs := h.own i p _ e q
end

/-! ### what is read as a list, as a tuple -/
def viewL (s : S) : D → Option (List D)
  | .lst ds => some ds
  | .ref i => match s[i]? with
    | some (.lst ds) => some ds
    | _ => none
  | _ => none
def viewS (s : S) : D → Option (List D)
  | .lst ds => some ds
  | .tup ds => some ds
  | .scr ns => some (ns.map .int)
  | .ref i => match s[i]? with
    | some (.lst ds) => some ds
    | _ => none
  | _ => none
section
variable {g : G} {ι : List Addr} {H : Hp} {s : S}
theorem sq_of_fr {K : PySem.W.Frag} {p : Addr} {xs : List V} (h : SqT K (Fr ι H) p xs) : SqT K H p xs := by
  rcases h with (h | ⟨o, h⟩) | h
  · exact .inl (.inl (Fr.sub h).2)
  · exact .inl (.inr ⟨o, (Fr.sub h).2⟩)
  · exact .inr h
theorem sl_of_fr {K : PySem.W.Frag} {p : Addr} {xs : List V} (h : SqL K (Fr ι H) p xs) : SqL K H p xs := by
  rcases h with (h | ⟨o, h⟩) | h
  · exact .inl (.inl (Fr.sub h).2)
  · exact .inl (.inr ⟨o, (Fr.sub h).2⟩)
  · exact .inr h
theorem viewL_at (h : Sim g ι H s) {d : D} {v : V} {ds : List D} (r : Rep g ι H d v) (q : viewL s d = some ds) : ∃ p vs, v = .ref p ∧ H p = some (.lst vs) ∧ RepL g ι H ds vs := by
  cases d with
  | lst xs =>
    have e : xs = ds := Option.some.inj q
    subst e
    obtain ⟨p, vs, h1, h2, h3⟩ := r
    exact ⟨p, vs, h1, (Fr.sub h2).2, h3⟩
  | ref i =>
    obtain ⟨p, h1, h2⟩ := r
    unfold viewL at q
    dsimp only at q
    split at q
    · rename_i xs hx
      have e : xs = ds := Option.some.inj q
      subst e
      obtain ⟨vs, h3, h4⟩ := h.lst h1 hx
      exact ⟨p, vs, h2, h3, h4⟩
    · cases q
  | _ => exact nomatch q
theorem viewS_at (h : Sim g ι H s) {d : D} {v : V} {ds : List D} (r : Rep g ι H d v) (q : viewS s d = some ds) : ∃ p vs, v = .ref p ∧ (SqL g.K H p vs ∨ SqT g.K H p vs) ∧ RepL g ι H ds vs := by
  cases d with
  | lst xs =>
    have e : xs = ds := Option.some.inj q
    subst e
    obtain ⟨p, vs, h1, h2, h3⟩ := r
    exact ⟨p, vs, h1, .inl (.inl (.inl (Fr.sub h2).2)), h3⟩
  | tup xs =>
    have e : xs = ds := Option.some.inj q
    subst e
    obtain ⟨p, vs, h1, h2, h3⟩ := r
    exact ⟨p, vs, h1, .inr (sq_of_fr h2), h3⟩
  | scr ns =>
    have e : ns.map D.int = ds := Option.some.inj q
    subst e
    obtain ⟨p, h1, h2⟩ := r
    exact ⟨p, ns.map .int, h1, .inl (sl_of_fr h2), RepL.ints ns⟩
  | ref i =>
    obtain ⟨p, h1, h2⟩ := r
    unfold viewS at q
    dsimp only at q
    split at q
    · rename_i xs hx
      have e : xs = ds := Option.some.inj q
      subst e
      obtain ⟨vs, h3, h4⟩ := h.lst h1 hx
      exact ⟨p, vs, h2, .inl (.inl (.inl h3)), h4⟩
    · cases q
  | _ => exact nomatch q
end

/-! ### operators -/
def pI (f : Int → Int → Int) (c : Int → Int → Bool) : D → D → S → Option (D × S)
  | .int i, .int j, s => if c i j = true then some (.int (f i j), s) else none
  | _, _, _ => none
section
variable {X : Cx} {W : WX}
theorem mp_I {f : Value → Value → Sem Value} {C : Int → Int → Prop} {k : Int → Int → Int} {c : Int → Int → Bool} (h : OpR X f (rI C fun i j => .int (k i j))) (hc : ∀ i j, c i j = true → C i j) : OpR X f (rP2 (gx X) (pI k c)) :=
  h.wk fun x y H Q ⟨a, b, s, ι, hs, ra, rb, q⟩ => by
    cases a with
    | int i =>
      cases b with
      | int j =>
        unfold pI at q
        dsimp only at q
        split at q
        · rename_i hcc
          exact ⟨i, j, ra, rb, hc i j hcc, q _ H ι hs .refl rfl⟩
        · exact q.elim
      | _ => exact q.elim
    | _ => exact q.elim
theorem mp_I0 {f : Value → Value → Sem Value} {k : Int → Int → Int} (h : OpR X f (rI0 fun i j => .int (k i j))) : OpR X f (rP2 (gx X) (pI k fun _ _ => true)) :=
  h.wk fun x y H Q ⟨a, b, s, ι, hs, ra, rb, q⟩ => by
    cases a with
    | int i =>
      cases b with
      | int j => exact ⟨i, j, ra, rb, q _ H ι hs .refl rfl⟩
      | _ => exact q.elim
    | _ => exact q.elim
def pSub := pI (fun i j => i - j) fun _ _ => true
def pFdv := pI (fun i j => i.fdiv j) fun _ j => decide (j ≠ 0 ∧ j.natAbs < 1073741824)
def pMod := pI (fun i j => i.fmod j) fun _ j => decide (j ≠ 0)
def pPow := pI (fun i j => i ^ j.toNat) fun i j => decide (0 ≤ j ∧ j ≤ 1000000 ∧ i.natAbs < 2 ^ 64)
def pShl := pI (fun i j => i * 2 ^ j.toNat) fun i j => decide (0 ≤ j ∧ j ≤ 1000000 ∧ i.natAbs < 2 ^ 64)
theorem mp_sub : OpR X (binaryOp .Sub) (rP2 (gx X) pSub) := mp_I0 op_sub
theorem mp_fdv : OpR X (binaryOp .FloorDiv) (rP2 (gx X) pFdv) := mp_I op_fdivN fun i j h => (of_decide_eq_true h : j ≠ 0 ∧ j.natAbs < 1073741824)
theorem mp_mod : OpR X (binaryOp .Mod) (rP2 (gx X) pMod) := mp_I op_modN fun i j h => of_decide_eq_true h
theorem mp_pow : OpR X (binaryOp .Pow) (rP2 (gx X) pPow) := mp_I op_pow fun i j h => (of_decide_eq_true h : 0 ≤ j ∧ j ≤ 1000000 ∧ i.natAbs < 2 ^ 64)
theorem mp_shl : OpR X (binaryOp .LShift) (rP2 (gx X) pShl) := mp_I op_shl fun i j h => (of_decide_eq_true h : 0 ≤ j ∧ j ≤ 1000000 ∧ i.natAbs < 2 ^ 64)

def pAdd : D → D → S → Option (D × S)
  | .int i, .int j, s => some (.int (i + j), s)
  | .str x, .str y, s => if x.length + y.length ≤ big then some (.str (x ++ y), s) else none
  | .tup xs, .tup ys, s => if xs.length + ys.length ≤ big then some (.tup (xs ++ ys), s) else none
  | a, b, s => match viewL s a, viewL s b with
    | some xs, some ys => if xs.length + ys.length ≤ big then some (.lst (xs ++ ys), s) else none
    | _, _ => none
theorem op_any {f : Value → Value → Sem Value} {r : D → D → S → R2} {p : D → D → S → Option (D × S)} (h : ∀ a b s, OpR X f (r a b s))
    (k : ∀ a b s ι x y H Q, Sim (gx X) ι H s → Rep (gx X) ι H a x → Rep (gx X) ι H b y → PostO (RV (gx X)) (gx X) ι H (p a b s) Q → r a b s x y H Q) : OpR X f (rP2 (gx X) p) := by
  intro pins s σ H x y v u Q I rx ry ⟨a, b, st, ι, hs, ra, rb, q⟩
  exact h a b st pins s σ H x y v u Q I rx ry (k a b st ι x y H Q hs ra rb q)
theorem mp_add : OpR X (binaryOp .Add) (rP2 (gx X) pAdd) := by
  have listCase : ∀ (a b : D) (s : S) (ι : List Addr) (x y : V) (H : Hp) (Q : VK), Sim (gx X) ι H s → Rep (gx X) ι H a x → Rep (gx X) ι H b y →
      PostO (RV (gx X)) (gx X) ι H (match viewL s a, viewL s b with
        | some xs, some ys => if xs.length + ys.length ≤ big then some (.lst (xs ++ ys), s) else none
        | _, _ => none) Q → rCat x y H Q := by
    intro a b s ι x y H Q hs ra rb q
    split at q
    · rename_i xs ys e1 e2
      split at q
      · rename_i hz
        obtain ⟨p1, vs1, rfl, h1, r1⟩ := viewL_at hs ra e1
        obtain ⟨p2, vs2, rfl, h2, r2⟩ := viewL_at hs rb e2
        refine ⟨p1, p2, vs1, vs2, rfl, rfl, h1, h2, by rw [← r1.length, ← r2.length]; exact big_le hz, fun p n => ?_⟩
        exact q _ _ ι (hs.new n) (Ext.new n) ⟨p, _, rfl, Fr.new hs n, RepL.ext (Ext.new n) _ _ (r1.append r2)⟩
      · exact q.elim
    · exact q.elim
  have all : OpR X (binaryOp .Add) (fun x y H Q => ((rI0 fun i j => .int (i + j)) x y H Q ∨ (∃ i j, x = .str i ∧ y = .str j ∧ i.length + j.length ≤ sizeLine ∧ Q (.str (i ++ j)) H)) ∨ (rCatA X.K x y H Q ∨ rCat x y H Q)) := (op_add.or op_add_str).or (op_catA.or op_cat)
  refine all.wk fun x y H Q ⟨a, b, s, ι, hs, ra, rb, q⟩ => ?_
  unfold pAdd at q
  split at q
  · rename_i i j
    exact .inl (.inl ⟨i, j, ra, rb, q _ H ι hs .refl rfl⟩)
  · rename_i i j
    split at q
    · rename_i hz
      exact .inl (.inr ⟨i, j, ra, rb, big_le hz, q _ H ι hs .refl rfl⟩)
    · exact q.elim
  · rename_i xs ys
    split at q
    · rename_i hz
      obtain ⟨p1, vs1, rfl, h1, r1⟩ := ra
      obtain ⟨p2, vs2, rfl, h2, r2⟩ := rb
      refine .inr (.inl ⟨p1, p2, vs1, vs2, rfl, rfl, sq_of_fr h1, sq_of_fr h2, by rw [← r1.length, ← r2.length]; exact big_le hz, fun e => ?_, fun _ e => ?_, fun _ _ p n => ?_⟩)
      · subst e
        refine q _ H ι hs .refl ⟨p2, vs2, rfl, h2, ?_⟩
        have : xs = [] := List.eq_nil_of_length_eq_zero r1.length
        rw [this]; exact r2
      · subst e
        refine q _ H ι hs .refl ⟨p1, vs1, rfl, h1, ?_⟩
        have : ys = [] := List.eq_nil_of_length_eq_zero r2.length
        rw [this, List.append_nil]; exact r1
      · exact q _ _ ι (hs.new n) (Ext.new n) ⟨p, _, rfl, .inl (.inl (Fr.new hs n)), RepL.ext (Ext.new n) _ _ (r1.append r2)⟩
    · exact q.elim
  · exact .inr (.inr (listCase _ _ _ _ _ _ _ _ hs ra rb q))
/-- * of ints; a written list, a written tuple some times -/
def cMul (i j : Int) : Bool := decide ((-(2 ^ 64) < i ∧ i < 2 ^ 64) ∨ (-(2 ^ 64) < j ∧ j < 2 ^ 64))
def pMul : D → D → S → Option (D × S)
  | .int i, .int j, s => if cMul i j = true then some (.int (i * j), s) else none
  | .tup xs, .int k, s => if xs ≠ [] ∧ 2 ≤ k ∧ k ≤ 1000 ∧ xs.length ≤ 1000 then some (.tup (List.replicate k.toNat xs).flatten, s) else none
  | .lst xs, .int k, s => if 0 ≤ k ∧ k ≤ 1000 ∧ xs.length ≤ 100 then some (.lst (List.replicate k.toNat xs).flatten, s) else none
  | _, _, _ => none
theorem RepL.rep {g : G} {ι : List Addr} {H : Hp} {ds : List D} {vs : List V} (h : RepL g ι H ds vs) : ∀ k : Nat, RepL g ι H (List.replicate k ds).flatten (List.replicate k vs).flatten
  | 0 => rfl
  | k + 1 => by
    rw [List.replicate_succ, List.replicate_succ, List.flatten_cons, List.flatten_cons]
    exact h.append (h.rep k)
theorem mp_mul : OpR X (binaryOp .Mult) (rP2 (gx X) pMul) := by
  refine (op_mul.or (op_repT.or op_rep)).wk fun x y H Q ⟨a, b, s, ι, hs, ra, rb, q⟩ => ?_
  unfold pMul at q
  split at q
  · rename_i i j
    split at q
    · rename_i hc
      exact .inl ⟨i, j, ra, rb, (of_decide_eq_true hc : (-(2 ^ 64) < i ∧ i < 2 ^ 64) ∨ (-(2 ^ 64) < j ∧ j < 2 ^ 64)), q _ H ι hs .refl rfl⟩
    · exact q.elim
  · rename_i xs k
    split at q
    · rename_i hc
      obtain ⟨p1, vs1, rfl, h1, r1⟩ := ra
      obtain ⟨c1, c2, c3, c4⟩ := hc
      refine .inr (.inl ⟨p1, k, vs1, rfl, rb, sq_of_fr h1, fun e => c1 ?_, c2, c3, by rw [← r1.length]; exact c4, fun p n => ?_⟩)
      · subst e; exact List.eq_nil_of_length_eq_zero r1.length
      · exact q _ _ ι (hs.new n) (Ext.new n) ⟨p, _, rfl, .inl (.inl (Fr.new hs n)), RepL.ext (Ext.new n) _ _ (r1.rep _)⟩
    · exact q.elim
  · rename_i xs k
    split at q
    · rename_i hc
      obtain ⟨p1, vs1, rfl, h1, r1⟩ := ra
      obtain ⟨c1, c2, c3⟩ := hc
      refine .inr (.inr ⟨p1, k, vs1, rfl, rb, (Fr.sub h1).2, by omega, by omega, ?_, fun p n => ?_⟩)
      · refine big_le (Nat.le_trans (Nat.mul_le_mul (by rw [← r1.length]; exact c3) (show k.toNat ≤ 1000 by omega)) (by decide))
      · exact q _ _ ι (hs.new n) (Ext.new n) ⟨p, _, rfl, Fr.new hs n, RepL.ext (Ext.new n) _ _ (r1.rep _)⟩
    · exact q.elim
  · exact q.elim
end
end Mp

namespace Mp
open PySem L2

/-! ### comparisons -/
mutual
/-- data that == reads -/
def toPy : D → Option PyData
  | .non => some .none
  | .bl b => some (.bool b)
  | .int i => some (.int i)
  | .str x => some (.str x)
  | .lst ds => (toPys ds).map .list
  | .tup ds => (toPys ds).map .tuple
  | .scr ns => some (.list (ns.map .int))
  | .ref _ => none
  | .obj _ _ _ => none
  | .glo _ => none
  | .ty _ => none
def toPys : List D → Option (List PyData)
  | [] => some []
  | d :: ds => match toPy d, toPys ds with
    | some x, some xs => some (x :: xs)
    | _, _ => none
end
def deref (s : S) : D → D
  | .ref i => match s[i]? with
    | some (.lst ds) => .lst ds
    | _ => .glo ""
  | d => d
section
variable {g : G} {ι : List Addr} {H : Hp} {s : S}
theorem dp_ints : ∀ ns : List Int, DpAll g.K H (ns.map .int) (ns.map .int)
  | [] => .nil
  | n :: ns => .cons (.int n) (dp_ints ns)
mutual
theorem toPy_dp : ∀ (d : D) (v : V) (p : PyData), Rep g ι H d v → toPy d = some p → Dp g.K H v p
  | .non, v, p, r, e => by cases r; cases e; exact .non
  | .bl b, v, p, r, e => by cases r; cases e; exact .bl b
  | .int i, v, p, r, e => by cases r; cases e; exact .int i
  | .str x, v, p, r, e => by cases r; cases e; exact .str x
  | .lst ds, v, p, r, e => by
    obtain ⟨q, vs, rfl, h1, h2⟩ := r
    unfold toPy at e
    cases q' : toPys ds with
    | none => rw [q'] at e; cases e
    | some ps =>
      rw [q'] at e; cases e
      exact .lst (.inl (.inl (Fr.sub h1).2)) (toPys_dp ds vs ps h2 q')
  | .tup ds, v, p, r, e => by
    obtain ⟨q, vs, rfl, h1, h2⟩ := r
    unfold toPy at e
    cases q' : toPys ds with
    | none => rw [q'] at e; cases e
    | some ps =>
      rw [q'] at e; cases e
      exact .tup (sq_of_fr h1) (toPys_dp ds vs ps h2 q')
  | .scr ns, v, p, r, e => by
    obtain ⟨q, rfl, h1⟩ := r
    cases e
    exact .lst (sl_of_fr h1) (dp_ints ns)
  | .ref _, v, p, r, e => nomatch e
  | .obj _ _ _, v, p, r, e => nomatch e
  | .glo _, v, p, r, e => nomatch e
  | .ty _, v, p, r, e => nomatch e
theorem toPys_dp : ∀ (ds : List D) (vs : List V) (ps : List PyData), RepL g ι H ds vs → toPys ds = some ps → DpAll g.K H vs ps
  | [], vs, ps, r, e => by cases (show vs = [] from r); cases e; exact .nil
  | d :: ds, vs, ps, r, e => by
    obtain ⟨v, r', rfl, h1, h2⟩ := r
    unfold toPys at e
    cases q1 : toPy d with
    | none => rw [q1] at e; cases e
    | some x =>
      cases q2 : toPys ds with
      | none => rw [q1, q2] at e; cases e
      | some xs =>
        rw [q1, q2] at e; cases e
        exact .cons (toPy_dp d v x h1 q1) (toPys_dp ds r' xs h2 q2)
end
theorem deref_dp (hs : Sim g ι H s) {d : D} {v : V} {p : PyData} (r : Rep g ι H d v) (e : toPy (deref s d) = some p) : Dp g.K H v p := by
  cases d with
  | ref i =>
    obtain ⟨a, h1, rfl⟩ := r
    unfold deref at e
    dsimp only at e
    split at e
    · rename_i ds q
      obtain ⟨vs, h3, h4⟩ := hs.lst h1 q
      unfold toPy at e
      cases q' : toPys ds with
      | none => rw [q'] at e; cases e
      | some ps =>
        rw [q'] at e; cases e
        exact .lst (.inl (.inl h3)) (toPys_dp ds vs ps h4 q')
    · cases e
  | _ => exact toPy_dp _ v p r e
end
/-- scalars -/
def eqS : D → D → Option Bool
  | .int i, .int j => some (decide (i = j))
  | .str x, .str y => some (decide (x = y))
  | .bl a, .bl b => some (decide (a = b))
  | .non, .non => some true
  | .non, .int _ => some false | .int _, .non => some false
  | .non, .str _ => some false | .str _, .non => some false
  | .non, .bl _ => some false | .bl _, .non => some false
  | .int _, .str _ => some false | .str _, .int _ => some false
  | .bl _, .str _ => some false | .str _, .bl _ => some false
  | _, _ => none
def eqB (s : S) (a b : D) : Option Bool := match eqS a b with
  | some k => some k
  | none => match toPy (deref s a), toPy (deref s b) with
    | some p, some q => if SeqAt.shaped p = true ∧ SeqAt.shaped q = true then some (PyData.eqv p q) else none
    | _, _ => none
def pEq (a b : D) (s : S) : Option (D × S) := (eqB s a b).map fun k => (.bl k, s)
def pNe (a b : D) (s : S) : Option (D × S) := (eqB s a b).map fun k => (.bl (!k), s)
section
variable {X : Cx} {W : WX} {e a b : Expr} {es : List Expr} {pos : Pos}
theorem eqS_scal {g : G} {ι : List Addr} {H : Hp} {a b : D} {x y : V} {k : Bool} (ra : Rep g ι H a x) (rb : Rep g ι H b y) (e : eqS a b = some k) : scal x y = true ∧ decide (x = y) = k := by
  cases a <;> cases b <;> first
    | (cases e; done)
    | (cases ra; cases rb; cases e; refine ⟨rfl, ?_⟩; first | rfl | (simp; done) | (rw [Bool.eq_iff_iff]; simp))
theorem eq_cases {g : G} {ι : List Addr} {H : Hp} {s : S} {a b : D} {x y : V} {k : Bool} (hs : Sim g ι H s) (ra : Rep g ι H a x) (rb : Rep g ι H b y) (e : eqB s a b = some k) :
    (scal x y = true ∧ decide (x = y) = k) ∨ ∃ p q, Dp g.K H x p ∧ Dp g.K H y q ∧ SeqAt.shaped p = true ∧ SeqAt.shaped q = true ∧ PyData.eqv p q = k := by
  unfold eqB at e
  split at e
  · rename_i k' e'
    cases e
    exact .inl (eqS_scal ra rb e')
  · split at e
    · rename_i p q e1 e2
      split at e
      · rename_i hsh
        cases e
        exact .inr ⟨p, q, deref_dp hs ra e1, deref_dp hs rb e2, hsh.1, hsh.2, rfl⟩
      · cases e
    · cases e
theorem mp_eq (hu : X.A.units + 64 < cLine) : OpR X (compareOp .Eq) (rP2 (gx X) pEq) := by
  refine (op_eq.or (op_eqD hu)).wk fun x y H Q ⟨a, b, s, ι, hs, ra, rb, q⟩ => ?_
  unfold pEq at q
  cases e : eqB s a b with
  | none => rw [e] at q; exact q.elim
  | some k =>
    rw [e] at q
    rcases eq_cases hs ra rb e with ⟨h1, h2⟩ | ⟨p, q', h1, h2, h3, h4, h5⟩
    · exact .inl ⟨h1, by rw [h2]; exact q _ H ι hs .refl rfl⟩
    · exact .inr ⟨p, q', h1, h2, h3, h4, by rw [h5]; exact q _ H ι hs .refl rfl⟩
theorem mp_ne (hu : X.A.units + 64 < cLine) : OpR X (compareOp .NotEq) (rP2 (gx X) pNe) := by
  refine (op_ne.or (op_neD hu)).wk fun x y H Q ⟨a, b, s, ι, hs, ra, rb, q⟩ => ?_
  unfold pNe at q
  cases e : eqB s a b with
  | none => rw [e] at q; exact q.elim
  | some k =>
    rw [e] at q
    rcases eq_cases hs ra rb e with ⟨h1, h2⟩ | ⟨p, q', h1, h2, h3, h4, h5⟩
    · exact .inl ⟨h1, by rw [h2]; exact q _ H ι hs .refl rfl⟩
    · exact .inr ⟨p, q', h1, h2, h3, h4, by rw [h5]; exact q _ H ι hs .refl rfl⟩
def toInts : List D → Option (List Int)
  | [] => some []
  | .int i :: ds => (toInts ds).map (i :: ·)
  | _ :: _ => none
theorem toInts_eq : ∀ {ds : List D} {ns : List Int}, toInts ds = some ns → ds = ns.map .int
  | [], ns, e => by cases e; rfl
  | d :: ds, ns, e => by
    cases d with
    | int i =>
      unfold toInts at e
      cases q : toInts ds with
      | none => rw [q] at e; cases e
      | some ms => rw [q] at e; cases e; rw [toInts_eq q]; rfl
    | _ => exact nomatch e
def pLt : D → D → S → Option (D × S)
  | .int i, .int j, s => some (.bl (decide (i < j)), s)
  | .tup xs, .tup ys, s => match toInts xs, toInts ys with
    | some ns, some ms => some (.bl (HT.lexLt ns ms), s)
    | _, _ => none
  | _, _, _ => none
def pLe : D → D → S → Option (D × S)
  | .int i, .int j, s => some (.bl (decide (i ≤ j)), s)
  | .str x, .str y, s => some (.bl (!decide (y.cps.toList < x.cps.toList)), s)
  | _, _, _ => none
def pGt : D → D → S → Option (D × S)
  | .int i, .int j, s => some (.bl (decide (j < i)), s)
  | _, _, _ => none
def pGe : D → D → S → Option (D × S)
  | .int i, .int j, s => some (.bl (decide (j ≤ i)), s)
  | _, _, _ => none
theorem mp_lt (hu : X.A.units < cLine) : OpR X (compareOp .Lt) (rP2 (gx X) pLt) := by
  refine (op_lt.or (op_ltT hu)).wk fun x y H Q ⟨a, b, s, ι, hs, ra, rb, q⟩ => ?_
  unfold pLt at q
  split at q
  · rename_i i j
    exact .inl ⟨i, j, ra, rb, q _ H ι hs .refl rfl⟩
  · rename_i xs ys
    split at q
    · rename_i ns ms e1 e2
      obtain ⟨p1, vs1, rfl, h1, r1⟩ := ra
      obtain ⟨p2, vs2, rfl, h2, r2⟩ := rb
      rw [toInts_eq e1] at r1
      rw [toInts_eq e2] at r2
      exact .inr ⟨p1, p2, ns, ms, rfl, rfl, by rw [← r1.of_ints]; exact sq_of_fr h1, by rw [← r2.of_ints]; exact sq_of_fr h2, q _ H ι hs .refl rfl⟩
    · exact q.elim
  · exact q.elim
theorem mp_le : OpR X (compareOp .LtE) (rP2 (gx X) pLe) := by
  refine (op_le.or op_le_str).wk fun x y H Q ⟨a, b, s, ι, hs, ra, rb, q⟩ => ?_
  unfold pLe at q
  split at q
  · rename_i i j
    exact .inl ⟨i, j, ra, rb, q _ H ι hs .refl rfl⟩
  · rename_i i j
    exact .inr ⟨i, j, ra, rb, q _ H ι hs .refl rfl⟩
  · exact q.elim
theorem mp_gt : OpR X (compareOp .Gt) (rP2 (gx X) pGt) := by
  refine op_gt.wk fun x y H Q ⟨a, b, s, ι, hs, ra, rb, q⟩ => ?_
  unfold pGt at q
  split at q
  · rename_i i j
    exact ⟨i, j, ra, rb, q _ H ι hs .refl rfl⟩
  · exact q.elim
theorem mp_ge : OpR X (compareOp .GtE) (rP2 (gx X) pGe) := by
  refine op_ge.wk fun x y H Q ⟨a, b, s, ι, hs, ra, rb, q⟩ => ?_
  unfold pGe at q
  split at q
  · rename_i i j
    exact ⟨i, j, ra, rb, q _ H ι hs .refl rfl⟩
  · exact q.elim
/-- is None, is not None -/
def isNon : D → Bool
  | .non => true
  | _ => false
def pIs : D → D → S → Option (D × S)
  | a, .non, s => some (.bl (isNon a), s)
  | _, _, _ => none
def pIsNot : D → D → S → Option (D × S)
  | a, .non, s => some (.bl (!isNon a), s)
  | _, _, _ => none
theorem isNon_eq {g : G} {ι : List Addr} {H : Hp} {a : D} {x : V} (r : Rep g ι H a x) : decide (x = .non) = isNon a := by
  cases a with
  | non => cases r; rfl
  | bl _ => cases r; rfl
  | int _ => cases r; rfl
  | str _ => cases r; rfl
  | ref _ => obtain ⟨_, _, rfl⟩ := r; rfl
  | tup _ => obtain ⟨_, _, rfl, _⟩ := r; rfl
  | lst _ => obtain ⟨_, _, rfl, _⟩ := r; rfl
  | scr _ => obtain ⟨_, rfl, _⟩ := r; rfl
  | obj _ _ _ => obtain ⟨_, _, _, _, rfl, _⟩ := r; rfl
  | glo _ => obtain ⟨_, rfl, _⟩ := r; rfl
  | ty _ => cases r; rfl
theorem mp_is : OpR X (compareOp .Is) (rP2 (gx X) pIs) := by
  refine op_isN.wk fun x y H Q ⟨a, b, s, ι, hs, ra, rb, q⟩ => ?_
  unfold pIs at q
  split at q
  · exact ⟨rb, by rw [isNon_eq ra]; exact q _ H ι hs .refl rfl⟩
  · exact q.elim
theorem mp_isNot : OpR X (compareOp .IsNot) (rP2 (gx X) pIsNot) := by
  refine op_notN.wk fun x y H Q ⟨a, b, s, ι, hs, ra, rb, q⟩ => ?_
  unfold pIsNot at q
  split at q
  · exact ⟨rb, by rw [isNon_eq ra]; exact q _ H ι hs .refl rfl⟩
  · exact q.elim
/-- in, not in: flat items of a list or tuple; one sign of a text -/
def flatD : D → Bool
  | .non => true | .bl _ => true | .int _ => true | .str _ => true
  | _ => false
def eqD : D → D → Bool
  | .non, .non => true
  | .bl a, .bl b => a == b
  | .bl a, .int b => (if a then 1 else 0) == b
  | .int a, .bl b => a == (if b then 1 else 0)
  | .int a, .int b => a == b
  | .str a, .str b => a == b
  | _, _ => false
def inD (x : D) (xs : List D) : Bool := xs.any fun y => eqD y x
theorem flat_rep {g : G} {ι : List Addr} {H : Hp} {d : D} {v : V} (r : Rep g ι H d v) (h : flatD d = true) : flatV v = true := by
  cases d <;> first | (cases h; done) | (cases r; rfl)
theorem flats_rep {g : G} {ι : List Addr} {H : Hp} : ∀ {ds : List D} {vs : List V}, RepL g ι H ds vs → ds.all flatD = true → vs.all flatV = true
  | [], vs, r, h => by cases (show vs = [] from r); rfl
  | d :: ds, vs, r, h => by
    obtain ⟨v, r', rfl, h1, h2⟩ := r
    rw [List.all_cons, Bool.and_eq_true] at h ⊢
    exact ⟨flat_rep h1 h.1, flats_rep h2 h.2⟩
theorem eqD_rep {g : G} {ι : List Addr} {H : Hp} {d e : D} {v u : V} (r : Rep g ι H d v) (r' : Rep g ι H e u) (h : flatD d = true) (h' : flatD e = true) : eqV v u = eqD d e := by
  cases d <;> first
    | (cases h; done)
    | (cases e <;> first
      | (cases h'; done)
      | (cases r; cases r'; rfl))
theorem inD_rep {g : G} {ι : List Addr} {H : Hp} {d : D} {v : V} (r : Rep g ι H d v) (h : flatD d = true) : ∀ {ds : List D} {vs : List V}, RepL g ι H ds vs → ds.all flatD = true → inV v vs = inD d ds
  | [], vs, r', _ => by cases (show vs = [] from r'); rfl
  | x :: ds, vs, r', h' => by
    obtain ⟨y, t, rfl, h1, h2⟩ := r'
    rw [List.all_cons, Bool.and_eq_true] at h'
    show (eqV y v || inV v t) = (eqD x d || inD d ds)
    rw [eqD_rep h1 r h'.1 h, inD_rep r h h2 h'.2]
def one? (x : Str) : Option Nat := match x.cps.toList with
  | [c] => some c
  | _ => none
theorem one_eq {x : Str} {c : Nat} (h : one? x = some c) : x = ⟨#[c]⟩ := by
  obtain ⟨a⟩ := x
  unfold one? at h
  split at h
  · rename_i c' e
    cases h
    have : a = #[c] := by
      apply Array.toList_inj.mp
      exact e
    rw [this]
  · cases h
def inB (s : S) (a b : D) : Option Bool := match b with
  | .str z => match a with
    | .str x => match one? x with
      | some c => some (decide (c ∈ z.cps.toList))
      | none => none
    | _ => none
  | _ => match viewS s b with
    | some ds => if flatD a = true ∧ ds.all flatD = true then some (inD a ds) else none
    | none => none
def pIn (a b : D) (s : S) : Option (D × S) := (inB s a b).map fun k => (.bl k, s)
def pNotIn (a b : D) (s : S) : Option (D × S) := (inB s a b).map fun k => (.bl (!k), s)
theorem in_cases {g : G} {ι : List Addr} {H : Hp} {s : S} {a b : D} {x y : V} {k : Bool} (hs : Sim g ι H s) (ra : Rep g ι H a x) (rb : Rep g ι H b y) (e : inB s a b = some k) :
    (∃ (c : Nat) (z : Str), x = .str ⟨#[c]⟩ ∧ y = .str z ∧ decide (c ∈ z.cps.toList) = k) ∨ ∃ p vs, y = .ref p ∧ (SqL g.K H p vs ∨ SqT g.K H p vs) ∧ flatV x = true ∧ vs.all flatV = true ∧ inV x vs = k := by
  unfold inB at e
  split at e
  · rename_i z
    split at e
    · rename_i w
      split at e
      · rename_i c hc
        cases e
        cases one_eq hc
        exact .inl ⟨c, z, ra, rb, rfl⟩
      · cases e
    · cases e
  · split at e
    · rename_i ds hv
      split at e
      · rename_i hf
        cases e
        obtain ⟨p, vs, rfl, h1, r1⟩ := viewS_at hs rb hv
        exact .inr ⟨p, vs, rfl, h1, flat_rep ra hf.1, flats_rep r1 hf.2, inD_rep ra hf.1 r1 hf.2⟩
      · cases e
    · cases e
theorem mp_in : OpR X (compareOp .In) (rP2 (gx X) pIn) := by
  refine (op_in_sign.or op_in_seq).wk fun x y H Q ⟨a, b, s, ι, hs, ra, rb, q⟩ => ?_
  unfold pIn at q
  cases e : inB s a b with
  | none => rw [e] at q; exact q.elim
  | some k =>
    rw [e] at q
    rcases in_cases hs ra rb e with ⟨c, z, h1, h2, h3⟩ | ⟨p, vs, h1, h2, h3, h4, h5⟩
    · exact .inl ⟨c, z, h1, h2, by rw [h3]; exact q _ H ι hs .refl rfl⟩
    · exact .inr ⟨p, vs, h1, h2, h3, h4, by rw [h5]; exact q _ H ι hs .refl rfl⟩
theorem mp_notIn : OpR X (compareOp .NotIn) (rP2 (gx X) pNotIn) := by
  refine (op_notIn_sign.or op_notIn_seq).wk fun x y H Q ⟨a, b, s, ι, hs, ra, rb, q⟩ => ?_
  unfold pNotIn at q
  cases e : inB s a b with
  | none => rw [e] at q; exact q.elim
  | some k =>
    rw [e] at q
    rcases in_cases hs ra rb e with ⟨c, z, h1, h2, h3⟩ | ⟨p, vs, h1, h2, h3, h4, h5⟩
    · exact .inl ⟨c, z, h1, h2, by rw [h3]; exact q _ H ι hs .refl rfl⟩
    · exact .inr ⟨p, vs, h1, h2, h3, h4, by rw [h5]; exact q _ H ι hs .refl rfl⟩

/-! ### o[i] -/
def pIx : D → D → S → Option (D × S)
  | .str z, .int i, s => if z.length ≤ big then (atI z.cps.toList i).map fun c => (.str ⟨#[c]⟩, s) else none
  | o, .int i, s => match viewS s o with
    | some ds => (atI ds i).map fun d => (d, s)
    | none => none
  | _, _, _ => none
theorem atI_rep {g : G} {ι : List Addr} {H : Hp} {ds : List D} {vs : List V} {i : Int} {d : D} (r : RepL g ι H ds vs) (h : atI ds i = some d) : ∃ v, atI vs i = some v ∧ Rep g ι H d v := by
  unfold atI at h ⊢
  rw [← r.length]
  cases q : ixN ds.length i with
  | none => rw [q] at h; cases h
  | some j =>
    rw [q] at h
    obtain ⟨v, h1, h2⟩ := r.get (i := j) (d := d) h
    exact ⟨v, h1, h2⟩
theorem IxR.wk {r r' : R2} (h : IxR X r) (k : ∀ x y H Q, r' x y H Q → r x y H Q) : IxR X r' := fun value slice pins s σ H x y v u Q I rx ry q hs => h value slice pins s σ H x y v u Q I rx ry (k x y H Q q) hs
theorem mp_ix : IxR X (rP2 (gx X) pIx) := by
  refine IxR.wk ix_seq fun x y H Q ⟨a, b, s, ι, hs, ra, rb, q⟩ => ?_
  unfold pIx at q
  split at q
  · rename_i z i
    split at q
    · rename_i hz
      cases e : atI z.cps.toList i with
      | none => rw [e] at q; exact q.elim
      | some c =>
        rw [e] at q
        exact .inr (.inr ⟨z, i, c, ra, rb, big_le hz, e, q _ H ι hs .refl rfl⟩)
    · exact q.elim
  · rename_i i _
    split at q
    · rename_i ds hv
      obtain ⟨p, vs, rfl, h1, r1⟩ := viewS_at hs ra hv
      cases e : atI ds i with
      | none => rw [e] at q; exact q.elim
      | some d =>
        rw [e] at q
        obtain ⟨v, h2, h3⟩ := atI_rep r1 e
        rcases h1 with h1 | h1
        · exact .inl ⟨p, vs, i, v, rfl, rb, h1, h2, q _ H ι hs .refl h3⟩
        · exact .inr (.inl ⟨p, vs, i, v, rfl, rb, h1, h2, q _ H ι hs .refl h3⟩)
    · exact q.elim
  · exact q.elim
theorem se_ix {fa fb : Sl → S → Res D} {p : D → D → S → Option (D × S)} (hr : IxR X (rP2 (gx X) p)) (ha : SemE X W a fa) (hb : SemE X W b fb) (hs : PlainIx b := by exact fun _ _ => rfl) : SemE X W (.Subscript a b pos) (eOp p fa fb) :=
  (pe_ix hr ha hb hs).wk op2_wk

/-! ### o[i:j] -/
def SemO (X : Cx) (W : WX) (e : Option Expr) (f : Sl → S → Res (Option Int)) : Prop := PO X e (rd ROi (gx X) W f)
theorem _root_.L2.PO.wk {e : Option Expr} {t t' : TO} (h : PO X e t) (k : ∀ σ H Q, t' σ H Q → t σ H Q) : PO X e t' := ⟨fun pins s σ H Q I q => h.run pins s σ H Q I (k σ H Q q)⟩
def oNo : Sl → S → Res (Option Int) := fun _ s => .ok none s
def oAt (f : Sl → S → Res D) : Sl → S → Res (Option Int) := fun e s => (f e s).bind fun d s => match d with
  | .int i => .ok (some i) s
  | _ => .stuck
theorem so_no : SemO X W none oNo := po_none.wk fun σ H Q ⟨env, s, ι, hs, he, h⟩ => h none H ι hs .refl rfl
theorem so_at {f : Sl → S → Res D} (h : SemE X W e f) : SemO X W (some e) (oAt f) := by
  refine (po_some h).wk fun σ H Q ⟨env, s, ι, hs, he, h⟩ => ?_
  refine ⟨env, s, ι, hs, he, (Post.bnd (R := RV (gx X)) h).mono fun x H1 ⟨s1, ι1, a, S1, E1, Ra, P1⟩ => ?_⟩
  cases a <;> first | exact P1.elim | skip
  exact ⟨_, Ra, P1 _ H1 ι1 S1 .refl rfl⟩
def cutD (ds : List D) (lo hi : Option Int) : List D := (ds.drop (HT.sIx ds.length 0 lo)).take (HT.sIx ds.length ds.length hi - HT.sIx ds.length 0 lo)
theorem cut_rep {g : G} {ι : List Addr} {H : Hp} {ds : List D} {vs : List V} (lo hi : Option Int) (r : RepL g ι H ds vs) : RepL g ι H (cutD ds lo hi) (cutV vs lo hi) := by
  unfold cutD cutV
  rw [← r.length]
  exact RepL.take _ (RepL.drop _ r)
def pSl : D → Option Int → Option Int → S → Option (D × S)
  | .str z, lo, hi, s => if z.length ≤ big then some (.str (cutS z lo hi), s) else none
  | .tup ds, lo, hi, s => some (.tup (cutD ds lo hi), s)
  | o, lo, hi, s => match viewL s o with
    | some ds => some (.lst (cutD ds lo hi), s)
    | none => none
def eSl (f : Sl → S → Res D) (l u : Sl → S → Res (Option Int)) : Sl → S → Res D := fun e s => (f e s).bind fun d s => (l e s).bind fun lo s => (u e s).bind fun hi s => .ofO (pSl d lo hi s)
theorem cut_all {ds : List D} {lo hi : Option Int} (h : HT.sIx ds.length 0 lo = 0 ∧ HT.sIx ds.length ds.length hi = ds.length) : cutD ds lo hi = ds := by
  unfold cutD
  rw [h.1, h.2]; simp
theorem sl_ok {g : G} {ι : List Addr} {H : Hp} {s : S} {a : D} {x : V} {lo hi : Option Int} {Q : VK} (hs : Sim g ι H s) (ra : Rep g ι H a x) (P : PostO (RV g) g ι H (pSl a lo hi s) Q) : rSlS x lo hi H Q ∨ (rSlA g.K x lo hi H Q ∨ rSlL g.K x lo hi H Q) := by
  unfold pSl at P
  split at P
  · rename_i z
    split at P
    · rename_i hz
      exact .inl ⟨z, ra, big_le hz, P _ H ι hs .refl rfl⟩
    · exact P.elim
  · rename_i ds
    obtain ⟨p, vs, rfl, h1, r1⟩ := ra
    refine .inr (.inl ⟨p, vs, rfl, sq_of_fr h1, fun hh => ?_, fun _ q n => ?_⟩)
    · rw [← r1.length] at hh
      exact P _ H ι hs .refl (by rw [cut_all hh]; exact ⟨p, vs, rfl, h1, r1⟩)
    · exact P _ _ ι (hs.new n) (Ext.new n) ⟨q, _, rfl, .inl (.inl (Fr.new hs n)), RepL.ext (Ext.new n) _ _ (cut_rep _ _ r1)⟩
  · split at P
    · rename_i ds hv
      obtain ⟨p, vs, rfl, h1, r1⟩ := viewL_at hs ra hv
      refine .inr (.inr ⟨p, vs, rfl, .inl (.inl h1), fun q n => ?_⟩)
      exact P _ _ ι (hs.new n) (Ext.new n) ⟨q, _, rfl, Fr.new hs n, RepL.ext (Ext.new n) _ _ (cut_rep _ _ r1)⟩
    · exact P.elim
theorem se_sl {lo hi : Option Expr} {p2 : Pos} {f : Sl → S → Res D} {l u : Sl → S → Res (Option Int)} (he : SemE X W e f) (hl : SemO X W lo l) (hh : SemO X W hi u) : SemE X W (.Subscript e (.Slice lo hi none p2) pos) (eSl f l u) := by
  refine (pe_slice (sl_str.or (sl_tupA.or sl_list)) he hl hh).wk fun σ H Q ⟨env, s, ι, hs, henv, h⟩ => ?_
  refine ⟨env, s, ι, hs, henv, (Post.bnd (R := RV (gx X)) h).mono fun x H1 ⟨s1, ι1, a, S1, E1, Ra, P1⟩ => ?_⟩
  refine ⟨env, s1, ι1, S1, henv.ext E1, (Post.bnd (R := ROi) P1).mono fun lo' H2 ⟨s2, ι2, lo2, S2, E2, Rb, P2⟩ => ?_⟩
  refine ⟨env, s2, ι2, S2, (henv.ext E1).ext E2, (Post.bnd (R := ROi) P2).mono fun hi' H3 ⟨s3, ι3, hi2, S3, E3, Rc, P3⟩ => ?_⟩
  subst Rb
  subst Rc
  exact sl_ok S3 (Rep.ext (E2.trans E3) _ _ Ra) P3.toO

/-! ### one-place operations, truth, and, or, not, a if t else b -/
def eNeg (f : Sl → S → Res D) : Sl → S → Res D := fun e s => (f e s).bind fun d s => match d with
  | .int i => .ok (.int (-i)) s
  | _ => .stuck
theorem se_neg {f : Sl → S → Res D} (h : SemE X W a f) : SemE X W (.UnaryOp .USub a pos) (eNeg f) := by
  refine (pe_un un_neg h).wk fun σ H Q ⟨env, s, ι, hs, he, h⟩ => ?_
  refine ⟨env, s, ι, hs, he, (Post.bnd (R := RV (gx X)) h).mono fun x H1 ⟨s1, ι1, a, S1, E1, Ra, P1⟩ => ?_⟩
  cases a <;> first | exact P1.elim | skip
  exact ⟨_, Ra, P1 _ H1 ι1 S1 .refl rfl⟩
def tAndS (f k : Sl → S → Res Bool) : Sl → S → Res Bool := fun e s => (f e s).bind fun b s => if b = true then k e s else .ok false s
def tOrS (f k : Sl → S → Res Bool) : Sl → S → Res Bool := fun e s => (f e s).bind fun b s => if b = true then .ok true s else k e s
def tNotS (f : Sl → S → Res Bool) : Sl → S → Res Bool := fun e s => (f e s).bind fun b s => .ok (!b) s
variable {rest : List Expr}
theorem sw_and1 {f : Sl → S → Res Bool} (h : SemT X W a f) : SemW X W (.BoolOp .And [a] pos) f := pw_and1 h
theorem sw_or1 {f : Sl → S → Res Bool} (h : SemT X W a f) : SemW X W (.BoolOp .Or [a] pos) f := pw_or1 h
theorem st_of {f : Sl → S → Res Bool} (h : SemW X W e f) : SemT X W e f := PW.pt h
theorem sw_and {f k : Sl → S → Res Bool} (ha : SemT X W a f) (hb : SemW X W (.BoolOp .And (b :: rest) pos) k) : SemW X W (.BoolOp .And (a :: b :: rest) pos) (tAndS f k) := by
  refine (pw_and ha hb).wk fun σ H Q ⟨env, s, ι, hs, he, h⟩ => ?_
  refine ⟨env, s, ι, hs, he, (Post.bnd (R := RB) h).mono fun x H1 ⟨s1, ι1, c, S1, E1, Ra, P1⟩ => ?_⟩
  subst Ra
  cases c with
  | true => rw [if_pos rfl] at P1 ⊢; exact ⟨env, s1, ι1, S1, he.ext E1, P1⟩
  | false =>
    rw [if_neg Bool.false_ne_true] at P1 ⊢
    exact P1 _ H1 ι1 S1 .refl rfl
theorem sw_or {f k : Sl → S → Res Bool} (ha : SemT X W a f) (hb : SemW X W (.BoolOp .Or (b :: rest) pos) k) : SemW X W (.BoolOp .Or (a :: b :: rest) pos) (tOrS f k) := by
  refine (pw_or ha hb).wk fun σ H Q ⟨env, s, ι, hs, he, h⟩ => ?_
  refine ⟨env, s, ι, hs, he, (Post.bnd (R := RB) h).mono fun x H1 ⟨s1, ι1, c, S1, E1, Ra, P1⟩ => ?_⟩
  subst Ra
  cases c with
  | false => rw [if_neg Bool.false_ne_true] at P1 ⊢; exact ⟨env, s1, ι1, S1, he.ext E1, P1⟩
  | true =>
    rw [if_pos rfl] at P1 ⊢
    exact P1 _ H1 ι1 S1 .refl rfl
theorem st_not {f : Sl → S → Res Bool} (ha : SemT X W a f) : SemT X W (.UnaryOp .Not a pos) (tNotS f) := by
  refine (pt_not ha).wk fun σ H Q ⟨env, s, ι, hs, he, h⟩ => ?_
  refine ⟨env, s, ι, hs, he, (Post.bnd (R := RB) h).mono fun x H1 ⟨s1, ι1, c, S1, E1, Ra, P1⟩ => ?_⟩
  subst Ra
  exact P1 _ H1 ι1 S1 .refl rfl
/-- as values: all but the last are truths -/
def eAnd (f k : Sl → S → Res D) : Sl → S → Res D := fun e s => (f e s).bind fun d s => match d with
  | .bl true => k e s
  | .bl false => .ok (.bl false) s
  | _ => .stuck
def eOr (f k : Sl → S → Res D) : Sl → S → Res D := fun e s => (f e s).bind fun d s => match d with
  | .bl true => .ok (.bl true) s
  | .bl false => k e s
  | _ => .stuck
def eNot (f : Sl → S → Res D) : Sl → S → Res D := fun e s => (f e s).bind fun d s => match d with
  | .bl b => .ok (.bl (!b)) s
  | _ => .stuck
theorem se_one {op : BoolOp} {f : Sl → S → Res D} (h : SemE X W a f) : SemE X W (.BoolOp op [a] pos) f := pe_one h
theorem se_and {f k : Sl → S → Res D} (ha : SemE X W a f) (hb : SemE X W (.BoolOp .And (b :: rest) pos) k) : SemE X W (.BoolOp .And (a :: b :: rest) pos) (eAnd f k) := by
  refine (pe_and ha hb).wk fun σ H Q ⟨env, s, ι, hs, he, h⟩ => ?_
  refine ⟨env, s, ι, hs, he, (Post.bnd (R := RV (gx X)) h).mono fun x H1 ⟨s1, ι1, c, S1, E1, Ra, P1⟩ => ?_⟩
  cases c with
  | bl c =>
    refine ⟨c, Ra, ?_⟩
    cases c with
    | true => rw [if_pos rfl]; exact ⟨env, s1, ι1, S1, he.ext E1, P1⟩
    | false => rw [if_neg Bool.false_ne_true]; exact P1 _ H1 ι1 S1 .refl rfl
  | _ => exact P1.elim
theorem se_or {f k : Sl → S → Res D} (ha : SemE X W a f) (hb : SemE X W (.BoolOp .Or (b :: rest) pos) k) : SemE X W (.BoolOp .Or (a :: b :: rest) pos) (eOr f k) := by
  refine (pe_or ha hb).wk fun σ H Q ⟨env, s, ι, hs, he, h⟩ => ?_
  refine ⟨env, s, ι, hs, he, (Post.bnd (R := RV (gx X)) h).mono fun x H1 ⟨s1, ι1, c, S1, E1, Ra, P1⟩ => ?_⟩
  cases c with
  | bl c =>
    refine ⟨c, Ra, ?_⟩
    cases c with
    | false => rw [if_neg Bool.false_ne_true]; exact ⟨env, s1, ι1, S1, he.ext E1, P1⟩
    | true => rw [if_pos rfl]; exact P1 _ H1 ι1 S1 .refl rfl
  | _ => exact P1.elim
theorem se_not {f : Sl → S → Res D} (ha : SemE X W a f) : SemE X W (.UnaryOp .Not a pos) (eNot f) := by
  refine (pe_not ha).wk fun σ H Q ⟨env, s, ι, hs, he, h⟩ => ?_
  refine ⟨env, s, ι, hs, he, (Post.bnd (R := RV (gx X)) h).mono fun x H1 ⟨s1, ι1, c, S1, E1, Ra, P1⟩ => ?_⟩
  cases c <;> first | exact P1.elim | skip
  exact ⟨_, Ra, P1 _ H1 ι1 S1 .refl rfl⟩
def eIf (t : Sl → S → Res Bool) (f k : Sl → S → Res D) : Sl → S → Res D := fun e s => (t e s).bind fun c s => if c = true then f e s else k e s
theorem se_if {c : Expr} {t : Sl → S → Res Bool} {f k : Sl → S → Res D} (hc : SemT X W c t) (ha : SemE X W a f) (hb : SemE X W b k) : SemE X W (.IfExp c a b pos) (eIf t f k) := by
  refine (pe_ifExp hc ha hb).wk fun σ H Q ⟨env, s, ι, hs, he, h⟩ => ?_
  refine ⟨env, s, ι, hs, he, (Post.bnd (R := RB) h).mono fun x H1 ⟨s1, ι1, c, S1, E1, Ra, P1⟩ => ?_⟩
  subst Ra
  cases c with
  | true => rw [if_pos rfl] at P1 ⊢; exact ⟨env, s1, ι1, S1, he.ext E1, P1⟩
  | false => rw [if_neg Bool.false_ne_true] at P1 ⊢; exact ⟨env, s1, ι1, S1, he.ext E1, P1⟩
/-- a < b < c -/
def eCh (p p' : D → D → S → Option (D × S)) (fa fb fc : Sl → S → Res D) : Sl → S → Res D := fun e s => (fa e s).bind fun a s => (fb e s).bind fun b s => (Res.ofO (p a b s)).bind fun k s => match k with
  | .bl true => (fc e s).bind fun c s => .ofO (p' b c s)
  | .bl false => .ok (.bl false) s
  | _ => .stuck
theorem ch_wk {p p' : D → D → S → Option (D × S)} {fa fb fc : Sl → S → Res D} (σ : L2.St) (H : Hp) (Q : VK) (h : rd (RV (gx X)) (gx X) W (eCh p p' fa fb fc) σ H Q) :
    tChain (rP2 (gx X) p) (rP2 (gx X) p') (rd (RV (gx X)) (gx X) W fa) (rd (RV (gx X)) (gx X) W fb) (rd (RV (gx X)) (gx X) W fc) σ H Q := by
  obtain ⟨env, s, ι, hs, he, h⟩ := h
  refine ⟨env, s, ι, hs, he, (Post.bnd (R := RV (gx X)) h).mono fun x H1 ⟨s1, ι1, a, S1, E1, Ra, P1⟩ => ?_⟩
  refine ⟨env, s1, ι1, S1, he.ext E1, (Post.bnd (R := RV (gx X)) P1).mono fun y H2 ⟨s2, ι2, b, S2, E2, Rb, P2⟩ => ?_⟩
  refine ⟨a, b, s2, ι2, S2, Rep.ext E2 _ _ Ra, Rb, ?_⟩
  cases q : p a b s2 with
  | none => rw [q] at P2; exact P2.elim
  | some r =>
    obtain ⟨k, s3⟩ := r
    rw [q] at P2
    intro v H3 ι3 S3 E3 R3
    have P3 := Post.ext P2 E3
    dsimp only [Res.ofO, Res.bind] at P3
    cases k with
    | bl k =>
      refine ⟨k, R3, ?_⟩
      cases k with
      | true =>
        rw [if_pos rfl]
        refine ⟨env, s3, ι3, S3, ((he.ext E1).ext E2).ext E3, (Post.bnd (R := RV (gx X)) P3).mono fun z H4 ⟨s4, ι4, c, S4, E4, Rc, P4⟩ => ?_⟩
        exact ⟨b, c, s4, ι4, S4, Rep.ext (E3.trans E4) _ _ Rb, Rc, P4.toO⟩
      | false =>
        rw [if_neg Bool.false_ne_true]
        exact P3 _ H3 ι3 S3 .refl rfl
    | _ => exact P3.elim
theorem se_ch {op op' : CmpOp} {c : Expr} {p p' : D → D → S → Option (D × S)} {fa fb fc : Sl → S → Res D} (ho : OpR X (compareOp op) (rP2 (gx X) p)) (ho' : OpR X (compareOp op') (rP2 (gx X) p')) (ha : SemE X W a fa) (hb : SemE X W b fb) (hc : SemE X W c fc)
    (hm : lastMarks [op, op'] [b, c] = false := by with_unfolding_all rfl) : SemE X W (.Compare a [op, op'] [b, c] pos) (eCh p p' fa fb fc) := (pe_chain ho ho' ha hb hc hm).wk ch_wk
theorem st_ch {op op' : CmpOp} {c : Expr} {p p' : D → D → S → Option (D × S)} {fa fb fc : Sl → S → Res D} (ho : OpR X (compareOp op) (rP2 (gx X) p)) (ho' : OpR X (compareOp op') (rP2 (gx X) p')) (ha : SemE X W a fa) (hb : SemE X W b fb) (hc : SemE X W c fc)
    (hm : lastMarks [op, op'] [b, c] = false := by with_unfolding_all rfl) : SemT X W (.Compare a [op, op'] [b, c] pos) (eTest (eCh p p' fa fb fc)) :=
  (pt_chain ho ho' ha hb hc hm).wk fun σ H Q h => ch_wk (W := W) σ H _ (test_wk σ H Q h)
end
end Mp

namespace Mp
open PySem L2

/-! ### arguments, displays -/
def aNil : Sl → S → Res (List D) := fun _ s => .ok [] s
def aCons (f : Sl → S → Res D) (fs : Sl → S → Res (List D)) : Sl → S → Res (List D) := fun e s => (f e s).bind fun d s => (fs e s).bind fun ds s => .ok (d :: ds) s
def eTup (fs : Sl → S → Res (List D)) : Sl → S → Res D := fun e s => (fs e s).bind fun ds s => if ds.length ≤ big then .ok (.tup ds) s else .stuck
def eLst (fs : Sl → S → Res (List D)) : Sl → S → Res D := fun e s => (fs e s).bind fun ds s => if ds.length ≤ big then .ok (.lst ds) s else .stuck
/-- .. to be changed by the def -/
def eLstO (fs : Sl → S → Res (List D)) : Sl → S → Res D := fun e s => (fs e s).bind fun ds s => if ds.length ≤ big then .ok (.ref s.length) (s ++ [.lst ds]) else .stuck
section
variable {X : Cx} {W : WX} {e a b : Expr} {es : List Expr} {pos : Pos}
theorem sa_nil : SemA X W [] aNil := pa_nil.wk fun σ H Q ⟨env, s, ι, hs, he, h⟩ => h [] H ι hs .refl rfl
theorem sa_cons {f : Sl → S → Res D} {fs : Sl → S → Res (List D)} (h : SemE X W e f) (hr : SemA X W es fs) (hst : starEach (e :: es) X.env = (false, eval e X.env) :: starEach es X.env := by rfl) : SemA X W (e :: es) (aCons f fs) := by
  refine (pa_cons h hr hst).wk fun σ H Q ⟨env, s, ι, hs, he, h⟩ => ?_
  refine ⟨env, s, ι, hs, he, (Post.bnd (R := RV (gx X)) h).mono fun x H1 ⟨s1, ι1, a, S1, E1, Ra, P1⟩ => ?_⟩
  refine ⟨env, s1, ι1, S1, he.ext E1, (Post.bnd (R := RVs (gx X)) P1).mono fun xs H2 ⟨s2, ι2, as, S2, E2, Rb, P2⟩ => ?_⟩
  exact P2 _ H2 ι2 S2 .refl ⟨x, xs, rfl, Rep.ext E2 _ _ Ra, Rb⟩
theorem se_tup {fs : Sl → S → Res (List D)} {x1} (h : SemA X W es fs) : SemE X W (.Tuple es x1 pos) (eTup fs) := by
  refine (pe_tup h).wk fun σ H Q ⟨env, s, ι, hs, he, h⟩ => ?_
  refine ⟨env, s, ι, hs, he, (Post.bnd (R := RVs (gx X)) h).mono fun xs H1 ⟨s1, ι1, as, S1, E1, Ra, P1⟩ => ?_⟩
  split at P1
  · rename_i hz
    exact ⟨by rw [← Ra.length]; exact big_le hz, fun p n => P1 _ _ ι1 (S1.new n) (Ext.new n) ⟨p, _, rfl, .inl (.inl (Fr.new S1 n)), RepL.ext (Ext.new n) _ _ Ra⟩⟩
  · exact P1.elim
theorem se_lst {fs : Sl → S → Res (List D)} (h : SemA X W es fs) : SemE X W (.List es pos) (eLst fs) := by
  refine (pe_lst h).wk fun σ H Q ⟨env, s, ι, hs, he, h⟩ => ?_
  refine ⟨env, s, ι, hs, he, (Post.bnd (R := RVs (gx X)) h).mono fun xs H1 ⟨s1, ι1, as, S1, E1, Ra, P1⟩ => ?_⟩
  split at P1
  · rename_i hz
    exact ⟨by rw [← Ra.length]; exact big_le hz, fun p n => P1 _ _ ι1 (S1.new n) (Ext.new n) ⟨p, _, rfl, Fr.new S1 n, RepL.ext (Ext.new n) _ _ Ra⟩⟩
  · exact P1.elim
theorem lst_alloc {g : G} {ι : List Addr} {H : Hp} {s : S} {ds : List D} {vs : List V} {p : Addr} (hs : Sim g ι H s) (r : RepL g ι H ds vs) (n : H p = none) : Sim g (ι ++ [p]) (upd H p (.lst vs)) (s ++ [.lst ds]) :=
  hs.alloc n ⟨vs, upd_same, RepL.ext (Ext.alloc n) _ _ r⟩
theorem se_lstO {fs : Sl → S → Res (List D)} (h : SemA X W es fs) : SemE X W (.List es pos) (eLstO fs) := by
  refine (pe_lst h).wk fun σ H Q ⟨env, s, ι, hs, he, h⟩ => ?_
  refine ⟨env, s, ι, hs, he, (Post.bnd (R := RVs (gx X)) h).mono fun xs H1 ⟨s1, ι1, as, S1, E1, Ra, P1⟩ => ?_⟩
  split at P1
  · rename_i hz
    exact ⟨by rw [← Ra.length]; exact big_le hz, fun p n => P1 _ _ (ι1 ++ [p]) (lst_alloc S1 Ra n) (Ext.alloc n) ⟨p, by rw [← S1.len]; simp, rfl⟩⟩
  · exact P1.elim

/-! ### calls of built-ins -/
def rPC (g : G) (p : List D → S → Option (D × S)) : List V → Hp → VK → Prop := fun xs H Q => ∃ as s ι, Sim g ι H s ∧ RepL g ι H as xs ∧ PostO (RV g) g ι H (p as s) Q
def eCB (p : List D → S → Option (D × S)) (fs : Sl → S → Res (List D)) : Sl → S → Res D := fun e s => (fs e s).bind fun ds s => .ofO (p ds s)
theorem _root_.L2.CallR.wk {f : Value} {r r' : List V → Hp → VK → Prop} (h : CallR X f r) (k : ∀ xs H Q, r' xs H Q → r xs H Q) : CallR X f r' := fun pins s σ H xs us Q I r q => h pins s σ H xs us Q I r (k xs H Q q)
theorem cb_wk {p : List D → S → Option (D × S)} {fs : Sl → S → Res (List D)} {g : G} (σ : L2.St) (H : Hp) (Q : VK) (h : rd (RV g) g W (eCB p fs) σ H Q) : tCB (rPC g p) (rd (RVs g) g W fs) σ H Q := by
  obtain ⟨env, s, ι, hs, he, h⟩ := h
  refine ⟨env, s, ι, hs, he, (Post.bnd (R := RVs g) h).mono fun xs H1 ⟨s1, ι1, as, S1, E1, Ra, P1⟩ => ?_⟩
  exact ⟨as, s1, ι1, S1, Ra, P1.toO⟩
theorem se_cb {id : String} {x : Str} {p : List D → S → Option (D × S)} {fs : Sl → S → Res (List D)} {np : Pos} (hc : CallR X (.builtin id) (rPC (gx X) p)) (hv : bootBuiltins x = some (.builtin id)) (hm : X.mg x = none) (ha : SemA X W (e :: es) fs)
    (hg : Gl X x := by rfl) (hn : x ≠ "__name__" := by decide) (hdb : (x == ("__debug__" : Str)) = false := by decide)
    (he : starEach (e :: es) X.env = (false, eval e X.env) :: starEach es X.env := by rfl) (hpl : (backTo pos (starEach es X.env)).any (·.1) = false := by rfl) : SemE X W (.Call (.Name x np) (e :: es) [] pos) (eCB p fs) :=
  (pe_callB hc hg hm hv ha hn hdb he hpl).wk cb_wk
theorem se_ct {T : String} {x : Str} {p : List D → S → Option (D × S)} {fs : Sl → S → Res (List D)} {np : Pos} (hc : CallR X (.type T) (rPC (gx X) p)) (hv : bootBuiltins x = some (.type T)) (hm : X.mg x = none) (ha : SemA X W (e :: es) fs)
    (hg : Gl X x := by rfl) (hn : x ≠ "__name__" := by decide) (hdb : (x == ("__debug__" : Str)) = false := by decide)
    (he : starEach (e :: es) X.env = (false, eval e X.env) :: starEach es X.env := by rfl) (hpl : (backTo pos (starEach es X.env)).any (·.1) = false := by rfl) : SemE X W (.Call (.Name x np) (e :: es) [] pos) (eCB p fs) :=
  (pe_callTy hc hg hm hv ha hn hdb he hpl).wk cb_wk
/-- a built-in of one thing -/
def p1 (p : D → S → Option (D × S)) : List D → S → Option (D × S)
  | [d], s => p d s
  | _, _ => none
theorem c1 {f : Value} {r : List V → Hp → VK → Prop} {p : D → S → Option (D × S)} (h : CallR X f r) (k : ∀ a s ι x H Q, Sim (gx X) ι H s → Rep (gx X) ι H a x → PostO (RV (gx X)) (gx X) ι H (p a s) Q → r [x] H Q) : CallR X f (rPC (gx X) (p1 p)) := by
  refine h.wk fun xs H Q ⟨as, s, ι, hs, ra, q⟩ => ?_
  unfold p1 at q
  split at q
  · obtain ⟨v, r, rfl, h1, rfl⟩ := ra
    exact k _ _ _ _ _ _ hs h1 q
  · exact q.elim
def p2 (p : D → D → S → Option (D × S)) : List D → S → Option (D × S)
  | [c, d], s => p c d s
  | _, _ => none
theorem c2 {f : Value} {r : List V → Hp → VK → Prop} {p : D → D → S → Option (D × S)} (h : CallR X f r)
    (k : ∀ a b s ι x y H Q, Sim (gx X) ι H s → Rep (gx X) ι H a x → Rep (gx X) ι H b y → PostO (RV (gx X)) (gx X) ι H (p a b s) Q → r [x, y] H Q) : CallR X f (rPC (gx X) (p2 p)) := by
  refine h.wk fun xs H Q ⟨as, s, ι, hs, ra, q⟩ => ?_
  unfold p2 at q
  split at q
  · obtain ⟨v, r, rfl, h1, w, r2, rfl, h2, rfl⟩ := ra
    exact k _ _ _ _ _ _ _ _ hs h1 h2 q
  · exact q.elim
def pLen : D → S → Option (D × S)
  | .str z, s => if z.length ≤ big then some (.int z.length, s) else none
  | d, s => match viewS s d with
    | some ds => some (.int ds.length, s)
    | none => none
theorem mp_len : CallR X (.builtin "len") (rPC (gx X) (p1 pLen)) := by
  refine c1 (call_len_seq.or call_len_str) fun a s ι x H Q hs ra q => ?_
  unfold pLen at q
  split at q
  · rename_i z
    split at q
    · rename_i hz
      exact .inr ⟨z, by rw [show x = .str z from ra], big_le hz, q _ H ι hs .refl rfl⟩
    · exact q.elim
  · split at q
    · rename_i ds hv
      obtain ⟨p, vs, rfl, h1, r1⟩ := viewS_at hs ra hv
      exact .inl ⟨p, vs, rfl, h1, by rw [← r1.length]; exact q _ H ι hs .refl rfl⟩
    · exact q.elim
def pTuple : D → S → Option (D × S)
  | .tup ds, s => some (.tup ds, s)
  | d, s => match viewS s d with
    | some ds => some (.tup ds, s)
    | none => none
theorem call_tup : CallR X (.type "tuple") (fun xs H Q => ∃ x, xs = [x] ∧ kTup X.K x H Q) := by
  intro pins s σ H xs us Q I r ⟨x, e, h⟩
  subst e
  obtain ⟨u, rfl, ru⟩ := vals1 r
  exact rl_tuple pins s σ H x u Q I ru h
theorem mp_tuple : CallR X (.type "tuple") (rPC (gx X) (p1 pTuple)) := by
  refine c1 call_tup fun a s ι x H Q hs ra q => ⟨x, rfl, ?_⟩
  unfold pTuple at q
  split at q
  · obtain ⟨p, vs, rfl, h1, r1⟩ := id ra
    exact .inr ⟨p, vs, rfl, sq_of_fr h1, q _ H ι hs .refl ra⟩
  · split at q
    · rename_i hnt _ ds hv
      have : ∃ p vs, x = .ref p ∧ SqL X.K H p vs ∧ RepL (gx X) ι H ds vs := by
        cases a with
        | tup xs => exact absurd rfl (hnt xs)
        | lst xs =>
          obtain ⟨p, vs, h1, h2, h3⟩ := viewL_at hs ra (show viewL s (.lst xs) = some ds from hv)
          exact ⟨p, vs, h1, .inl (.inl h2), h3⟩
        | ref i =>
          obtain ⟨p, vs, h1, h2, h3⟩ := viewL_at hs ra (show viewL s (.ref i) = some ds from hv)
          exact ⟨p, vs, h1, .inl (.inl h2), h3⟩
        | scr ns =>
          have e : ns.map D.int = ds := Option.some.inj hv
          subst e
          obtain ⟨p, h1, h2⟩ := ra
          exact ⟨p, _, h1, sl_of_fr h2, RepL.ints ns⟩
        | _ => exact nomatch hv
      obtain ⟨p, vs, h1, h2, h3⟩ := this
      exact .inl ⟨p, vs, h1, h2, fun t n => q _ _ ι (hs.new n) (Ext.new n) ⟨t, _, rfl, .inl (.inl (Fr.new hs n)), RepL.ext (Ext.new n) _ _ h3⟩⟩
    · exact q.elim
/-- list(x): to be read, to be changed -/
def pList (d : D) (s : S) : Option (D × S) := match viewS s d with
  | some ds => some (.lst ds, s)
  | none => none
def pListO (d : D) (s : S) : Option (D × S) := match viewS s d with
  | some ds => some (.ref s.length, s ++ [.lst ds])
  | none => none
theorem mp_list : CallR X (.type "list") (rPC (gx X) (p1 pList)) := by
  refine c1 call_list_of fun a s ι x H Q hs ra q => ?_
  unfold pList at q
  split at q
  · rename_i ds hv
    obtain ⟨p, vs, rfl, h1, r1⟩ := viewS_at hs ra hv
    exact ⟨p, vs, rfl, h1, fun l n => q _ _ ι (hs.new n) (Ext.new n) ⟨l, _, rfl, Fr.new hs n, RepL.ext (Ext.new n) _ _ r1⟩⟩
  · exact q.elim
theorem mp_listO : CallR X (.type "list") (rPC (gx X) (p1 pListO)) := by
  refine c1 call_list_of fun a s ι x H Q hs ra q => ?_
  unfold pListO at q
  split at q
  · rename_i ds hv
    obtain ⟨p, vs, rfl, h1, r1⟩ := viewS_at hs ra hv
    exact ⟨p, vs, rfl, h1, fun l n => q _ _ (ι ++ [l]) (lst_alloc hs r1 n) (Ext.alloc n) ⟨l, by rw [← hs.len]; simp, rfl⟩⟩
  · exact q.elim
def pInt : D → S → Option (D × S)
  | .int i, s => some (.int i, s)
  | .bl b, s => some (.int (if b then 1 else 0), s)
  | .str x, s => if x.length ≤ 640 then (PySem.intText? x).map fun n => (.int n, s) else none
  | _, _ => none
theorem mp_int : CallR X (.type "int") (rPC (gx X) (p1 pInt)) := by
  refine c1 (call_int1.or call_int_str) fun a s ι x H Q hs ra q => ?_
  unfold pInt at q
  split at q
  · exact .inl (.inl ⟨_, by rw [show x = _ from ra], q _ H ι hs .refl rfl⟩)
  · exact .inl (.inr ⟨_, by rw [show x = _ from ra], q _ H ι hs .refl rfl⟩)
  · rename_i z
    split at q
    · rename_i hz
      cases e : PySem.intText? z with
      | none => rw [e] at q; exact q.elim
      | some n =>
        rw [e] at q
        exact .inr ⟨z, n, by rw [show x = _ from ra], e, hz, q _ H ι hs .refl rfl⟩
    · exact q.elim
  · exact q.elim
def pStr : D → S → Option (D × S)
  | .int i, s => if i.natAbs.log2 < 1920 then some (.str (toString i), s) else none
  | _, _ => none
theorem mp_str : CallR X (.type "str") (rPC (gx X) (p1 pStr)) := by
  refine c1 call_str_int fun a s ι x H Q hs ra q => ?_
  unfold pStr at q
  split at q
  · split at q
    · rename_i hz
      exact ⟨_, by rw [show x = _ from ra], hz, q _ H ι hs .refl rfl⟩
    · exact q.elim
  · exact q.elim
def pAbs : D → S → Option (D × S)
  | .int i, s => some (.int (if i < 0 then -i else i), s)
  | _, _ => none
theorem mp_abs : CallR X (.builtin "abs") (rPC (gx X) (p1 pAbs)) := by
  refine c1 call_abs fun a s ι x H Q hs ra q => ?_
  unfold pAbs at q
  split at q
  · exact ⟨_, by rw [show x = _ from ra], q _ H ι hs .refl rfl⟩
  · exact q.elim
def toBls : List D → Option (List Bool)
  | [] => some []
  | .bl b :: ds => (toBls ds).map (b :: ·)
  | _ :: _ => none
theorem toBls_eq {g : G} {ι : List Addr} {H : Hp} : ∀ {ds : List D} {bs : List Bool} {vs : List V}, toBls ds = some bs → RepL g ι H ds vs → vs = bs.map .bl
  | [], bs, vs, e, r => by cases e; exact r
  | d :: ds, bs, vs, e, r => by
    cases d with
    | bl b =>
      unfold toBls at e
      cases q : toBls ds with
      | none => rw [q] at e; cases e
      | some cs =>
        rw [q] at e; cases e
        obtain ⟨v, t, rfl, h1, h2⟩ := r
        rw [toBls_eq q h2, show v = .bl b from h1]; rfl
    | _ => exact nomatch e
def pBls (f : List Bool → Bool) (d : D) (s : S) : Option (D × S) := match viewL s d with
  | some ds => (toBls ds).map fun bs => (.bl (f bs), s)
  | none => none
def pAll := pBls fun bs => bs.all id
def pAny := pBls fun bs => bs.any id
theorem mp_bls {f : Value} {k : List Bool → Bool} (h : CallR X f (fun vs H Q => ∃ (a : Addr) (bs : List Bool), vs = [V.ref a] ∧ SqL X.K H a (bs.map V.bl) ∧ Q (.bl (k bs)) H)) : CallR X f (rPC (gx X) (p1 (pBls k))) := by
  refine c1 h fun a s ι x H Q hs ra q => ?_
  unfold pBls at q
  split at q
  · rename_i ds hv
    cases e : toBls ds with
    | none => rw [e] at q; exact q.elim
    | some bs =>
      rw [e] at q
      obtain ⟨p, vs, rfl, h1, r1⟩ := viewL_at hs ra hv
      exact ⟨p, bs, rfl, by rw [← toBls_eq e r1]; exact .inl (.inl h1), q _ H ι hs .refl rfl⟩
  · exact q.elim
theorem mp_all (hc : X.calm = true) : CallR X (.builtin "all") (rPC (gx X) (p1 pAll)) := mp_bls (cr_all hc)
theorem mp_any (hc : X.calm = true) : CallR X (.builtin "any") (rPC (gx X) (p1 pAny)) := mp_bls (cr_any hc)
def pSum (d : D) (s : S) : Option (D × S) := match viewL s d with
  | some ds => (toInts ds).map fun ns => (.int ns.sum, s)
  | none => none
theorem ints_at {ι : List Addr} {H : Hp} {s : S} {d : D} {x : V} {ds : List D} {ns : List Int} (hs : Sim (gx X) ι H s) (ra : Rep (gx X) ι H d x) (hv : viewL s d = some ds) (e : toInts ds = some ns) : ∃ p, x = .ref p ∧ SqL X.K H p (ns.map .int) := by
  obtain ⟨p, vs, rfl, h1, r1⟩ := viewL_at hs ra hv
  rw [toInts_eq e] at r1
  exact ⟨p, rfl, by rw [← r1.of_ints]; exact .inl (.inl h1)⟩
theorem mp_sum (hc : X.calm = true) : CallR X (.builtin "sum") (rPC (gx X) (p1 pSum)) := by
  refine c1 (cr_sum hc) fun a s ι x H Q hs ra q => ?_
  unfold pSum at q
  split at q
  · rename_i ds hv
    cases e : toInts ds with
    | none => rw [e] at q; exact q.elim
    | some ns =>
      rw [e] at q
      obtain ⟨p, rfl, h1⟩ := ints_at hs ra hv e
      exact ⟨p, ns, rfl, h1, q _ H ι hs .refl rfl⟩
  · exact q.elim
def pMax2 : D → D → S → Option (D × S)
  | .int i, .int j, s => some (.int (if j > i then j else i), s)
  | _, _, _ => none
def pMin2 : D → D → S → Option (D × S)
  | .int i, .int j, s => some (.int (if j < i then j else i), s)
  | _, _, _ => none
theorem mp_max2 (hc : X.calm = true) : CallR X (.builtin "max") (rPC (gx X) (p2 pMax2)) := by
  refine c2 (call_max2 hc) fun a b s ι x y H Q hs ra rb q => ?_
  unfold pMax2 at q
  split at q
  · exact ⟨_, _, by rw [show x = _ from ra, show y = _ from rb], q _ H ι hs .refl rfl⟩
  · exact q.elim
theorem mp_min2 (hc : X.calm = true) : CallR X (.builtin "min") (rPC (gx X) (p2 pMin2)) := by
  refine c2 (call_min2 hc) fun a b s ι x y H Q hs ra rb q => ?_
  unfold pMin2 at q
  split at q
  · exact ⟨_, _, by rw [show x = _ from ra, show y = _ from rb], q _ H ι hs .refl rfl⟩
  · exact q.elim
/-- isinstance(x, T), T one of the plain built-in types -/
def tyOf (s : S) : D → Option String
  | .non => some "NoneType" | .bl _ => some "bool" | .int _ => some "int" | .str _ => some "str"
  | .tup _ => some "tuple" | .lst _ => some "list"
  | .ref i => match s[i]? with
    | some (.lst _) => some "list"
    | some (.dK _ _) => some "dict"
    | some (.dT _ _) => some "dict"
    | _ => none
  | _ => none
def tyNames : List String := ["NoneType", "bool", "int", "str", "tuple", "list", "dict"]
def pIsI (a b : D) (s : S) : Option (D × S) := match tyOf s a, b with
  | some t, .ty T => if T ∈ tyNames then some (.bl (t == T || (t == "bool" && T == "int")), s) else none
  | _, _ => none
theorem kit_ty {K : PySem.W.Frag} {t T : String} (h : t ∈ tyNames) (h' : T ∈ tyNames) : PySem.W.kitOne K (.type t) (.type T) = some (t == T || (t == "bool" && T == "int")) := by
  simp only [tyNames, List.mem_cons, List.not_mem_nil, or_false] at h h'
  rcases h with rfl | rfl | rfl | rfl | rfl | rfl | rfl <;> rcases h' with rfl | rfl | rfl | rfl | rfl | rfl | rfl <;> rfl
theorem tyOf_at {ι : List Addr} {H : Hp} {s : S} {d : D} {x : V} {t : String} (hs : Sim (gx X) ι H s) (ra : Rep (gx X) ι H d x) (h : tyOf s d = some t) : TyX X.K H x (.type t) ∧ t ∈ tyNames := by
  have m : ∀ u, u ∈ tyNames ↔ u = "NoneType" ∨ u = "bool" ∨ u = "int" ∨ u = "str" ∨ u = "tuple" ∨ u = "list" ∨ u = "dict" := fun u => by simp [tyNames]
  cases d with
  | non => cases ra; cases h; exact ⟨.base .non, by simp [tyNames]⟩
  | bl b => cases ra; cases h; exact ⟨.base (.bl b), by simp [tyNames]⟩
  | int b => cases ra; cases h; exact ⟨.base (.int b), by simp [tyNames]⟩
  | str b => cases ra; cases h; exact ⟨.base (.str b), by simp [tyNames]⟩
  | tup ds =>
    cases h
    obtain ⟨p, vs, rfl, h1, _⟩ := ra
    refine ⟨?_, by simp [tyNames]⟩
    rcases sq_of_fr h1 with (h | ⟨o, h⟩) | ⟨o, its, n, h, hc, _⟩
    · exact .base (.tup h)
    · exact .fTuple h
    · exact .kTuple h hc
  | lst ds =>
    cases h
    obtain ⟨p, vs, rfl, h1, _⟩ := ra
    exact ⟨.base (.lst (Fr.sub h1).2), by simp [tyNames]⟩
  | ref i =>
    obtain ⟨p, h1, rfl⟩ := ra
    unfold tyOf at h
    dsimp only at h
    split at h
    · rename_i ds q
      cases h
      obtain ⟨vs, h2, _⟩ := hs.lst h1 q
      exact ⟨.base (.lst h2), by simp [tyNames]⟩
    · rename_i ks ds q
      cases h
      obtain ⟨vs, h2, _⟩ := hs.own i p _ h1 q
      exact ⟨.base (.dK h2), by simp [tyNames]⟩
    · rename_i ks ds q
      cases h
      obtain ⟨vs, h2, _⟩ := hs.own i p _ h1 q
      exact ⟨.base (.dT h2), by simp [tyNames]⟩
    · cases h
  | _ => cases h
theorem mp_isi : CallR X (.builtin "isinstance") (rPC (gx X) (p2 pIsI)) := by
  refine c2 call_isi fun a b s ι x y H Q hs ra rb q => ?_
  unfold pIsI at q
  split at q
  · rename_i t T e
    split at q
    · rename_i hT
      obtain ⟨h1, h2⟩ := tyOf_at hs ra e
      exact ⟨x, .ty T, _, _, _, by rw [show y = .ty T from rb], .ty T, h1, kit_ty h2 hT, q _ H ι hs .refl rfl⟩
    · exact q.elim
  · exact q.elim
/-- a built-in class as a value -/
theorem se_ty {x : Str} {T : String} (hv : bootBuiltins x = some (.type T)) (hm : X.mg x = none) (hg : Gl X x := by rfl) (hn : x ≠ "__name__" := by decide) (hd : (x == ("__debug__" : Str)) = false := by decide) : SemE X W (.Name x pos) (eC (.ty T)) :=
  se_c (pe_bltn (v := .ty T) hg hm hv rfl hn hd) fun _ _ => rfl
end
end Mp

namespace Mp
open PySem L2

/-! ### statements: what they give -/
inductive SR where
  | nx (e : Sl) (s : S) | rt (d : D) (s : S) | bk (e : Sl) (s : S) | ct (e : Sl) (s : S) | ex (x : Xc) (e : Sl) (s : S) | stuck
abbrev MS := Sl → S → SR
abbrev ME := Sl → S → Res D
abbrev MT := Sl → S → Res Bool
abbrev MA := Sl → S → Res (List D)
abbrev FD := List D → S → Res D
def Res.toS {α : Type} (r : Res α) (e : Sl) (k : α → S → SR) : SR := match r with
  | .ok a s => k a s
  | .exc x s => .ex x e s
  | .stuck => .stuck
def PostS (g : G) (W : WX) (ι : List Addr) (H : Hp) (r : SR) (Dn : Ends) : Prop :=
  match r with
  | .nx e s => ∀ σ' H' ι', Sim g ι' H' s → Ext ι H ι' H' → EnvR g ι' H' e σ' → Dn.nx σ' H'
  | .rt d s => ∀ v H' ι', Sim g ι' H' s → Ext ι H ι' H' → Rep g ι' H' d v → Dn.rt v H'
  | .bk e s => ∀ σ' H' ι', Sim g ι' H' s → Ext ι H ι' H' → EnvR g ι' H' e σ' → Dn.bk σ' H'
  | .ct e s => ∀ σ' H' ι', Sim g ι' H' s → Ext ι H ι' H' → EnvR g ι' H' e σ' → Dn.ct σ' H'
  | .ex x e s => ∀ c dd σ' H' ι', Sim g ι' H' s → Ext ι H ι' H' → EnvR g ι' H' e σ' → XRep g x c dd H' → W c dd σ' H'
  | .stuck => False
def rdS (g : G) (W : WX) (f : MS) : TS := fun Dn σ H => ∃ env s ι, Sim g ι H s ∧ EnvR g ι H env σ ∧ PostS g W ι H (f env s) Dn
def SemS (X : Cx) (W : WX) (st : Stmt) (f : MS) : Prop := PS X st (rdS (gx X) W f)
def SemSs (X : Cx) (W : WX) (sts : List Stmt) (f : MS) : Prop := PSs X sts (rdS (gx X) W f)
section
variable {g : G} {W : WX} {ι ι' : List Addr} {H H' : Hp} {σ : L2.St} {env : Sl} {Dn Dn' : Ends}
theorem PostS.mono {r : SR} (h : PostS g W ι H r Dn) (h1 : ∀ σ H, Dn.nx σ H → Dn'.nx σ H) (h2 : ∀ v H, Dn.rt v H → Dn'.rt v H) (h3 : ∀ σ H, Dn.bk σ H → Dn'.bk σ H) (h4 : ∀ σ H, Dn.ct σ H → Dn'.ct σ H) : PostS g W ι H r Dn' := by
  cases r with
  | nx e s => exact fun σ' H' ι' a b c => h1 _ _ (h σ' H' ι' a b c)
  | rt e s => exact fun σ' H' ι' a b c => h2 _ _ (h σ' H' ι' a b c)
  | bk e s => exact fun σ' H' ι' a b c => h3 _ _ (h σ' H' ι' a b c)
  | ct e s => exact fun σ' H' ι' a b c => h4 _ _ (h σ' H' ι' a b c)
  | ex x e s => exact h
  | stuck => exact h
theorem PostS.ext {r : SR} (h : PostS g W ι H r Dn) (e : Ext ι H ι' H') : PostS g W ι' H' r Dn := by
  cases r with
  | nx _ s => exact fun σ' H2 ι2 a b c => h σ' H2 ι2 a (e.trans b) c
  | rt _ s => exact fun σ' H2 ι2 a b c => h σ' H2 ι2 a (e.trans b) c
  | bk _ s => exact fun σ' H2 ι2 a b c => h σ' H2 ι2 a (e.trans b) c
  | ct _ s => exact fun σ' H2 ι2 a b c => h σ' H2 ι2 a (e.trans b) c
  | ex x _ s => exact fun c dd σ' H2 ι2 a b d => h c dd σ' H2 ι2 a (e.trans b) d
  | stuck => exact h
theorem PostS.ofE {α β : Type} {R : RelA α β} {r : Res α} {k : α → S → SR} (h : PostS g W ι H (r.toS env k) Dn) (he : EnvR g ι H env σ) :
    Post R g W ι H σ r fun v H1 => ∃ s1 ι1 a, Sim g ι1 H1 s1 ∧ Ext ι H ι1 H1 ∧ R ι1 H1 a v ∧ PostS g W ι1 H1 (k a s1) Dn := by
  cases r with
  | ok d s' => exact fun v H1 ι1 a b c => ⟨s', ι1, d, a, b, c, PostS.ext h b⟩
  | exc x s' => exact fun c dd H1 ι1 a b d => h c dd σ H1 ι1 a b (he.ext b) d
  | stuck => exact h
end
def runDef (N : Nat) (m : MS) : FD := fun ds s => match m (ds.map some ++ List.replicate (N - ds.length) none) s with
  | .nx _ s => .ok .non s
  | .rt d s => .ok d s
  | .ex x _ s => .exc x s
  | _ => .stuck
/-! ### what a def promises -/
def PostX (g : G) (ι : List Addr) (H : Hp) (r : Res D) (Q : VK) (E : XK) : Prop := Post (RV g) g (fun c dd _ H => E c dd H) ι H [] r Q
def spOf (g : G) (n : Nat) (F : FD) : Sp := fun vs H Q E => vs.length = n ∧ ∃ ds s ι, Sim g ι H s ∧ RepL g ι H ds vs ∧ PostX g ι H (F ds s) Q E
theorem envR_start {g : G} {ι : List Addr} {H : Hp} {N : List Str} {ds : List D} {vs : List V} (r : RepL g ι H ds vs) : EnvR g ι H (ds.map some ++ List.replicate (N.length - ds.length) none) (L2.start N vs) := by
  refine ⟨by simp [L2.start, r.length], fun i d q => ?_⟩
  by_cases hi : i < ds.length
  · rw [List.getElem?_append_left (by simpa using hi)] at q
    rw [List.getElem?_map] at q
    cases e : ds[i]? with
    | none => rw [e] at q; cases q
    | some d' =>
      rw [e] at q
      have : d' = d := by simpa using q
      subst this
      obtain ⟨v, h1, h2⟩ := r.get e
      refine ⟨v, ?_, h2⟩
      unfold L2.start
      rw [List.getElem?_append_left (by rw [List.length_map, ← r.length]; exact hi), List.getElem?_map, h1]
      rfl
  · rw [List.getElem?_append_right (by simpa using hi)] at q
    rw [List.getElem?_replicate] at q
    split at q <;> cases q
structure Cok (X : Cx) (W : WX) (k : Nat) : Prop where
  nd : X.N.Nodup
  calm : X.calm = true
  pass : PassesOwn (model X.prog X.w) X.A X.env X.xe
  tk : Takes X W
  room : Room k X.A
theorem Cok.hu {X : Cx} {W : WX} {k : Nat} (c : Cok X W k) : X.A.units + 64 < cLine := c.room.units
theorem Cok.hu0 {X : Cx} {W : WX} {k : Nat} (c : Cok X W k) : X.A.units < cLine := c.room.units0
section
variable {P : Program} {w : World} {K : PySem.W.Frag} {mg : Str → Option Value} {base : Heap}
abbrev WE1 (E : XK) : WX := fun c dd _ H => E c dd H
theorem fn_sem {x qual : Str} {st : Stmt} {f : Addr} {fd : FuncData} {N ps : List Str} {k : Nat} {m : MS} (F : Fun K x qual st f fd) (Sc : FnScope N ps (defScope st)) (hN : N.Nodup)
    (h : ∀ (cdv : Value) (A : Around) (outer : List PySem.Env) (s : Shared) (H : Hp) (E : XK), Cok (cxOf (L2.CX P w) P w K mg base N qual (defScope st) f cdv A outer s H E) (WE1 E) k →
      SemSs (cxOf (L2.CX P w) P w K mg base N qual (defScope st) f cdv A outer s H E) (WE1 E) (defBody st) m) : FnOk P w K mg base (L2.CX P w) (k + 1) f fd ps (spOf ⟨K, mg⟩ ps.length (runDef N.length m)) := by
  refine F.okX Sc (fun vs H Q E h => h.1) (fun cdv A outer s H vs Q E hr hsp => ?_)
  refine ⟨_, h cdv A outer s H E ⟨hN, rfl, passes_of rfl, takes_of rfl rfl rfl rfl, hr⟩, ?_⟩
  obtain ⟨hl, ds, st', ι, hs, ra, q⟩ := hsp
  refine ⟨_, st', ι, hs, envR_start ra, ?_⟩
  unfold runDef at q
  cases e : m (ds.map some ++ List.replicate (N.length - ds.length) none) st' with
  | nx e' s' => rw [e] at q; exact fun σ' H' ι' a b c => q .non H' ι' a b rfl
  | rt d s' => rw [e] at q; exact fun v H' ι' a b c => q v H' ι' a b c
  | ex x' e' s' => rw [e] at q; exact fun c dd σ' H' ι' a b d r => q c dd H' ι' a b r
  | bk e' s' => rw [e] at q; exact q.elim
  | ct e' s' => rw [e] at q; exact q.elim
  | stuck => rw [e] at q; exact q.elim
/-- the module's name x holds a def of n parameters that does F, by at most k calls one in another -/
structure Cal (P : Program) (w : World) (K : PySem.W.Frag) (mg : Str → Option Value) (base : Heap) (x : Str) (k n : Nat) (F : FD) : Prop where
  ex : ∃ f fd ps, FnOk P w K mg base (L2.CX P w) k f fd ps (spOf ⟨K, mg⟩ n F) ∧ ps.length = n ∧ mg x = some (.ref f) ∧ PySem.W.keepIn K (.ref f) = true ∧ Binds K fd ps []
/-- less is promised -/
theorem sp_imp {n : Nat} {g : G} {F F' : FD} (h : ∀ ds s, F' ds s ≠ .stuck → F ds s = F' ds s) (vs : List V) (H : Hp) (Q : VK) (E : XK) (q : spOf g n F' vs H Q E) : spOf g n F vs H Q E := by
  obtain ⟨hl, ds, s, ι, hs, ra, q⟩ := q
  refine ⟨hl, ds, s, ι, hs, ra, ?_⟩
  rw [h ds s fun e => by rw [e] at q; exact q]
  exact q
theorem Cal.less {x : Str} {k n : Nat} {F F' : FD} (c : Cal P w K mg base x k n F) (h : ∀ ds s, F' ds s ≠ .stuck → F ds s = F' ds s) : Cal P w K mg base x k n F' := by
  obtain ⟨f, fd, ps, h1, h2⟩ := c
  exact ⟨f, fd, ps, h1.imp (sp_imp h), h2⟩
theorem Cal.mono {x : Str} {j k n : Nat} {F : FD} (c : Cal P w K mg base x j n F) (h : j ≤ k) : Cal P w K mg base x k n F := by
  obtain ⟨f, fd, ps, h1, h2⟩ := c
  exact ⟨f, fd, ps, h1.mono h, h2⟩
end

/-! ### the store cut back behind a def -/
mutual
def noRef : D → Bool
  | .ref _ => false
  | .tup ds => noRefs ds
  | .lst ds => noRefs ds
  | .obj _ _ ds => noRefs ds
  | .non => true | .bl _ => true | .int _ => true | .str _ => true | .scr _ => true | .glo _ => true | .ty _ => true
def noRefs : List D → Bool
  | [] => true
  | d :: ds => noRef d && noRefs ds
end
def noRefO : O → Bool
  | .lst ds => noRefs ds
  | .dK _ ds => noRefs ds
  | .dT _ ds => noRefs ds
  | .ins _ _ ds => noRefs ds
mutual
def same : D → D → Bool
  | .non, .non => true
  | .bl a, .bl b => a == b
  | .int a, .int b => a == b
  | .str a, .str b => decide (a = b)
  | .ref a, .ref b => a == b
  | .scr a, .scr b => a == b
  | .glo a, .glo b => decide (a = b)
  | .ty a, .ty b => a == b
  | .tup a, .tup b => sames a b
  | .lst a, .lst b => sames a b
  | .obj C ns a, .obj C' ns' b => decide (C = C') && decide (ns = ns') && sames a b
  | _, _ => false
def sames : List D → List D → Bool
  | [], [] => true
  | a :: as, b :: bs => same a b && sames as bs
  | _, _ => false
end
mutual
theorem same_eq : ∀ (a b : D), same a b = true → a = b
  | .non, b, h => by cases b <;> first | rfl | (simp [same] at h; done)
  | .bl _, b, h => by cases b <;> first | (simp [same] at h; done) | (simp [same] at h; rw [h])
  | .int _, b, h => by cases b <;> first | (simp [same] at h; done) | (simp [same] at h; rw [h])
  | .str _, b, h => by cases b <;> first | (simp [same] at h; done) | (simp [same] at h; rw [h])
  | .ref _, b, h => by cases b <;> first | (simp [same] at h; done) | (simp [same] at h; rw [h])
  | .scr _, b, h => by cases b <;> first | (simp [same] at h; done) | (simp [same] at h; rw [h])
  | .glo _, b, h => by cases b <;> first | (simp [same] at h; done) | (simp [same] at h; rw [h])
  | .ty _, b, h => by cases b <;> first | (simp [same] at h; done) | (simp [same] at h; rw [h])
  | .tup as, b, h => by cases b <;> first | (simp [same] at h; done) | (simp only [same] at h; rw [sames_eq as _ h])
  | .lst as, b, h => by cases b <;> first | (simp [same] at h; done) | (simp only [same] at h; rw [sames_eq as _ h])
  | .obj C ns as, b, h => by
    cases b <;> first | (simp [same] at h; done) | skip
    simp only [same, Bool.and_eq_true, decide_eq_true_eq] at h
    rw [h.1.1, h.1.2, sames_eq as _ h.2]
theorem sames_eq : ∀ (as bs : List D), sames as bs = true → as = bs
  | [], bs, h => by cases bs <;> first | rfl | (simp [sames] at h; done)
  | a :: as, bs, h => by
    cases bs <;> first | (simp [sames] at h; done) | skip
    simp only [sames, Bool.and_eq_true] at h
    rw [same_eq a _ h.1, sames_eq as _ h.2]
end
mutual
theorem same_refl : ∀ a : D, same a a = true
  | .non => by simp [same] | .bl _ => by simp [same] | .int _ => by simp [same] | .str _ => by simp [same] | .ref _ => by simp [same] | .scr _ => by simp [same] | .glo _ => by simp [same] | .ty _ => by simp [same]
  | .tup as => by simp only [same]; exact sames_refl as
  | .lst as => by simp only [same]; exact sames_refl as
  | .obj C ns as => by simp only [same, decide_true, Bool.true_and]; exact sames_refl as
theorem sames_refl : ∀ as : List D, sames as as = true
  | [] => by simp [sames]
  | a :: as => by simp only [sames, Bool.and_eq_true]; exact ⟨same_refl a, sames_refl as⟩
end
def sameO : O → O → Bool
  | .lst a, .lst b => sames a b
  | .dK k a, .dK k' b => decide (k = k') && sames a b
  | .dT k a, .dT k' b => decide (k = k') && sames a b
  | .ins C ns a, .ins C' ns' b => decide (C = C') && decide (ns = ns') && sames a b
  | _, _ => false
theorem sameO_eq (a b : O) (h : sameO a b = true) : a = b := by
  cases a <;> cases b <;> first
    | (simp [sameO] at h; done)
    | (simp only [sameO, Bool.and_eq_true, decide_eq_true_eq] at h; first
      | rw [sames_eq _ _ h]
      | rw [h.1, sames_eq _ _ h.2]
      | rw [h.1.1, h.1.2, sames_eq _ _ h.2])
theorem sameO_refl (a : O) : sameO a a = true := by
  cases a <;> simp [sameO, sames_refl]
/-- the old objects are as they were, or hold no owned ones -/
def okT : S → S → Bool
  | [], _ => true
  | a :: as, b :: bs => (sameO a b || noRefO b) && okT as bs
  | _ :: _, [] => false
theorem okT_at : ∀ {s s' : S} {i : Nat} {o : O}, okT s s' = true → s[i]? = some o → ∃ o', s'[i]? = some o' ∧ (o = o' ∨ noRefO o' = true)
  | [], _, _, _, _, e => by simp at e
  | a :: as, [], _, _, h, _ => by simp [okT] at h
  | a :: as, b :: bs, 0, o, h, e => by
    simp only [okT, Bool.and_eq_true, Bool.or_eq_true] at h
    simp at e; subst e
    exact ⟨b, rfl, h.1.imp (sameO_eq a b) id⟩
  | a :: as, b :: bs, i + 1, o, h, e => by
    simp only [okT, Bool.and_eq_true] at h
    obtain ⟨o', h1, h2⟩ := okT_at (i := i) (o := o) h.2 (by simpa using e)
    exact ⟨o', by simpa using h1, h2⟩
theorem okT_len : ∀ {s s' : S}, okT s s' = true → s.length ≤ s'.length
  | [], _, _ => by simp
  | a :: as, [], h => by simp [okT] at h
  | a :: as, b :: bs, h => by
    simp only [okT, Bool.and_eq_true] at h
    have := okT_len h.2
    simp; omega
theorem okT_app : ∀ (s t : S), okT s (s ++ t) = true
  | [], t => rfl
  | a :: as, t => by
    show ((sameO a a || noRefO a) && okT as (as ++ t)) = true
    rw [sameO_refl, okT_app as t]; rfl
theorem okT_refl (s : S) : okT s s = true := by have := okT_app s []; rwa [List.append_nil] at this
theorem okT_set {o : O} (h : noRefO o = true) : ∀ (s s' : S) (i : Nat), okT s s' = true → okT s (s'.set i o) = true
  | [], _, _, _ => by simp [okT]
  | a :: as, [], _, h' => by simp [okT] at h'
  | a :: as, b :: bs, 0, h' => by
    simp only [okT, Bool.and_eq_true, List.set_cons_zero] at h' ⊢
    exact ⟨by rw [h, Bool.or_true], h'.2⟩
  | a :: as, b :: bs, i + 1, h' => by
    simp only [okT, Bool.and_eq_true, List.set_cons_succ] at h' ⊢
    exact ⟨h'.1, okT_set h as bs i h'.2⟩
mutual
/-- told on: what the def owned is now nobody's -/
def fz (n : Nat) (s : S) : D → Option D
  | .ref i => if n ≤ i then match s[i]? with
      | some (.lst ds) => if noRefs ds = true then some (.lst ds) else none
      | some (.ins C ns ds) => if noRefs ds = true then some (.obj C ns ds) else none
      | _ => none
    else none
  | .tup ds => (fzs n s ds).map .tup
  | .lst ds => (fzs n s ds).map .lst
  | .obj C ns ds => (fzs n s ds).map (.obj C ns)
  | .non => some .non | .bl b => some (.bl b) | .int i => some (.int i) | .str x => some (.str x) | .scr ns => some (.scr ns) | .glo x => some (.glo x) | .ty n => some (.ty n)
def fzs (n : Nat) (s : S) : List D → Option (List D)
  | [] => some []
  | d :: ds => match fz n s d, fzs n s ds with
    | some d, some ds => some (d :: ds)
    | _, _ => none
end
def cut (F : FD) : FD := fun ds s => match F ds s with
  | .ok d s' => if okT s s' = true then match fz s.length s' d with
      | some d' => .ok d' (s'.take s.length)
      | none => .stuck
    else .stuck
  | .exc x s' => if okT s s' = true then .exc x (s'.take s.length) else .stuck
  | .stuck => .stuck
/-- the same where a new list is handed out to be changed -/
def cutO (F : FD) : FD := fun ds s => match F ds s with
  | .ok (.ref i) s' => if okT s s' = true ∧ s.length ≤ i then match s'[i]? with
      | some o => if noRefO o = true then .ok (.ref s.length) (s'.take s.length ++ [o]) else .stuck
      | none => .stuck
    else .stuck
  | _ => .stuck
section
variable {g : G} {ι ι' t : List Addr} {H H' : Hp} {s s' : S}
/-- the row ι leaves out owned ones of ι', the first n stand alike -/
structure Down (ι ι' : List Addr) (n : Nat) : Prop where
  sub : ∀ a, a ∈ ι → a ∈ ι'
  ix : ∀ (i : Nat) (q : Addr), i < n → ι'[i]? = some q → ι[i]? = some q
theorem Down.of (e : ι' = ι ++ t) : Down ι ι' ι.length := ⟨fun a m => by rw [e]; exact List.mem_append_left _ m, fun i q hi h => by rw [e, List.getElem?_append_left hi] at h; exact h⟩
theorem fr_less {n : Nat} (e : Down ι ι' n) {a : Addr} {o : HO} (h : Fr ι' H a = some o) : Fr ι H a = some o := by
  obtain ⟨h1, h2⟩ := Fr.sub h
  exact Fr.mk (fun m => h1 (e.sub _ m)) h2
theorem rd_less {n : Nat} (e : Down ι ι' n) {a : Addr} {u : HO} (h : Rd (Fr ι' H) a u) : Rd (Fr ι H) a u := by
  rcases h with h | ⟨o, h⟩
  · exact .inl (fr_less e h)
  · exact .inr ⟨o, fr_less e h⟩
mutual
theorem Rep.less {m : Nat} (e : Down ι ι' m) : ∀ (d : D) (v : V), noRef d = true → Rep g ι' H d v → Rep g ι H d v
  | .non, v, _, h => h | .bl _, v, _, h => h | .int _, v, _, h => h | .str _, v, _, h => h | .glo _, v, _, h => h | .ty _, v, _, h => h
  | .ref i, v, n, h => nomatch n
  | .tup ds, v, n, h => by
    obtain ⟨p, vs, h1, h2, h3⟩ := h
    refine ⟨p, vs, h1, ?_, RepL.less e ds vs n h3⟩
    rcases h2 with h2 | h2
    · exact .inl (rd_less e h2)
    · exact .inr h2
  | .lst ds, v, n, h => by
    obtain ⟨p, vs, h1, h2, h3⟩ := h
    exact ⟨p, vs, h1, fr_less e h2, RepL.less e ds vs n h3⟩
  | .scr ns, v, n, h => by
    obtain ⟨p, h1, h2⟩ := h
    refine ⟨p, h1, ?_⟩
    rcases h2 with h2 | h2
    · exact .inl (rd_less e h2)
    · exact .inr h2
  | .obj C ns ds, v, n, h => by
    obtain ⟨p, Ca, dx, vs, h1, h2, h3, h4, h5⟩ := h
    exact ⟨p, Ca, dx, vs, h1, h2, fr_less e h3, h4, RepL.less e ds vs n h5⟩
theorem RepL.less {m : Nat} (e : Down ι ι' m) : ∀ (ds : List D) (vs : List V), noRefs ds = true → RepL g ι' H ds vs → RepL g ι H ds vs
  | [], vs, _, h => h
  | d :: ds, vs, n, h => by
    obtain ⟨v, r, h1, h2, h3⟩ := h
    have n' : noRef d = true ∧ noRefs ds = true := by simpa [noRefs] using n
    exact ⟨v, r, h1, Rep.less e d v n'.1 h2, RepL.less e ds r n'.2 h3⟩
end
mutual
/-- what stood at the entry is told as before -/
theorem Rep.back {ι₀ : List Addr} {H₀ : Hp} (e : Down ι ι' ι₀.length) : ∀ (d : D) (v v₀ : V), Rep g ι₀ H₀ d v₀ → Rep g ι' H d v → Rep g ι H d v
  | .non, v, _, _, h => h | .bl _, v, _, _, h => h | .int _, v, _, _, h => h | .str _, v, _, _, h => h | .glo _, v, _, _, h => h | .ty _, v, _, _, h => h
  | .ref i, v, v₀, n, h => by
    obtain ⟨p, h1, h2⟩ := h
    obtain ⟨q, h3, _⟩ := n
    exact ⟨p, e.ix i p (List.getElem?_eq_some_iff.mp h3).1 h1, h2⟩
  | .tup ds, v, v₀, n, h => by
    obtain ⟨p, vs, h1, h2, h3⟩ := h
    obtain ⟨p', vs', _, _, h3'⟩ := n
    refine ⟨p, vs, h1, ?_, RepL.back e ds vs vs' h3' h3⟩
    rcases h2 with h2 | h2
    · exact .inl (rd_less e h2)
    · exact .inr h2
  | .lst ds, v, v₀, n, h => by
    obtain ⟨p, vs, h1, h2, h3⟩ := h
    obtain ⟨p', vs', _, _, h3'⟩ := n
    exact ⟨p, vs, h1, fr_less e h2, RepL.back e ds vs vs' h3' h3⟩
  | .scr ns, v, v₀, n, h => by
    obtain ⟨p, h1, h2⟩ := h
    refine ⟨p, h1, ?_⟩
    rcases h2 with h2 | h2
    · exact .inl (rd_less e h2)
    · exact .inr h2
  | .obj C ns ds, v, v₀, n, h => by
    obtain ⟨p, Ca, dx, vs, h1, h2, h3, h4, h5⟩ := h
    obtain ⟨_, _, _, vs', _, _, _, _, h5'⟩ := n
    exact ⟨p, Ca, dx, vs, h1, h2, fr_less e h3, h4, RepL.back e ds vs vs' h5' h5⟩
theorem RepL.back {ι₀ : List Addr} {H₀ : Hp} (e : Down ι ι' ι₀.length) : ∀ (ds : List D) (vs vs₀ : List V), RepL g ι₀ H₀ ds vs₀ → RepL g ι' H ds vs → RepL g ι H ds vs
  | [], vs, _, _, h => h
  | d :: ds, vs, vs₀, n, h => by
    obtain ⟨v, r, h1, h2, h3⟩ := h
    obtain ⟨v', r', _, h2', h3'⟩ := n
    exact ⟨v, r, h1, Rep.back e d v v' h2' h2, RepL.back e ds r r' h3' h3⟩
end
mutual
theorem fz_rep (e : ι' = ι ++ t) (hs : Sim g ι' H s) : ∀ (d d' : D) (v : V), fz ι.length s d = some d' → Rep g ι' H d v → Rep g ι H d' v
  | .non, d', v, q, h => by cases q; exact h
  | .bl _, d', v, q, h => by cases q; exact h
  | .int _, d', v, q, h => by cases q; exact h
  | .str _, d', v, q, h => by cases q; exact h
  | .glo _, d', v, q, h => by cases q; exact h
  | .ty _, d', v, q, h => by cases q; exact h
  | .scr ns, d', v, q, h => by cases q; exact Rep.less (.of e) (.scr ns) v rfl h
  | .ref i, d', v, q, h => by
    obtain ⟨p, h1, h2⟩ := h
    unfold fz at q
    split at q
    · rename_i hi
      have hp : p ∉ ι := fun hm => by
        obtain ⟨j, hj, ej⟩ := List.getElem_of_mem hm
        have nd := hs.nd
        subst e
        rw [List.getElem?_append_right hi] at h1
        exact (List.nodup_append.mp nd).2.2 p hm p (List.mem_of_getElem? h1) rfl
      split at q
      · rename_i ds hd
        split at q
        · rename_i hn
          cases q
          obtain ⟨vs, h3, h4⟩ := hs.lst h1 hd
          exact ⟨p, vs, h2, Fr.mk hp h3, RepL.less (.of e) ds vs hn h4⟩
        · cases q
      · rename_i C ns ds hd
        split at q
        · rename_i hn
          cases q
          obtain ⟨Ca, dx, vs, h0, h3, hl, h4⟩ := hs.own i p _ h1 hd
          exact ⟨p, Ca, dx, vs, h2, h0, Fr.mk hp h3, hl, RepL.less (.of e) ds vs hn h4⟩
        · cases q
      · cases q
    · cases q
  | .tup ds, d', v, q, h => by
    obtain ⟨p, vs, h1, h2, h3⟩ := h
    unfold fz at q
    cases q' : fzs ι.length s ds with
    | none => rw [q'] at q; cases q
    | some ds' =>
      rw [q'] at q; cases q
      refine ⟨p, vs, h1, ?_, fzs_rep e hs ds ds' vs q' h3⟩
      rcases h2 with h2 | h2
      · exact .inl (rd_less (.of e) h2)
      · exact .inr h2
  | .lst ds, d', v, q, h => by
    obtain ⟨p, vs, h1, h2, h3⟩ := h
    unfold fz at q
    cases q' : fzs ι.length s ds with
    | none => rw [q'] at q; cases q
    | some ds' =>
      rw [q'] at q; cases q
      exact ⟨p, vs, h1, fr_less (.of e) h2, fzs_rep e hs ds ds' vs q' h3⟩
  | .obj C ns ds, d', v, q, h => by
    obtain ⟨p, Ca, dx, vs, h1, h2, h3, h4, h5⟩ := h
    unfold fz at q
    cases q' : fzs ι.length s ds with
    | none => rw [q'] at q; cases q
    | some ds' =>
      rw [q'] at q; cases q
      have h6 := fzs_rep e hs ds ds' vs q' h5
      exact ⟨p, Ca, dx, vs, h1, h2, fr_less (.of e) h3, by rw [h4, h5.length, h6.length], h6⟩
theorem fzs_rep (e : ι' = ι ++ t) (hs : Sim g ι' H s) : ∀ (ds ds' : List D) (vs : List V), fzs ι.length s ds = some ds' → RepL g ι' H ds vs → RepL g ι H ds' vs
  | [], ds', vs, q, h => by cases q; exact h
  | d :: ds, ds', vs, q, h => by
    obtain ⟨v, r, h1, h2, h3⟩ := h
    unfold fzs at q
    cases q1 : fz ι.length s d with
    | none => rw [q1] at q; cases q
    | some d1 =>
      cases q2 : fzs ι.length s ds with
      | none => rw [q1, q2] at q; cases q
      | some ds1 =>
        rw [q1, q2] at q; cases q
        exact ⟨v, r, h1, fz_rep e hs d d1 v q1 h2, fzs_rep e hs ds ds1 r q2 h3⟩
end
theorem Ext.cutB (e : Ext ι H ι' H') : Ext ι H ι H' := by
  obtain ⟨⟨t, rfl⟩, k⟩ := e
  exact ⟨⟨[], by simp⟩, fun a o h1 h2 => ⟨h1, (k a o h1 h2).2⟩⟩
theorem Sim.down {ι₁ : List Addr} (h0 : Sim g ι H s) (h : Sim g ι' H' s') (e : Ext ι H ι' H') (ok : okT s s' = true) (dn : Down ι₁ ι' ι.length) : ∀ (i : Nat) (p : Addr) (o : O), ι[i]? = some p → (s'.take s.length)[i]? = some o → Holds g ι₁ H' p o := fun i p o e1 e2 => by
  have hi : i < ι.length := (List.getElem?_eq_some_iff.mp e1).1
  have e2' : s'[i]? = some o := by
    rw [List.getElem?_take, if_pos (by rw [← h0.len]; exact hi)] at e2
    exact e2
  have e0 : ∃ o₀, s[i]? = some o₀ := ⟨s[i]'(by rw [← h0.len]; exact hi), by simp [← h0.len, hi]⟩
  obtain ⟨o₀, e0⟩ := e0
  obtain ⟨o', e3, c⟩ := okT_at ok e0
  rw [e2'] at e3; cases e3
  have k0 := h0.own i p o₀ e1 e0
  have k := h.own i p o (e.ix e1) e2'
  rcases c with c | c
  · subst c
    cases o₀ with
    | lst ds => obtain ⟨vs, h1, h2⟩ := k; obtain ⟨vs', _, h2'⟩ := k0; exact ⟨vs, h1, RepL.back dn ds vs vs' h2' h2⟩
    | dK ks ds => obtain ⟨vs, h1, h3, h2⟩ := k; obtain ⟨vs', _, _, h2'⟩ := k0; exact ⟨vs, h1, h3, RepL.back dn ds vs vs' h2' h2⟩
    | dT ks ds => obtain ⟨vs, h1, h3, h2⟩ := k; obtain ⟨vs', _, _, h2'⟩ := k0; exact ⟨vs, h1, h3, RepL.back dn ds vs vs' h2' h2⟩
    | ins C ns ds => obtain ⟨Ca, dx, vs, h0', h1, h3, h2⟩ := k; obtain ⟨_, _, vs', _, _, _, h2'⟩ := k0; exact ⟨Ca, dx, vs, h0', h1, h3, RepL.back dn ds vs vs' h2' h2⟩
  · cases o with
    | lst ds => obtain ⟨vs, h1, h2⟩ := k; exact ⟨vs, h1, RepL.less dn ds vs c h2⟩
    | dK ks ds => obtain ⟨vs, h1, h3, h2⟩ := k; exact ⟨vs, h1, h3, RepL.less dn ds vs c h2⟩
    | dT ks ds => obtain ⟨vs, h1, h3, h2⟩ := k; exact ⟨vs, h1, h3, RepL.less dn ds vs c h2⟩
    | ins C ns ds => obtain ⟨Ca, dx, vs, h0', h1, h3, h2⟩ := k; exact ⟨Ca, dx, vs, h0', h1, h3, RepL.less dn ds vs c h2⟩
theorem Sim.cutB (h0 : Sim g ι H s) (h : Sim g ι' H' s') (e : Ext ι H ι' H') (ok : okT s s' = true) : Sim g ι H' (s'.take s.length) := by
  obtain ⟨t, et⟩ := id e.pre
  have hl := okT_len ok
  exact ⟨by rw [List.length_take, Nat.min_eq_left hl, h0.len], h0.nd, h0.down h e ok (.of et)⟩
theorem XRep.same {x : Xc} {c : Value} {dd : Option Addr} (h : XRep g x c dd H) : XRep g x c dd H := h
theorem post_cut {F : FD} {ds : List D} {W : WX} {σ : L2.St} {Q : VK} (h0 : Sim g ι H s) (h : Post (RV g) g W ι H σ (cut F ds s) Q) : Post (RV g) g W ι H σ (F ds s) Q := by
  unfold cut at h
  cases q : F ds s with
  | stuck => rw [q] at h; exact h
  | ok d s' =>
    rw [q] at h
    dsimp only at h
    split at h
    · rename_i ok
      split at h
      · rename_i d' q'
        intro v H' ι' a b c
        obtain ⟨t, et⟩ := b.pre
        exact h v H' ι (h0.cutB a b ok) b.cutB (fz_rep et a d d' v (by rw [h0.len]; exact q') c)
      · exact h.elim
    · exact h.elim
  | exc x s' =>
    rw [q] at h
    dsimp only at h
    split at h
    · rename_i ok
      exact fun c dd H' ι' a b r => h c dd H' ι (h0.cutB a b ok) b.cutB r
    · exact h.elim
theorem post_cutO {F : FD} {ds : List D} {W : WX} {σ : L2.St} {Q : VK} (h0 : Sim g ι H s) (h : Post (RV g) g W ι H σ (cutO F ds s) Q) : Post (RV g) g W ι H σ (F ds s) Q := by
  unfold cutO at h
  split at h
  · rename_i i s' q
    rw [q]
    split at h
    · rename_i hc
      obtain ⟨ok, hi⟩ := hc
      split at h
      · rename_i o ho
        split at h
        · rename_i hn
          intro v H' ι' a b c
          obtain ⟨p, h1, rfl⟩ := c
          obtain ⟨t, et⟩ := b.pre
          have hp : p ∉ ι := fun hm => by
            have nd := a.nd
            rw [et] at nd h1
            rw [List.getElem?_append_right (by rw [h0.len]; exact hi)] at h1
            exact (List.nodup_append.mp nd).2.2 p hm p (List.mem_of_getElem? h1) rfl
          have dn : Down (ι ++ [p]) ι' ι.length := ⟨fun x m => by
            rcases List.mem_append.mp m with m | m
            · rw [et]; exact List.mem_append_left _ m
            · have : x = p := by simpa using m
              subst this
              exact List.mem_of_getElem? h1, fun j q' hj hq => by
            rw [et, List.getElem?_append_left hj] at hq
            rw [List.getElem?_append_left hj]; exact hq⟩
          have ln : (s'.take s.length).length = s.length := by rw [List.length_take, Nat.min_eq_left (okT_len ok)]
          refine h (.ref p) H' (ι ++ [p]) ⟨by rw [List.length_append, List.length_append, ln, h0.len]; rfl, ?_, fun j q' u e1 e2 => ?_⟩ ⟨⟨[p], rfl⟩, fun x u x1 x2 => ?_⟩ ⟨p, by rw [← h0.len]; simp, rfl⟩
          · rw [List.nodup_append]
            refine ⟨h0.nd, by simp, fun x hx y hy => ?_⟩
            have : y = p := by simpa using hy
            subst this
            exact fun z => hp (z ▸ hx)
          · by_cases hj : j < ι.length
            · rw [List.getElem?_append_left hj] at e1
              rw [List.getElem?_append_left (by rw [ln, ← h0.len]; exact hj)] at e2
              exact h0.down a b ok dn j q' u e1 e2
            · have hjl : j = ι.length := by
                have := (List.getElem?_eq_some_iff.mp e1).1
                simp at this; omega
              subst hjl
              simp at e1
              rw [List.getElem?_append_right (by rw [ln, h0.len]; exact Nat.le_refl _), ln, h0.len, Nat.sub_self] at e2
              simp at e2
              subst e1 e2
              have k := a.own i _ _ h1 ho
              cases o with
              | lst ds => obtain ⟨vs, h1, h2⟩ := k; exact ⟨vs, h1, RepL.less dn ds vs hn h2⟩
              | dK ks ds => obtain ⟨vs, h1, h3, h2⟩ := k; exact ⟨vs, h1, h3, RepL.less dn ds vs hn h2⟩
              | dT ks ds => obtain ⟨vs, h1, h3, h2⟩ := k; exact ⟨vs, h1, h3, RepL.less dn ds vs hn h2⟩
              | ins C ns ds => obtain ⟨Ca, dx, vs, h0', h1, h3, h2⟩ := k; exact ⟨Ca, dx, vs, h0', h1, h3, RepL.less dn ds vs hn h2⟩
          · obtain ⟨x3, x4⟩ := b.keep x u x1 x2
            exact ⟨fun m => x3 (dn.sub x m), x4⟩
        · exact h.elim
      · exact h.elim
    · exact h.elim
  · exact h.elim
end
end Mp

namespace Mp
open PySem L2

section
variable {X : Cx} {W : WX} {e a b : Expr} {es : List Expr} {pos : Pos} {k : Nat}
/-! ### what was made on the way is let go -/
def cutE (f : ME) : ME := fun e s => cut (fun _ s => f e s) [] s
theorem se_cut {f : ME} (h : SemE X W e f) : SemE X W e (cutE f) :=
  PE.wk h fun σ H Q ⟨env, s, ι, hs, he, q⟩ => ⟨env, s, ι, hs, he, post_cut (F := fun _ s => f env s) (ds := []) hs q⟩
section
variable {P : Program} {w : World} {K : PySem.W.Frag} {mg : Str → Option Value} {base : Heap}
theorem spc {n : Nat} {g : G} {F : FD} (vs : List V) (H : Hp) (Q : VK) (E : XK) (q : spOf g n (cut F) vs H Q E) : spOf g n F vs H Q E := by
  obtain ⟨hl, ds, s, ι, hs, ra, q⟩ := q
  exact ⟨hl, ds, s, ι, hs, ra, post_cut hs q⟩
theorem spcO {n : Nat} {g : G} {F : FD} (vs : List V) (H : Hp) (Q : VK) (E : XK) (q : spOf g n (cutO F) vs H Q E) : spOf g n F vs H Q E := by
  obtain ⟨hl, ds, s, ι, hs, ra, q⟩ := q
  exact ⟨hl, ds, s, ι, hs, ra, post_cutO hs q⟩
theorem Cal.cut {x : Str} {k n : Nat} {F : FD} (c : Cal P w K mg base x k n F) : Cal P w K mg base x k n (Mp.cut F) := by
  obtain ⟨f, fd, ps, h1, h2⟩ := c
  exact ⟨f, fd, ps, h1.imp spc, h2⟩
theorem Cal.cutO {x : Str} {k n : Nat} {F : FD} (c : Cal P w K mg base x k n F) : Cal P w K mg base x k n (Mp.cutO F) := by
  obtain ⟨f, fd, ps, h1, h2⟩ := c
  exact ⟨f, fd, ps, h1.imp spcO, h2⟩
end

/-! ### a call of a def -/
def eCall (n : Nat) (F : FD) (fs : MA) : ME := fun e s => (fs e s).bind fun ds s => if ds.length = n then F ds s else .stuck
theorem call_wk {n : Nat} {F : FD} {fs : MA} (σ : L2.St) (H : Hp) (Q : VK) (h : rd (RV (gx X)) (gx X) W (eCall n F fs) σ H Q) : tCallS (spOf (gx X) n F) (WE W) (rd (RVs (gx X)) (gx X) W fs) σ H Q := by
  obtain ⟨env, s, ι, hs, he, h⟩ := h
  refine ⟨env, s, ι, hs, he, (Post.bnd (R := RVs (gx X)) h).mono fun vs H1 ⟨s1, ι1, as, S1, E1, Ra, P1⟩ => ?_⟩
  split at P1
  · rename_i hl
    refine ⟨by rw [← Ra.length]; exact hl, as, s1, ι1, S1, Ra, ?_⟩
    unfold PostX
    cases q : F as s1 with
    | ok d s2 => rw [q] at P1; exact P1
    | exc x s2 => rw [q] at P1; exact fun c dd H' ι' a b r => P1 c dd H' ι' a b r
    | stuck => rw [q] at P1; exact P1
  · exact P1.elim
theorem se_call {x : Str} {p : Pos} {j n : Nat} {F : FD} {fs : MA} (C : Cok X W k) (c : Cal X.prog X.w X.K X.mg X.base x j n F) (ha : SemA X W (e :: es) fs) (hj : j ≤ k := by decide) (hg : Gl X x := by rfl)
    (hdb : (x == ("__debug__" : Str)) = false := by decide) (he : starEach (e :: es) X.env = (false, eval e X.env) :: starEach es X.env := by rfl) (hpl : (backTo pos (starEach es X.env)).any (·.1) = false := by rfl) :
    SemE X W (.Call (.Name x p) (e :: es) [] pos) (eCall n F fs) := by
  obtain ⟨f, fd, ps, h1, h2, h3, h4, h5⟩ := c
  exact (pe_callS h1 (C.room.mono hj) hg h3 h4 h5 (passAt C.tk) ha hdb he hpl).wk call_wk
theorem se_call0 {x : Str} {p : Pos} {j : Nat} {F : FD} (C : Cok X W k) (c : Cal X.prog X.w X.K X.mg X.base x j 0 F) (hj : j ≤ k := by decide) (hg : Gl X x := by rfl) (hdb : (x == ("__debug__" : Str)) = false := by decide) :
    SemE X W (.Call (.Name x p) [] [] pos) (eCall 0 F aNil) := by
  obtain ⟨f, fd, ps, h1, h2, h3, h4, h5⟩ := c
  refine ⟨fun pins s σ H Q I h => ?_⟩
  have q : spOf (gx X) 0 F [] H Q (WE W σ) := by
    obtain ⟨env, st, ι, hs, he, h⟩ := h
    refine ⟨rfl, [], st, ι, hs, rfl, ?_⟩
    have h' : Post (RV (gx X)) (gx X) W ι H σ (F [] st) Q := h
    unfold PostX
    cases q : F [] st with
    | ok d s2 => rw [q] at h'; exact h'
    | exc x s2 => rw [q] at h'; exact fun c dd H' ι' a b r => h' c dd H' ι' a b r
    | stuck => rw [q] at h'; exact h'
  exact wpAny_Call_Name_kw (ld_glob I hg h3 (PySem.W.callWith_K0 I.kIn h4 (run_fnS (us := []) (vs := []) (E := WE W) h1 (C.room.mono hj) h5 (passAt C.tk σ) I .nil q)) hdb)

/-! ### statements -/
variable {st : Stmt} {rest : List Stmt}
def sSkip : MS := fun e s => .nx e s
def sSeq (f k : MS) : MS := fun e s => match f e s with
  | .nx e s => k e s
  | r => r
theorem ss_nil : SemSs X W [] sSkip := pss_nil.wk fun Dn σ H ⟨env, s, ι, hs, he, h⟩ => h σ H ι hs .refl he
theorem ss_cons {f k : MS} (h1 : SemS X W st f) (h2 : SemSs X W rest k) : SemSs X W (st :: rest) (sSeq f k) := by
  refine (pss_cons h1 h2).wk fun Dn σ H ⟨env, s, ι, hs, he, h⟩ => ⟨env, s, ι, hs, he, ?_⟩
  unfold sSeq at h
  cases q : f env s with
  | nx e1 s1 => rw [q] at h; exact fun σ' H' ι' a b c => ⟨e1, s1, ι', a, c, PostS.ext h b⟩
  | rt d s1 => rw [q] at h; exact h
  | bk e1 s1 => rw [q] at h; exact h
  | ct e1 s1 => rw [q] at h; exact h
  | ex x e1 s1 => rw [q] at h; exact h
  | stuck => rw [q] at h; exact h
theorem ss_one {f : MS} (h1 : SemS X W st f) : SemSs X W [st] f := pss_one h1
def sPass : MS := fun e s => .nx e s
def sBrk : MS := fun e s => .bk e s
def sCont : MS := fun e s => .ct e s
theorem s_pass : SemS X W (.Pass pos) sPass := ps_pass.wk fun Dn σ H ⟨env, s, ι, hs, he, h⟩ => h σ H ι hs .refl he
theorem s_break : SemS X W (.Break pos) sBrk := ps_break.wk fun Dn σ H ⟨env, s, ι, hs, he, h⟩ => h σ H ι hs .refl he
theorem s_cont : SemS X W (.Continue pos) sCont := ps_continue.wk fun Dn σ H ⟨env, s, ι, hs, he, h⟩ => h σ H ι hs .refl he
/-- code that is never come to -/
def sNever : MS := fun _ _ => .stuck
theorem s_never : SemS X W st sNever := ps_never.wk fun Dn σ H ⟨env, s, ι, hs, he, h⟩ => h
def sDrop (f : ME) : MS := fun e s => (f e s).toS e fun _ s => .nx e s
theorem s_expr {f : ME} (h : SemE X W e f) (hs : swapsWith e none pos.line X.env = pure false := by rfl) : SemS X W (.Expr e pos) (sDrop f) := by
  refine (ps_expr h hs).wk fun Dn σ H ⟨env, s, ι, hs, he, h⟩ => ?_
  refine ⟨env, s, ι, hs, he, (PostS.ofE (R := RV (gx X)) h he).mono fun v H1 ⟨s1, ι1, a, S1, E1, Ra, P1⟩ => ?_⟩
  exact P1 σ H1 ι1 S1 .refl (he.ext E1)
def sRet (f : ME) : MS := fun e s => (f e s).toS e fun d s => .rt d s
theorem s_ret {f : ME} (h : SemE X W e f) : SemS X W (.Return (some e) pos) (sRet f) := by
  refine (ps_ret h).wk fun Dn σ H ⟨env, s, ι, hs, he, h⟩ => ?_
  refine ⟨env, s, ι, hs, he, (PostS.ofE (R := RV (gx X)) h he).mono fun v H1 ⟨s1, ι1, a, S1, E1, Ra, P1⟩ => ?_⟩
  exact P1 v H1 ι1 S1 .refl Ra
def sRetN : MS := fun _ s => .rt .non s
theorem s_retN : SemS X W (.Return none pos) sRetN := ps_retN.wk fun Dn σ H ⟨env, s, ι, hs, he, h⟩ => h .non H ι hs .refl rfl
def sIf (t : MT) (f k : MS) : MS := fun e s => (t e s).toS e fun c s => if c = true then f e s else k e s
theorem s_if {c : Expr} {sa sb : List Stmt} {t : MT} {f k : MS} (hc : SemT X W c t) (ha : SemSs X W sa f) (hb : SemSs X W sb k) : SemS X W (.If c sa sb pos) (sIf t f k) := by
  refine (ps_if hc ha hb).wk fun Dn σ H ⟨env, s, ι, hs, he, h⟩ => ?_
  refine ⟨env, s, ι, hs, he, (PostS.ofE (R := RB) h he).mono fun v H1 ⟨s1, ι1, c, S1, E1, Ra, P1⟩ => ?_⟩
  subst Ra
  cases c with
  | true => rw [if_pos rfl] at P1 ⊢; exact ⟨env, s1, ι1, S1, he.ext E1, P1⟩
  | false => rw [if_neg Bool.false_ne_true] at P1 ⊢; exact ⟨env, s1, ι1, S1, he.ext E1, P1⟩

/-! ### targets -/
abbrev MG := D → Sl → S → Option Sl
def rdG (g : G) (vs : List Nat) (t : MG) : TG := fun v σ H Q => ∃ d env s ι, Sim g ι H s ∧ EnvR g ι H env σ ∧ Rep g ι H d v ∧ match t d env s with
  | some env' => ∀ σ2, EnvR g ι H env' σ2 → wipe σ2 vs = wipe σ vs → Q σ2 H
  | none => False
def rdGs (g : G) (vs : List Nat) (t : List D → Sl → S → Option Sl) : TGs := fun v σ H Q => ∃ d env s ι, Sim g ι H s ∧ EnvR g ι H env σ ∧ RepL g ι H d v ∧ match t d env s with
  | some env' => ∀ σ2, EnvR g ι H env' σ2 → wipe σ2 vs = wipe σ vs → Q σ2 H
  | none => False
def SemG (X : Cx) (tg : Expr) (vs : List Nat) (t : MG) : Prop := PG X tg (rdG (gx X) vs t)
def SemGs (X : Cx) (tgs : List Expr) (vs : List Nat) (t : List D → Sl → S → Option Sl) : Prop := PGs X tgs (rdGs (gx X) vs t)
theorem _root_.L2.PG.wk {tg : Expr} {t t' : TG} (h : PG X tg t) (k : ∀ v σ H Q, t' v σ H Q → t v σ H Q) : PG X tg t' := ⟨fun pins s σ H v u Q I r q => h.run pins s σ H v u Q I r (k v σ H Q q)⟩
theorem _root_.L2.PGs.wk {tg : List Expr} {t t' : TGs} (h : PGs X tg t) (k : ∀ v σ H Q, t' v σ H Q → t v σ H Q) : PGs X tg t' := ⟨fun pins s σ H v u Q I r q => h.run pins s σ H v u Q I r (k v σ H Q q)⟩
theorem wipe_ne (σ τ : L2.St) (vs : List Nat) (hl : σ.length = τ.length) (h : ∀ i, i ∉ vs → σ[i]? = τ[i]?) : wipe σ vs = wipe τ vs := by
  apply List.ext_getElem?
  intro i
  by_cases hi : i ∈ vs
  · have key : ∀ (σ : L2.St) (vs : List Nat), i ∈ vs → (wipe σ vs)[i]? = if i < σ.length then some none else none := by
      intro σ vs
      induction vs with
      | nil => intro h; cases h
      | cons v r ih =>
        intro hm
        show ((wipe σ r).set v none)[i]? = _
        rw [List.getElem?_set, wipe_length]
        by_cases e : v = i
        · subst e; rw [if_pos rfl]
        · rw [if_neg e]
          rcases List.mem_cons.mp hm with z | z
          · exact absurd z.symm e
          · exact ih z
    rw [key σ vs hi, key τ vs hi, hl]
  · rw [wipe_out hi, wipe_out hi]; exact h i hi
theorem wipe_at {σ τ : L2.St} {vs : List Nat} (h : wipe σ vs = wipe τ vs) : σ.length = τ.length ∧ ∀ i, i ∉ vs → σ[i]? = τ[i]? :=
  ⟨by rw [← wipe_length σ vs, h, wipe_length], fun i hi => by rw [← wipe_out (σ := σ) hi, h, wipe_out hi]⟩
theorem wipe_sub {σ τ : L2.St} {vs ws : List Nat} (h : wipe σ vs = wipe τ vs) (s : ∀ i ∈ vs, i ∈ ws) : wipe σ ws = wipe τ ws :=
  let ⟨h1, h2⟩ := wipe_at h
  wipe_ne σ τ ws h1 fun i hi => h2 i fun z => hi (s i z)
def gNm (i : Nat) : MG := fun d e _ => some (e.set i (some d))
theorem g_name {i : Nat} {x : Str} (hN : X.N.Nodup) (hi : X.N[i]? = some x := by rfl) (hx : Loc X.env.scope x := by first | exact Or.inl rfl | exact Or.inr rfl)
    (hf : X.fn x = true ∨ X.env.scope.names.lookup x = some .local := by first | exact .inl rfl | exact .inr rfl) : SemG X (.Name x pos) [i] (gNm i) :=
  (pg_name hN hi hx hf).wk fun v σ H Q ⟨d, env, s, ι, hs, he, hd, h⟩ => h _ (he.set i hd) (wipe_ne _ _ _ (by simp) fun j hj => by rw [List.getElem?_set_ne (fun z => hj (by simp [z]))])
def gsNil : List D → Sl → S → Option Sl := fun ds e _ => if ds.length = 0 then some e else none
def gsCons (t : MG) (u : List D → Sl → S → Option Sl) : List D → Sl → S → Option Sl := fun ds e s => match ds with
  | d :: r => match t d e s with
    | some e => u r e s
    | none => none
  | [] => none
theorem gs_nil : SemGs X [] [] gsNil := by
  refine pgs_nil.wk fun v σ H Q ⟨d, env, s, ι, hs, he, hd, h⟩ => ?_
  unfold gsNil at h
  split at h
  · rename_i q
    split at q
    · rename_i hz
      cases q
      have : d = [] := List.eq_nil_of_length_eq_zero hz
      subst this
      exact ⟨hd, h σ he rfl⟩
    · cases q
  · exact h.elim
theorem gs_cons {vs ws : List Nat} {t : MG} {u : List D → Sl → S → Option Sl} (h1 : SemG X e vs t) (h2 : SemGs X es ws u) (hs : (assignEach (e :: es) X.env).map (·.2) = assign e X.env :: (assignEach es X.env).map (·.2) := by rfl) :
    SemGs X (e :: es) (vs ++ ws) (gsCons t u) := by
  refine (pgs_cons h1 h2 hs).wk fun v σ H Q ⟨d, env, s, ι, hs, he, hd, h⟩ => ?_
  cases d with
  | nil => exact h.elim
  | cons d r =>
    obtain ⟨v1, vr, e1, r1, r2⟩ := hd
    refine ⟨v1, vr, e1, d, env, s, ι, hs, he, r1, ?_⟩
    unfold gsCons at h
    dsimp only at h
    cases q : t d env s with
    | none => rw [q] at h; exact h.elim
    | some env1 =>
      rw [q] at h
      intro σ2 he2 hw2
      refine ⟨r, env1, s, ι, hs, he2, r2, ?_⟩
      dsimp only at h
      split at h
      · rename_i env2 q2
        exact fun σ3 he3 hw3 => h σ3 he3 ((wipe_sub hw3 fun i z => List.mem_append_right _ z).trans (wipe_sub hw2 fun i z => List.mem_append_left _ z))
      · exact h.elim
def gTupS (n : Nat) (u : List D → Sl → S → Option Sl) : MG := fun d e s => match d with
  | .tup ds => if ds.length = n then u ds e s else none
  | _ => none
def gLstS (n : Nat) (u : List D → Sl → S → Option Sl) : MG := fun d e s => match viewL s d with
  | some ds => if ds.length = n then u ds e s else none
  | _ => none
theorem g_tup {c n : Nat} {vs : List Nat} {u : List D → Sl → S → Option Sl} (hc : X.calm = true) (h : SemGs X es vs u) (hn : (assignEach es X.env).length = n := by rfl) (hst : (assignEach es X.env).findIdx? (·.1) = none := by rfl) :
    SemG X (.Tuple es c pos) vs (gTupS n u) := by
  refine (pg_tup hc h hn hst).wk fun v σ H Q ⟨d, env, s, ι, hs, he, hd, h⟩ => ?_
  unfold gTupS at h
  cases d with
  | tup ds =>
    dsimp only at h
    obtain ⟨p, vs', rfl, h1, r1⟩ := hd
    split at h
    · rename_i env2 q
      split at q
      · rename_i hl
        exact ⟨p, vs', rfl, sq_of_fr h1, by rw [← r1.length]; exact hl, ds, env, s, ι, hs, he, r1, by rw [q]; exact h⟩
      · cases q
    · exact h.elim
  | _ => exact h.elim
theorem g_lst {c n : Nat} {vs : List Nat} {u : List D → Sl → S → Option Sl} (hc : X.calm = true) (h : SemGs X es vs u) (hn : (assignEach es X.env).length = n := by rfl) (hst : (assignEach es X.env).findIdx? (·.1) = none := by rfl) :
    SemG X (.Tuple es c pos) vs (gLstS n u) := by
  refine (pg_lst hc h hn hst).wk fun v σ H Q ⟨d, env, s, ι, hs, he, hd, h⟩ => ?_
  unfold gLstS at h
  split at h
  · rename_i env2 q
    split at q
    · rename_i ds hv
      split at q
      · rename_i hl
        obtain ⟨p, vs', rfl, h1, r1⟩ := viewL_at hs hd hv
        exact ⟨p, vs', rfl, .inl (.inl h1), by rw [← r1.length]; exact hl, ds, env, s, ι, hs, he, r1, by rw [q]; exact h⟩
      · cases q
    · cases q
  · exact h.elim
/-- target = value -/
def sAsg (f : ME) (t : MG) : MS := fun e s => (f e s).toS e fun d s => match t d e s with
  | some e => .nx e s
  | none => .stuck
theorem asg_wk {f : ME} {t : MG} {vs : List Nat} (Dn : Ends) (σ : L2.St) (H : Hp) (h : rdS (gx X) W (sAsg f t) Dn σ H) : tAsg (rd (RV (gx X)) (gx X) W f) (rdG (gx X) vs t) Dn σ H := by
  obtain ⟨env, s, ι, hs, he, h⟩ := h
  refine ⟨env, s, ι, hs, he, (PostS.ofE (R := RV (gx X)) h he).mono fun v H1 ⟨s1, ι1, a, S1, E1, Ra, P1⟩ => ?_⟩
  refine ⟨a, env, s1, ι1, S1, he.ext E1, Ra, ?_⟩
  cases q : t a env s1 with
  | none => rw [q] at P1; exact P1.elim
  | some env1 => rw [q] at P1; exact fun σ2 he2 _ => P1 σ2 H1 ι1 S1 .refl he2
theorem s_asg {tg : Expr} {f : ME} {t : MG} {vs : List Nat} (hf : SemE X W e f) (hg : SemG X tg vs t) (hs : swapsWithSole [tg] e pos.line X.env = pure false := by rfl) (hw : swappedStores [tg] e X.env = pure none := by rfl)
    (h1 : (assignEach [tg] X.env).map (·.2) = [assign tg X.env] := by rfl) : SemS X W (.Assign [tg] e pos) (sAsg f t) := (ps_asg hf hg hs hw h1).wk asg_wk
theorem gname_wk {i : Nat} (v : V) (σ : L2.St) (H : Hp) (Q : L2.St → Hp → Prop) (h : rdG (gx X) [i] (gNm i) v σ H Q) : gName i v σ H Q := by
  obtain ⟨d, env, s, ι, hs, he, hd, h⟩ := h
  exact h _ (he.set i hd) (wipe_ne _ _ _ (by simp) fun j hj => by rw [List.getElem?_set_ne (fun z => hj (by simp [z]))])
theorem tAsg_mono {te : TE} {g g' : TG} (hm : ∀ σ H (Q Q' : VK), (∀ v H', Q v H' → Q' v H') → te σ H Q → te σ H Q') (hg : ∀ v σ H Q, g' v σ H Q → g v σ H Q) (Dn : Ends) (σ : L2.St) (H : Hp) (h : tAsg te g' Dn σ H) : tAsg te g Dn σ H :=
  hm σ H _ _ (fun v H' q => hg v σ H' _ q) h
theorem rd_mono {f : ME} (σ : L2.St) (H : Hp) (Q Q' : VK) (hq : ∀ v H', Q v H' → Q' v H') (h : rd (RV (gx X)) (gx X) W f σ H Q) : rd (RV (gx X)) (gx X) W f σ H Q' := by
  obtain ⟨env, s, ι, hs, he, h⟩ := h
  exact ⟨env, s, ι, hs, he, h.mono hq⟩
/-- name = value -/
theorem s_set {i : Nat} {x : Str} {pos' : Pos} {f : ME} (hN : X.N.Nodup) (hf : SemE X W e f) (hi : X.N[i]? = some x := by rfl) (hx : Loc X.env.scope x := by first | exact Or.inl rfl | exact Or.inr rfl)
    (hs : swapsWith e (some (.Name x pos')) pos.line X.env = pure false := by rfl) (hl : X.fn x = true ∨ X.env.scope.names.lookup x = some .local := by first | exact .inl rfl | exact .inr rfl) : SemS X W (.Assign [.Name x pos'] e pos) (sAsg f (gNm i)) :=
  (ps_set hN hi hx hf hs hl).wk fun Dn σ H h => tAsg_mono rd_mono gname_wk Dn σ H (asg_wk (vs := [i]) Dn σ H h)
/-- a, b = x, y (plain local names) -/
def sPar (i j : Nat) (fs : MA) : MS := fun e s => (fs e s).toS e fun ds s => match ds with
  | [c, d] => .nx ((e.set i (some c)).set j (some d)) s
  | _ => .stuck
theorem s_par {i j : Nat} {x y : Str} {px py pt : Pos} {kt k2 pt2} {fs : MA} (hc : X.calm = true) (hN : X.N.Nodup) (ha : SemA X W [a, b] fs)
    (hw : swappedStores [.Tuple [.Name x px, .Name y py] kt pt] (.Tuple [a, b] k2 pt2) X.env = pure (some [x, y])) (hi : X.N[i]? = some x := by rfl) (hj : X.N[j]? = some y := by rfl) (hij : i ≠ j := by decide)
    (hx : X.env.scope.names.lookup x = some .local := by rfl) (hy : X.env.scope.names.lookup y = some .local := by rfl)
    (hs : swapsWithSole [.Tuple [.Name x px, .Name y py] kt pt] (.Tuple [a, b] k2 pt2) pos.line X.env = pure false := by rfl) : SemS X W (.Assign [.Tuple [.Name x px, .Name y py] kt pt] (.Tuple [a, b] k2 pt2) pos) (sPar i j fs) := by
  refine (ps_par hc hN hi hj hij hx hy ha hw hs).wk fun Dn σ H ⟨env, s, ι, hs, he, h⟩ => ?_
  refine ⟨env, s, ι, hs, he, (PostS.ofE (R := RVs (gx X)) h he).mono fun vs H1 ⟨s1, ι1, as, S1, E1, Ra, P1⟩ => ?_⟩
  split at P1
  · rename_i c d
    obtain ⟨v, r, rfl, r1, w, r2, rfl, r3, rfl⟩ := Ra
    exact ⟨v, w, rfl, P1 _ H1 ι1 S1 .refl (((he.ext E1).set i r1).set j r3)⟩
  · exact P1.elim
end
end Mp

namespace Mp
open PySem L2 PyProof.Rows

/-! ### what is walked -/
/-- lists that must stand still while they are walked -/
abbrev Gd := List (Nat × List D)
def gdOk (s : S) (gd : Gd) : Bool := gd.all fun p => match s[p.1]? with
  | some (.lst es) => sames es p.2
  | _ => false
theorem gdOk_at {s : S} {gd : Gd} {i : Nat} {ds : List D} (h : gdOk s gd = true) (m : (i, ds) ∈ gd) : s[i]? = some (.lst ds) := by
  have := List.all_eq_true.mp h _ m
  dsimp only at this
  split at this
  · rename_i es e
    rw [e, sames_eq _ _ this]
  · cases this
abbrev MI := Sl → S → Res (List D × Gd)
def RI (g : G) : RelA (List D × Gd) It := fun ι H a J => ∃ Gp Y, Walk J a.1.length Gp Y ∧ (∀ ι' H' s', Ext ι H ι' H' → Sim g ι' H' s' → gdOk s' a.2 = true → Gp H') ∧
  ∀ ι' H' s' i x H'', Ext ι H ι' H' → Sim g ι' H' s' → gdOk s' a.2 = true → Y i H' x H'' → Sim g ι' H'' s' ∧ Ext ι' H' ι' H'' ∧ ∀ d, a.1[i]? = some d → Rep g ι' H'' d x
def SemI (X : Cx) (W : WX) (tg iter : Expr) (f : MI) : Prop := PI X tg iter (rd (RI (gx X)) (gx X) W f)
theorem _root_.L2.PI.wk {X : Cx} {tg iter : Expr} {t t' : TI} (h : PI X tg iter t) (k : ∀ σ H R, t' σ H R → t σ H R) : PI X tg iter t' := ⟨fun pins s σ H R I q => h.run pins s σ H R I (k σ H R q)⟩
/-- items that stand still of themselves, or as long as their owned list does -/
def gdOf : D → List D → Gd
  | .ref i, ds => [(i, ds)]
  | _, _ => []
section
variable {X : Cx} {W : WX} {e a b tg iter : Expr} {es : List Expr} {pos : Pos} {k : Nat}
theorem view_stays {g : G} {ι ι' : List Addr} {H H' : Hp} {s s' : S} {d : D} {v : V} {ds : List D} (hs : Sim g ι H s) (ra : Rep g ι H d v) (q : viewS s d = some ds) (e : Ext ι H ι' H') (hs' : Sim g ι' H' s') (gd : gdOk s' (gdOf d ds) = true) : viewS s' d = some ds ∧ Rep g ι' H' d v := by
  refine ⟨?_, Rep.ext e _ _ ra⟩
  cases d with
  | ref i =>
    have := gdOk_at gd (by show (i, ds) ∈ [(i, ds)]; simp)
    unfold viewS
    dsimp only
    rw [this]
  | _ => exact q
/-- a list, a tuple, a text: the iterator -/
def rAny (K : PySem.W.Frag) (x : V) (H : Hp) (R : It → Hp → Prop) : Prop := (∃ a, x = .ref a ∧ (∃ xs, SqL K H a xs) ∧ R (Itl K a) H) ∨ (∃ a, x = .ref a ∧ (∃ xs, SqT K H a xs) ∧ R (Itt K a) H) ∨ ∃ z, x = .str z ∧ R (Its z) H
theorem pi_any {tl : TE} (hl : PE X e tl) : PI X tg e (fun σ H R => tl σ H fun x H1 => rAny X.K x H1 R) := by
  refine ⟨fun pins s σ H R I h => thn (hl.run pins s σ H _ I h) fun u s1 hh => ?_⟩
  obtain ⟨x, H1, I1, r1, q⟩ := hh
  rcases q with ⟨p, rfl, ⟨ys, hq⟩, q⟩ | ⟨p, rfl, ⟨ys, hq⟩, q⟩ | ⟨z, rfl, q⟩
  · cases r1
    obtain ⟨us, rv, pl, hz⟩ := I1.list hq
    exact wpAny_pyIter_list pl.isList (pi_one (tk := s1.toks) I1 _ (turn_list p _) ⟨_, Heap.get?_push_size _ rfl, rfl, rfl⟩ q)
  · cases r1
    obtain ⟨us, rv, pl, hz⟩ := I1.tuple hq
    exact wpAny_pyIter_tuple (show s1.heap.IsTuple p us.toArray from pl) (pi_one (tk := s1.toks) I1 _ (turn_tuple p _) ⟨_, Heap.get?_push_size _ rfl, rfl, rfl⟩ q)
  · obtain ⟨tk, rfl⟩ := r1
    by_cases ha : z.cps.all (· < 128) = true
    · exact wpAny_pyIter_ascii ha (pi_one (tk := s1.toks) I1 _ (turn_str _ z tk "str_ascii_iterator" (.inl rfl)) ⟨_, Heap.get?_push_size _ rfl, rfl, rfl⟩ q)
    · exact wpAny_pyIter_wide (by simpa using ha) (pi_one (tk := s1.toks) I1 _ (turn_str _ z tk "str_iterator" (.inr rfl)) ⟨_, Heap.get?_push_size _ rfl, rfl, rfl⟩ q)
def signs (z : Str) : List D := z.cps.toList.map fun c => .str ⟨#[c]⟩
def itOf (s : S) : D → Option (List D × Gd)
  | .str z => some (signs z, [])
  | d => (viewS s d).map fun ds => (ds, gdOf d ds)
def iAny (f : ME) : MI := fun e s => (f e s).bind fun d s => match itOf s d with
  | some r => .ok r s
  | none => .stuck
theorem walkL {K : PySem.W.Frag} {p : Addr} {n : Nat} : Walk (Itl K p) n (fun H => ∃ vs, SqL K H p vs ∧ vs.length = n) (fun i H x H' => H' = H ∧ ∀ vs, SqL K H p vs → vs[i]? = some x) :=
  ⟨fun i _ hi ⟨vs, h1, h2⟩ => ⟨vs, vs[i]'(by omega), h1, by simp [show i < vs.length by omega]⟩, fun _ ⟨vs, h1, h2⟩ => ⟨vs, h1, by omega⟩, fun _ _ _ _ _ _ y => y⟩
theorem walkT {K : PySem.W.Frag} {p : Addr} {n : Nat} : Walk (Itt K p) n (fun H => ∃ vs, SqT K H p vs ∧ vs.length = n) (fun i H x H' => H' = H ∧ ∀ vs, SqT K H p vs → vs[i]? = some x) :=
  ⟨fun i _ hi ⟨vs, h1, h2⟩ => ⟨vs, vs[i]'(by omega), h1, by simp [show i < vs.length by omega]⟩, fun _ ⟨vs, h1, h2⟩ => ⟨vs, h1, by omega⟩, fun _ _ _ _ _ _ y => y⟩
/-- list or tuple, the same at each look -/
theorem view_kind {g : G} {ι : List Addr} {H : Hp} {s : S} {d : D} {v : V} {ds : List D} (hs : Sim g ι H s) (ra : Rep g ι H d v) (q : viewS s d = some ds) :
    (∃ p, v = .ref p ∧ ∀ ι' H' s', Ext ι H ι' H' → Sim g ι' H' s' → gdOk s' (gdOf d ds) = true → ∃ vs, SqL g.K H' p vs ∧ RepL g ι' H' ds vs) ∨
    (∃ p, v = .ref p ∧ ∀ ι' H' s', Ext ι H ι' H' → Sim g ι' H' s' → gdOk s' (gdOf d ds) = true → ∃ vs, SqT g.K H' p vs ∧ RepL g ι' H' ds vs) := by
  cases d with
  | lst xs =>
    have e : xs = ds := Option.some.inj q
    subst e
    obtain ⟨p, vs, h1, h2, h3⟩ := ra
    exact .inl ⟨p, h1, fun ι' H' s' e _ _ => ⟨vs, .inl (.inl (Fr.sub (e.fr h2)).2), RepL.ext e _ _ h3⟩⟩
  | tup xs =>
    have e : xs = ds := Option.some.inj q
    subst e
    obtain ⟨p, vs, h1, h2, h3⟩ := ra
    exact .inr ⟨p, h1, fun ι' H' s' e _ _ => ⟨vs, sq_of_fr (e.sqT h2), RepL.ext e _ _ h3⟩⟩
  | scr ns =>
    have e : ns.map D.int = ds := Option.some.inj q
    subst e
    obtain ⟨p, h1, h2⟩ := ra
    exact .inl ⟨p, h1, fun ι' H' s' e _ _ => ⟨ns.map .int, sl_of_fr (e.sqL h2), RepL.ints ns⟩⟩
  | ref i =>
    obtain ⟨p, h1, h2⟩ := ra
    refine .inl ⟨p, h2, fun ι' H' s' e hs' gd => ?_⟩
    have := gdOk_at gd (by show (i, ds) ∈ [(i, ds)]; simp)
    obtain ⟨vs, h3, h4⟩ := hs'.lst (e.ix h1) this
    exact ⟨vs, .inl (.inl h3), h4⟩
  | _ => exact nomatch q
theorem ri_list {g : G} {ι : List Addr} {H : Hp} {p : Addr} {ds : List D} {gd : Gd} (stays : ∀ ι' H' s', Ext ι H ι' H' → Sim g ι' H' s' → gdOk s' gd = true → ∃ vs, SqL g.K H' p vs ∧ RepL g ι' H' ds vs) : RI g ι H (ds, gd) (Itl g.K p) := by
  refine ⟨_, _, walkL, fun ι' H' s' e hs' gd => ?_, fun ι' H' s' i x H'' e hs' gd hy => ?_⟩
  · obtain ⟨vs, h1, h2⟩ := stays ι' H' s' e hs' gd
    exact ⟨vs, h1, h2.length.symm⟩
  · obtain ⟨rfl, hy⟩ := hy
    obtain ⟨vs, h1, h2⟩ := stays ι' H'' s' e hs' gd
    refine ⟨hs', .refl, fun d q => ?_⟩
    obtain ⟨v, h3, h4⟩ := h2.get q
    rw [hy vs h1] at h3; cases h3
    exact h4
theorem ri_tup {g : G} {ι : List Addr} {H : Hp} {p : Addr} {ds : List D} {gd : Gd} (stays : ∀ ι' H' s', Ext ι H ι' H' → Sim g ι' H' s' → gdOk s' gd = true → ∃ vs, SqT g.K H' p vs ∧ RepL g ι' H' ds vs) : RI g ι H (ds, gd) (Itt g.K p) := by
  refine ⟨_, _, walkT, fun ι' H' s' e hs' gd => ?_, fun ι' H' s' i x H'' e hs' gd hy => ?_⟩
  · obtain ⟨vs, h1, h2⟩ := stays ι' H' s' e hs' gd
    exact ⟨vs, h1, h2.length.symm⟩
  · obtain ⟨rfl, hy⟩ := hy
    obtain ⟨vs, h1, h2⟩ := stays ι' H'' s' e hs' gd
    refine ⟨hs', .refl, fun d q => ?_⟩
    obtain ⟨v, h3, h4⟩ := h2.get q
    rw [hy vs h1] at h3; cases h3
    exact h4
theorem itOf_ok {g : G} {ι : List Addr} {H : Hp} {s : S} {d : D} {v : V} {r : List D × Gd} {R : It → Hp → Prop} (hs : Sim g ι H s) (ra : Rep g ι H d v) (h : itOf s d = some r) (k : ∀ J, RI g ι H r J → R J H) : rAny g.K v H R := by
  unfold itOf at h
  split at h
  · rename_i z
    cases h
    refine .inr (.inr ⟨z, ra, k _ ⟨_, _, by
      have w := walk_str (z := z)
      rw [show (signs z, ([] : Gd)).1.length = z.cps.size by simp [signs]]; exact w, fun _ _ _ _ _ _ => trivial, fun ι' H' s' i x H'' e hs' _ hy => ?_⟩⟩)
    obtain ⟨rfl, c, hc, rfl⟩ := hy
    refine ⟨hs', .refl, fun d q => ?_⟩
    have q' : (signs z)[i]? = some d := q
    unfold signs at q'
    rw [List.getElem?_map, Array.getElem?_toList, hc] at q'
    cases q'
    rfl
  · cases q : viewS s d with
    | none => rw [q] at h; cases h
    | some ds =>
      rw [q] at h; cases h
      rcases view_kind hs ra q with ⟨p, rfl, st⟩ | ⟨p, rfl, st⟩
      · obtain ⟨vs, h1, _⟩ := st ι H s .refl hs (by
          cases d with
          | ref i =>
            have e : (viewS s (.ref i)) = some ds := q
            show gdOk s [(i, ds)] = true
            unfold viewS at e
            dsimp only at e
            unfold gdOk
            split at e
            · rename_i xs hx
              cases e
              simp [hx, sames_refl]
            · cases e
          | _ => rfl)
        exact .inl ⟨p, rfl, ⟨vs, h1⟩, k _ (ri_list st)⟩
      · obtain ⟨vs, h1, _⟩ := st ι H s .refl hs (by
          cases d with
          | ref i =>
            have e : (viewS s (.ref i)) = some ds := q
            show gdOk s [(i, ds)] = true
            unfold viewS at e
            dsimp only at e
            unfold gdOk
            split at e
            · rename_i xs hx
              cases e
              simp [hx, sames_refl]
            · cases e
          | _ => rfl)
        exact .inr (.inl ⟨p, rfl, ⟨vs, h1⟩, k _ (ri_tup st)⟩)
theorem si_any {f : ME} (h : SemE X W iter f) : SemI X W tg iter (iAny f) := by
  refine (pi_any h).wk fun σ H R ⟨env, s, ι, hs, he, q⟩ => ?_
  refine ⟨env, s, ι, hs, he, (Post.bnd (R := RV (gx X)) q).mono fun v H1 ⟨s1, ι1, d, S1, E1, Ra, P1⟩ => ?_⟩
  split at P1
  · rename_i r hr
    exact itOf_ok S1 Ra hr fun J hJ => P1 J H1 ι1 S1 .refl hJ
  · exact P1.elim
/-- range(n), range(a, b) -/
def rgD (lo : Int) (n : Nat) : List D := (List.range n).map fun (i : Nat) => .int (lo + (i : Int))
def smallI (i : Int) : Bool := decide (-(2 ^ 62) ≤ i ∧ i < 2 ^ 62)
def iRng1 (f : ME) : MI := fun e s => (f e s).bind fun d s => match d with
  | .int n => if smallI n = true then .ok (rgD 0 n.toNat, []) s else .stuck
  | _ => .stuck
def iRng2 (f k : ME) : MI := fun e s => (f e s).bind fun c s => (k e s).bind fun d s => match c, d with
  | .int a, .int b => if smallI a = true ∧ smallI b = true then .ok (rgD a (b - a).toNat, []) s else .stuck
  | _, _ => .stuck
theorem ri_rng {g : G} {ι : List Addr} {H : Hp} (lo : Int) (n : Nat) : RI g ι H (rgD lo n, []) (Itr lo n) := by
  refine ⟨_, _, by rw [show (rgD lo n, ([] : Gd)).1.length = n by simp [rgD]]; exact walk_range, fun _ _ _ _ _ _ => trivial, fun ι' H' s' i x H'' e hs' _ hy => ?_⟩
  obtain ⟨rfl, rfl⟩ := hy
  refine ⟨hs', .refl, fun d q => ?_⟩
  have q' : (rgD lo n)[i]? = some d := q
  unfold rgD at q'
  rw [List.getElem?_map] at q'
  cases r : (List.range n)[i]? with
  | none => rw [r] at q'; cases q'
  | some j =>
    rw [r] at q'; cases q'
    have : j = i := by
      have := List.getElem?_eq_some_iff.mp r
      obtain ⟨h1, h2⟩ := this
      simpa using h2.symm
    subst this
    rfl
theorem si_rng1 {f : ME} {p : Pos} (hm : X.mg "range" = none) (ha : SemE X W a f) (hg : Gl X "range" := by rfl) (hs : starEach [a] X.env = [(false, eval a X.env)] := by rfl) : SemI X W tg (.Call (.Name "range" p) [a] [] pos) (iRng1 f) := by
  refine (pi_range1 hg hm (pa_cons ha pa_nil hs) hs).wk fun σ H R ⟨env, s, ι, hs, he, q⟩ => ?_
  refine ⟨env, s, ι, hs, he, (Post.bnd (R := RV (gx X)) q).mono fun v H1 ⟨s1, ι1, d, S1, E1, Ra, P1⟩ => ?_⟩
  show ∃ j : Int, [v] = [V.int j] ∧ _
  split at P1
  · rename_i n
    split at P1
    · rename_i hn
      have hn' := of_decide_eq_true hn
      exact ⟨n, by rw [show v = .int n from Ra], hn'.1, hn'.2, P1 _ H1 ι1 S1 .refl (ri_rng 0 n.toNat)⟩
    · exact P1.elim
  · exact P1.elim
theorem si_rng2 {f k : ME} {p : Pos} (hm : X.mg "range" = none) (ha : SemE X W a f) (hb : SemE X W b k) (hg : Gl X "range" := by rfl) (hs : starEach [a, b] X.env = [(false, eval a X.env), (false, eval b X.env)] := by rfl) (hs2 : starEach [b] X.env = [(false, eval b X.env)] := by rfl) :
    SemI X W tg (.Call (.Name "range" p) [a, b] [] pos) (iRng2 f k) := by
  refine (pi_range2 hg hm (pa_cons ha (pa_cons hb pa_nil hs2) (by rw [hs, hs2])) hs hs2).wk fun σ H R ⟨env, s, ι, hs, he, q⟩ => ?_
  refine ⟨env, s, ι, hs, he, (Post.bnd (R := RV (gx X)) q).mono fun v H1 ⟨s1, ι1, d, S1, E1, Ra, P1⟩ => ?_⟩
  refine ⟨env, s1, ι1, S1, he.ext E1, (Post.bnd (R := RV (gx X)) P1).mono fun v2 H2 ⟨s2, ι2, d2, S2, E2, Rb, P2⟩ => ?_⟩
  show ∃ i j : Int, [v, v2] = [V.int i, V.int j] ∧ _
  cases d with
  | int n =>
    cases d2 with
    | int m =>
      dsimp only at P2
      split at P2
      · rename_i hn
        have hn' := of_decide_eq_true hn.1
        have hm' := of_decide_eq_true hn.2
        exact ⟨n, m, by rw [show v = .int n from Ra, show v2 = .int m from Rb], ⟨hn'.1, hn'.2, hm'.1, hm'.2⟩, P2 _ H2 ι2 S2 .refl (ri_rng n (m - n).toNat)⟩
      · exact P2.elim
    | _ => exact P2.elim
  | _ => exact P2.elim

/-! ### for -/
def forN (gd : Gd) (t : MG) (body : MS) : List D → MS
  | [], e, s => if gdOk s gd = true then .nx e s else .stuck
  | x :: xs, e, s => if gdOk s gd = true then match t x e s with
      | some e1 => match body e1 s with
        | .nx e2 s2 => forN gd t body xs e2 s2
        | .ct e2 s2 => forN gd t body xs e2 s2
        | .bk e2 s2 => .nx e2 s2
        | r => r
      | none => .stuck
    else .stuck
def sFor (it : MI) (t : MG) (body : MS) : MS := fun e s => (it e s).toS e fun r s => forN r.2 t body r.1 e s
theorem s_for {vs : List Nat} {body : List Stmt} {it : MI} {t : MG} {f : MS} (C : Cok X W k) (hi : SemI X W tg iter it) (hg : SemG X tg vs t) (hb : SemSs X W body f) (hs : ∀ x, foldedSetIterable iter X.env x = pure x := by intro _; rfl) :
    SemS X W (.For tg iter body [] pos) (sFor it t f) := by
  refine (ps_for C.pass C.calm hi hg hb hs).wk fun Dn σ H ⟨env, s, ι, hs, he, h⟩ => ?_
  refine ⟨env, s, ι, hs, he, (PostS.ofE (R := RI (gx X)) h he).mono fun J H1 ⟨s1, ι1, ⟨ds, gd⟩, S1, E1, RJ, P1⟩ => ?_⟩
  obtain ⟨Gp, Y, w, hG, hY⟩ := RJ
  refine for_it w (fun i σ' H' => ∃ e' s' ι', Sim (gx X) ι' H' s' ∧ Ext ι1 H1 ι' H' ∧ EnvR (gx X) ι' H' e' σ' ∧ gdOk s' gd = true ∧ PostS (gx X) W ι' H' (forN gd t f (ds.drop i) e' s') Dn) ?_ ?_ ?_ ?_
  · refine ⟨env, s1, ι1, S1, .refl, he.ext E1, ?_, P1⟩
    have P2 : PostS (gx X) W ι1 H1 (forN gd t f ds env s1) Dn := P1
    cases ds with
    | nil =>
      unfold forN at P2
      split at P2
      · assumption
      · exact P2.elim
    | cons d ds =>
      unfold forN at P2
      split at P2
      · assumption
      · exact P2.elim
  · rintro i σ' H' _ ⟨e', s', ι', S', E', he', g', _⟩
    exact hG ι' H' s' E' S' g'
  · rintro i x σ' H' H'' hi ⟨e', s', ι', S', E', he', g', P'⟩ hy
    obtain ⟨S2, E2, hd⟩ := hY ι' H' s' i x H'' E' S' g' hy
    have hx : ds[i]? = some (ds[i]'hi) := by simp [show i < ds.length from hi]
    rw [List.drop_eq_getElem_cons (show i < ds.length from hi)] at P'
    unfold forN at P'
    rw [if_pos g'] at P'
    refine ⟨ds[i]'hi, e', s', ι', S2, he'.ext E2, hd _ hx, ?_⟩
    cases q : t (ds[i]'hi) e' s' with
    | none => rw [q] at P'; exact P'.elim
    | some e1 =>
      rw [q] at P'
      dsimp only at P' ⊢
      intro σ2 he2 _
      refine ⟨e1, s', ι', S2, he2, ?_⟩
      have step : ∀ (e2 : Sl) (s2 : S), PostS (gx X) W ι' H' (forN gd t f (ds.drop (i + 1)) e2 s2) Dn → ∀ σ3 H3 ι3, Sim (gx X) ι3 H3 s2 → Ext ι' H'' ι3 H3 → EnvR (gx X) ι3 H3 e2 σ3 →
          ∃ e' s' ι', Sim (gx X) ι' H3 s' ∧ Ext ι1 H1 ι' H3 ∧ EnvR (gx X) ι' H3 e' σ3 ∧ gdOk s' gd = true ∧ PostS (gx X) W ι' H3 (forN gd t f (ds.drop (i + 1)) e' s') Dn := by
        intro e2 s2 P2 σ3 H3 ι3 S3 E3 he3
        refine ⟨e2, s2, ι3, S3, (E'.trans E2).trans E3, he3, ?_, PostS.ext P2 (E2.trans E3)⟩
        cases q2 : ds.drop (i + 1) with
        | nil =>
          rw [q2] at P2
          unfold forN at P2
          split at P2
          · assumption
          · exact P2.elim
        | cons d r =>
          rw [q2] at P2
          unfold forN at P2
          split at P2
          · assumption
          · exact P2.elim
      cases q3 : f e1 s' with
      | nx e2 s2 => rw [q3] at P'; exact fun σ3 H3 ι3 a b c => step e2 s2 P' σ3 H3 ι3 a b c
      | ct e2 s2 => rw [q3] at P'; exact fun σ3 H3 ι3 a b c => step e2 s2 P' σ3 H3 ι3 a b c
      | bk e2 s2 => rw [q3] at P'; exact fun σ3 H3 ι3 a b c => P' σ3 H3 ι3 a (E2.trans b) c
      | rt d s2 => rw [q3] at P'; exact fun σ3 H3 ι3 a b c => P' σ3 H3 ι3 a (E2.trans b) c
      | ex x e2 s2 => rw [q3] at P'; exact fun c dd σ3 H3 ι3 a b d r => P' c dd σ3 H3 ι3 a (E2.trans b) d r
      | stuck => rw [q3] at P'; exact P'.elim
  · rintro σ' H' ⟨e', s', ι', S', E', he', g', P'⟩
    have P2 : PostS (gx X) W ι' H' (forN gd t f (ds.drop ds.length) e' s') Dn := P'
    rw [List.drop_length] at P2
    unfold forN at P2
    rw [if_pos g'] at P2
    exact P2 σ' H' ι' S' .refl he'

/-! ### while, by a number of turns that is enough -/
def whileN (c : MT) (body : MS) : Nat → MS
  | 0, _, _ => .stuck
  | n + 1, e, s => (c e s).toS e fun b s1 => if b = true then match body e s1 with
      | .nx e2 s2 => whileN c body n e2 s2
      | .ct e2 s2 => whileN c body n e2 s2
      | .bk e2 s2 => .nx e2 s2
      | r => r
    else .nx e s1
def sWhile (μ : Sl → S → Nat) (c : MT) (body : MS) : MS := fun e s => whileN c body (μ e s + 1) e s
theorem s_while {c : Expr} {body : List Stmt} {t : MT} {f : MS} (μ : Sl → S → Nat) (C : Cok X W k) (hc : SemT X W c t) (hb : SemSs X W body f) : SemS X W (.While c body [] pos) (sWhile μ t f) := by
  refine (ps_while C.pass hc hb).wk fun Dn σ H ⟨env, s, ι, hs, he, h⟩ => ?_
  refine ⟨fun n σ' H' => ∃ e' s' ι', Sim (gx X) ι' H' s' ∧ EnvR (gx X) ι' H' e' σ' ∧ PostS (gx X) W ι' H' (whileN t f n e' s') Dn, ⟨_, env, s, ι, hs, he, h⟩, ?_⟩
  rintro n σ' H' ⟨e', s', ι', S', he', P'⟩
  cases n with
  | zero => exact P'.elim
  | succ n =>
    unfold whileN at P'
    refine ⟨e', s', ι', S', he', (PostS.ofE (R := RB) P' he').mono fun b H1 ⟨s1, ι1, b', S1, E1, Rb, P1⟩ => ?_⟩
    subst Rb
    cases b' with
    | false =>
      rw [if_neg Bool.false_ne_true] at P1 ⊢
      exact P1 σ' H1 ι1 S1 .refl (he'.ext E1)
    | true =>
      rw [if_pos rfl] at P1 ⊢
      refine ⟨fun σ2 H2 => ∃ e2 s2 ι2, Sim (gx X) ι2 H2 s2 ∧ EnvR (gx X) ι2 H2 e2 σ2 ∧ PostS (gx X) W ι2 H2 (whileN t f n e2 s2) Dn, fun σ2 H2 hh => ⟨n, Nat.lt_succ_self n, hh⟩, e', s1, ι1, S1, he'.ext E1, ?_⟩
      cases q3 : f e' s1 with
      | nx e2 s2 => rw [q3] at P1; exact fun σ3 H3 ι3 a b c => ⟨e2, s2, ι3, a, c, PostS.ext P1 b⟩
      | ct e2 s2 => rw [q3] at P1; exact fun σ3 H3 ι3 a b c => ⟨e2, s2, ι3, a, c, PostS.ext P1 b⟩
      | bk e2 s2 => rw [q3] at P1; exact P1
      | rt d s2 => rw [q3] at P1; exact P1
      | ex x e2 s2 => rw [q3] at P1; exact P1
      | stuck => rw [q3] at P1; exact P1.elim

/-! ### [e for t in it if c] -/
def wipeD (e : Sl) : List Nat → Sl
  | [] => e
  | v :: vs => (wipeD e vs).set v none
theorem EnvR.unset {g : G} {ι : List Addr} {H : Hp} {env : Sl} {σ : L2.St} (h : EnvR g ι H env σ) (i : Nat) : EnvR g ι H (env.set i none) (σ.set i none) := by
  refine ⟨by simp [h.1], fun j e q => ?_⟩
  by_cases hj : i = j
  · subst hj
    rw [List.getElem?_set] at q
    rw [if_pos rfl] at q
    split at q <;> cases q
  · rw [List.getElem?_set_ne hj] at q
    obtain ⟨w, h1, h2⟩ := h.2 j e q
    exact ⟨w, by rw [List.getElem?_set_ne hj]; exact h1, h2⟩
theorem EnvR.wipe {g : G} {ι : List Addr} {H : Hp} {env : Sl} {σ : L2.St} (h : EnvR g ι H env σ) : ∀ vs : List Nat, EnvR g ι H (wipeD env vs) (L2.wipe σ vs)
  | [] => h
  | v :: vs => (h.wipe vs).unset v
def compN (vs : List Nat) (gd : Gd) (t : MG) (c : MT) (f : ME) (e : Sl) (i0 : Nat) : List D → S → Res Unit
  | [], s => if gdOk s gd = true then .ok () s else .stuck
  | x :: xs, s => if gdOk s gd = true then match t x (wipeD e vs) s with
      | some e1 => match c e1 s with
        | .ok true s1 => match f e1 s1 with
          | .ok y s2 => match s2[i0]? with
            | some (.lst acc) => if acc.length < big then compN vs gd t c f e i0 xs (s2.set i0 (.lst (acc ++ [y]))) else .stuck
            | _ => .stuck
          | _ => .stuck
        | .ok false s1 => compN vs gd t c f e i0 xs s1
        | _ => .stuck
      | none => .stuck
    else .stuck
/-- to be changed; cutE of it: to be read -/
def eCompO (vs : List Nat) (it : MI) (t : MG) (c : MT) (f : ME) : ME := fun e s => (it e s).bind fun r s => (compN vs r.2 t c f e s.length r.1 (s ++ [.lst []])).bind fun _ s' => .ok (.ref s.length) s'
def tYesS : MT := fun _ s => .ok true s
def SemPT (X : Cx) (W : WX) (ifs : List Expr) (f : MT) : Prop := PTs X ifs (rd RB (gx X) W f)
theorem spt_nil : SemPT X W [] tYesS := ⟨fun pins s σ H Q I ⟨env, st, ι, hs, he, h⟩ => pts_nil.run pins s σ H Q I (h true H ι hs .refl rfl)⟩
theorem spt_one {c : Expr} {f : MT} (h : SemT X W c f) : SemPT X W [c] f := pts_one h
abbrev W0 : WX := fun _ _ _ _ => False
theorem Cok.blk (C : Cok X W k) (s : Shared) (H : Hp) (scope : Scope) (cenv : PySem.Env) (fp : List Addr) : Cok (X.blk s H scope cenv fp) W0 k :=
  ⟨C.nd, C.calm, PassesOwn.never, takes0, C.room⟩
theorem comp_wk {elt : Expr} {ifs : List Expr} {vs ws : List Nat} {it : MI} {t : MG} {c : MT} {f : ME} (hsub : ∀ i ∈ ws, i ∈ vs) (σ : L2.St) (H : Hp) (Q : VK) (h : rd (RV (gx X)) (gx X) W (eCompO vs it t c f) σ H Q) :
    tLc (rd (RI (gx X)) (gx X) W it) (rdG (gx X) ws t) (rd RB (gx X) W0 c) (rd (RV (gx X)) (gx X) W0 f) vs σ H Q := by
  obtain ⟨env, s, ι, hs, he, h⟩ := h
  refine ⟨env, s, ι, hs, he, (Post.bnd (R := RI (gx X)) h).mono fun J H1 ⟨s1, ι1, ⟨ds, gd⟩, S1, E1, RJ, P1⟩ => ?_⟩
  obtain ⟨Gp, Y, w, hG, hY⟩ := RJ
  intro L hL
  have hgd : ∀ (xs : List D) (s' : S) (k : Unit → S → Res D) (ι' : List Addr) (H' : Hp), Post (RV (gx X)) (gx X) W ι' H' σ ((compN vs gd t c f env s1.length xs s').bind k) Q → gdOk s' gd = true := by
    intro xs s' k ι' H' P
    cases xs with
    | nil =>
      unfold compN at P
      split at P
      · assumption
      · exact P.elim
    | cons x xs =>
      unfold compN at P
      split at P
      · assumption
      · exact P.elim
  have hE : Ext ι1 H1 (ι1 ++ [L]) (upd H1 L (.lst [])) := Ext.alloc hL
  have P2 : Post (RV (gx X)) (gx X) W (ι1 ++ [L]) (upd H1 L (.lst [])) σ ((compN vs gd t c f env s1.length ds (s1 ++ [.lst []])).bind fun _ s' => .ok (.ref s1.length) s') Q := Post.ext P1 hE
  have S2 : Sim (gx X) (ι1 ++ [L]) (upd H1 L (.lst [])) (s1 ++ [.lst []]) := S1.alloc hL ⟨[], upd_same, rfl⟩
  have hix : (ι1 ++ [L])[s1.length]? = some L := by rw [← S1.len]; simp
  refine lc_it w (fun i H' => ∃ s' ι', Sim (gx X) ι' H' s' ∧ Ext ι1 H1 ι' H' ∧ (∃ t, ι' = (ι1 ++ [L]) ++ t) ∧ gdOk s' gd = true ∧
    Post (RV (gx X)) (gx X) W ι' H' σ ((compN vs gd t c f env s1.length (ds.drop i) s').bind fun _ s' => .ok (.ref s1.length) s') Q) ?_ ?_ ?_ ?_
  · exact ⟨_, _, S2, hE, ⟨[], by simp⟩, hgd _ _ _ _ _ P2, P2⟩
  · rintro i H' _ ⟨s', ι', S', E', _, g', _⟩
    exact hG ι' H' s' E' S' g'
  · rintro i x H' H'' hi ⟨s', ι', S', E', ⟨tt, et⟩, g', P'⟩ hy
    obtain ⟨S3, E3, hd⟩ := hY ι' H' s' i x H'' E' S' g' hy
    have hx : ds[i]? = some (ds[i]'hi) := by simp [show i < ds.length from hi]
    rw [List.drop_eq_getElem_cons (show i < ds.length from hi)] at P'
    unfold compN at P'
    rw [if_pos g'] at P'
    have henv : EnvR (gx X) ι' H'' env σ := (he.ext E1).ext (E'.trans E3)
    refine ⟨ds[i]'hi, wipeD env vs, s', ι', S3, henv.wipe vs, hd _ hx, ?_⟩
    cases q : t (ds[i]'hi) (wipeD env vs) s' with
    | none => rw [q] at P'; exact P'.elim
    | some e1 =>
      rw [q] at P'
      dsimp only at P' ⊢
      intro σ2 he2 hw2
      refine ⟨by
        have := wipe_sub hw2 hsub
        rw [this]
        exact wipe_ne _ _ _ (by rw [wipe_length]) fun j hj => wipe_out hj, e1, s', ι', S3, he2, ?_⟩
      cases qc : c e1 s' with
      | stuck => rw [qc] at P'; exact P'.elim
      | exc x s2 => rw [qc] at P'; exact P'.elim
      | ok b s2 =>
        rw [qc] at P'
        intro v H3 ι3 S4 E4 hb
        subst hb
        cases b with
        | false =>
          rw [if_neg Bool.false_ne_true]
          obtain ⟨t4, et4⟩ := id E4.pre
          have P5 := Post.ext P' (E3.trans E4)
          exact ⟨s2, ι3, S4, (E'.trans E3).trans E4, ⟨tt ++ t4, by rw [et4, et, List.append_assoc]⟩, hgd _ _ _ _ _ P5, P5⟩
        | true =>
          rw [if_pos rfl]
          refine ⟨e1, s2, ι3, S4, he2.ext E4, ?_⟩
          dsimp only at P'
          cases qf : f e1 s2 with
          | stuck => rw [qf] at P'; exact P'.elim
          | exc x s3 => rw [qf] at P'; exact P'.elim
          | ok y s3 =>
            rw [qf] at P'
            intro v' H4 ι4 S5 E5 hv
            dsimp only at P'
            split at P'
            · rename_i acc hacc
              split at P'
              · rename_i hz
                obtain ⟨t4, et4⟩ := id E4.pre
                obtain ⟨t5, et5⟩ := id E5.pre
                have eι : ι4 = (ι1 ++ [L]) ++ (tt ++ t4 ++ t5) := by rw [et5, et4, et]; simp only [List.append_assoc]
                have hix4 : ι4[s1.length]? = some L := by
                  rw [eι, List.getElem?_append_left (by rw [List.length_append, S1.len]; simp)]; exact hix
                obtain ⟨as, ha1, ha2⟩ := S5.lst hix4 hacc
                have hm : L ∈ ι4 := List.mem_of_getElem? hix4
                have hpre : Ext ι1 H1 ι4 H4 := ((E'.trans E3).trans E4).trans E5
                have hLn : ∀ o, Ext ι1 H1 ι4 (upd H4 L o) := fun o => ⟨hpre.pre, fun a u h1 h2 => by
                  obtain ⟨h3, h4⟩ := hpre.keep a u h1 h2
                  exact ⟨h3, by rw [upd_ne (ne_of_none h2 hL)]; exact h4⟩⟩
                have S6 : Sim (gx X) ι4 (upd H4 L (.lst (as ++ [v']))) (s3.set s1.length (.lst (acc ++ [y]))) := S5.put hix4 ⟨as ++ [v'], upd_same, (RepL.ext (Ext.put hm) _ _ ha2).append (RepL.one (Rep.ext (Ext.put hm) _ _ hv))⟩
                have P5 := Post.ext P' (((E3.trans E4).trans E5).trans (Ext.put (o := .lst (as ++ [v'])) hm))
                exact ⟨as, ha1, by rw [← ha2.length]; exact big_lt hz, s3.set s1.length (.lst (acc ++ [y])), ι4, S6, hLn _, ⟨_, eι⟩, hgd _ _ _ _ _ P5, P5⟩
              · exact P'.elim
            · exact P'.elim
  · rintro H' ⟨s', ι', S', E', ⟨tt, et⟩, g', P'⟩
    have P3 : Post (RV (gx X)) (gx X) W ι' H' σ ((compN vs gd t c f env s1.length (ds.drop ds.length) s').bind fun _ s' => .ok (.ref s1.length) s') Q := P'
    rw [List.drop_length] at P3
    unfold compN at P3
    rw [if_pos g'] at P3
    exact P3 (.ref L) H' ι' S' .refl ⟨L, by rw [et, List.getElem?_append_left (by rw [List.length_append, S1.len]; simp)]; exact hix, rfl⟩
theorem se_comp {elt : Expr} {ifs : List Expr} {scope : Scope} {own : List (Str × Nat)} {ws : List Nat} {it : MI} {t : MG} {c : MT} {f : ME} (C : Cok X W k) (hi : SemI X W tg iter it) (ok : blkC X.N X.env.scope scope own = true)
    (hg : ∀ (s : Shared) (H : Hp) (A : Addr) (cl : List (Str × Addr)) (fp : List Addr), Cok (X.blk s H scope (compEnvC scope cl A X.env) fp) W0 k → SemG (X.blk s H scope (compEnvC scope cl A X.env) fp) tg ws t)
    (ht : ∀ (s : Shared) (H : Hp) (A : Addr) (cl : List (Str × Addr)) (fp : List Addr), Cok (X.blk s H scope (compEnvC scope cl A X.env) fp) W0 k → SemPT (X.blk s H scope (compEnvC scope cl A X.env) fp) W0 ifs c)
    (hf : ∀ (s : Shared) (H : Hp) (A : Addr) (cl : List (Str × Addr)) (fp : List Addr), Cok (X.blk s H scope (compEnvC scope cl A X.env) fp) W0 k → SemE (X.blk s H scope (compEnvC scope cl A X.env) fp) W0 elt f)
    (hsub : ∀ i ∈ ws, i ∈ own.map (·.2) := by decide) (hs : ∀ x, foldedSetIterable iter X.env x = pure x := by intro _; rfl) :
    SemE X W (.ListComp elt [⟨tg, iter, ifs, 0⟩] scope pos) (eCompO (own.map (·.2)) it t c f) :=
  (pe_lc (g := rdG (gx X) ws t) (tt := rd RB (gx X) W0 c) (te := rd (RV (gx X)) (gx X) W0 f) C.calm C.nd hi (blkOk_by ok) (fun s H A cl fp => hg s H A cl fp (C.blk s H scope _ fp)) (fun s H A cl fp => ht s H A cl fp (C.blk s H scope _ fp)) (fun s H A cl fp => hf s H A cl fp (C.blk s H scope _ fp)) hs).wk (comp_wk (elt := elt) (ifs := ifs) hsub)
end
end Mp

/-! zip of two or three things, each a list or a tuple -/
namespace Mp
open PySem L2 PyProof.Rows
open Builtin.SmallTypes

/-- a source of a zip: a list or a tuple at l, its iterator at j -/
structure Src where
  tup : Bool
  l : Addr
  j : Addr
def Src.At (c : Src) (h : Heap) (i : Nat) : Prop := match c.tup with
  | true => h.IsTupleIter c.j c.l i
  | false => h.IsListIter c.j c.l i
def Src.Is (c : Src) (h : Heap) (xs : Array Value) : Prop := match c.tup with
  | true => h.IsTuple c.l xs
  | false => h.IsList c.l xs
theorem Src.At.up {c : Src} {h h' : Heap} {i : Nat} (a : c.At h i) (k : ∀ o, h.get? c.j = some o → h'.get? c.j = some o) : c.At h' i := by
  unfold Src.At at a ⊢
  split at a <;> exact a.at k
theorem Src.Is.up {c : Src} {h h' : Heap} {xs : Array Value} (a : c.Is h xs) (k : ∀ o, h.get? c.l = some o → h'.get? c.l = some o) : c.Is h' xs := by
  unfold Src.Is at a ⊢
  split at a
  · obtain ⟨o, h1, h2⟩ := a
    exact ⟨o, k o h1, h2⟩
  · obtain ⟨o, h1, h2⟩ := a
    exact ⟨o, k o h1, h2⟩
theorem Src.At.obj {c : Src} {h : Heap} {i : Nat} (a : c.At h i) : ∃ o, h.get? c.j = some o ∧ ∀ v, o.data ≠ .cell v := by
  unfold Src.At at a
  split at a
  · obtain ⟨o, h1, _, h2⟩ := a
    exact ⟨o, h1, fun v z => by rw [h2] at z; cases z⟩
  · obtain ⟨o, h1, _, h2⟩ := a
    exact ⟨o, h1, fun v z => by rw [h2] at z; cases z⟩
theorem Src.Is.lt {c : Src} {h : Heap} {xs : Array Value} (a : c.Is h xs) : c.l < h.objs.size := by
  unfold Src.Is at a
  split at a
  · obtain ⟨o, h1, _⟩ := a; exact Heap.lt_size h1
  · obtain ⟨o, h1, _⟩ := a; exact Heap.lt_size h1
section
variable {prog : Program} {w : World} {A : Around} {E : Value → Shared → Prop} {s : Shared}
theorem src_item {c : Src} {i : Nat} {xs : Array Value} {x : Value} {Q : Value → Shared → Prop} (a : c.At s.heap i) (b : c.Is s.heap xs) (hx : xs[i]? = some x)
    (hQ : ∀ h', c.At h' (i + 1) → Heap.SameBut c.j s.heap h' → Q x { s with heap := h' }) : wpAny (model prog w) A (nextOf (.ref c.j)) Q E s := by
  obtain ⟨t, l, j⟩ := c
  cases t with
  | true => exact RZ.nextOf_tuple_item a b hx hQ
  | false => exact wpAny_nextOf_list_item a b hx hQ
theorem src_end {c : Src} {i : Nat} {xs : Array Value} {Q : Value → Shared → Prop} (hh : A.handled = none) (a : c.At s.heap i) (b : c.Is s.heap xs) (hx : xs[i]? = none)
    (hE : ∀ h' e, Heap.ExtBut c.j s.heap h' → (∃ o, h'.get? e = some o ∧ o.cls = .type "StopIteration") → E (.ref e) { s with heap := h' }) : wpAny (model prog w) A (nextOf (.ref c.j)) Q E s := by
  obtain ⟨t, l, j⟩ := c
  cases t with
  | true => exact RZ.nextOf_tuple_end hh a b hx hE
  | false => exact wpAny_nextOf_list_end hh a b hx hE
abbrev IsRow (h : Heap) (T : Addr) (vs : Array Value) : Prop := h.get? T = some { cls := .type "tuple", data := .seq vs }
theorem row_set {T : Addr} {vs : Array Value} {x : Value} {k : Nat} {Q : Unit → Shared → Prop} (hT : IsRow s.heap T vs) (hv : vs.size ≤ sizeLine)
    (h : ∀ h', IsRow h' T (vs.setIfInBounds k x) → Heap.SameBut T s.heap h' → Q () { s with heap := h' }) : wpAny (model prog w) A (updateSeq T (·.setIfInBounds k x)) Q E s := by
  refine wpAny_updateSeq (hz := hv) (_hz' := by rw [Array.size_setIfInBounds]; exact Nat.le_succ_of_le hv) hT rfl (h _ ?_ (Heap.SameBut.update ..))
  show Heap.get? _ T = _
  rw [Heap.get?_update_self _ hT rfl]
  simp [Obj.mapSeq]
/-- what stands apart: the zip z, the row TI of iterators, its own row TO, the iterators, what they walk -/
structure Apart (z TI TO : Addr) (cs : List Src) : Prop where
  TIz : TI ≠ z
  TOz : TO ≠ z
  IO : TI ≠ TO
  jz : ∀ c ∈ cs, c.j ≠ z ∧ c.j ≠ TI ∧ c.j ≠ TO
  lz : ∀ c ∈ cs, c.l ≠ z ∧ c.l ≠ TO
  lj : ∀ c ∈ cs, ∀ d ∈ cs, c.l ≠ d.j
  jj : (cs.map (·.j)).Nodup
theorem three {a b d : Value} : (#[a, b, d] : Array Value).size ≤ sizeLine := by show 3 ≤ sizeLine; decide
theorem two {a b : Value} : (#[a, b] : Array Value).size ≤ sizeLine := by show 2 ≤ sizeLine; decide
/-- the turn of three -/
theorem zip3_item {z TI TO : Addr} {c1 c2 c3 : Src} {k : Nat} {xs ys zs : Array Value} {x y u a b d : Value} {Q : Value → Shared → Prop} (D : Apart z TI TO [c1, c2, c3])
    (hz : IsZip s.heap z TI TO .none) (hTI : IsRow s.heap TI #[.ref c1.j, .ref c2.j, .ref c3.j]) (hTO : IsRow s.heap TO #[a, b, d])
    (a1 : c1.At s.heap k) (a2 : c2.At s.heap k) (a3 : c3.At s.heap k) (l1 : c1.Is s.heap xs) (l2 : c2.Is s.heap ys) (l3 : c3.Is s.heap zs) (hx : xs[k]? = some x) (hy : ys[k]? = some y) (hu : zs[k]? = some u)
    (hQ : ∀ h', IsZip h' z TI TO (rawInt s.heap.objs.size) → IsRow h' TO #[x, y, u] → c1.At h' (k + 1) → c2.At h' (k + 1) → c3.At h' (k + 1) → IsRow h' s.heap.objs.size #[x, y, u] → h'.objs.size = s.heap.objs.size + 1 →
      (∀ e o, e ≠ z → e ≠ TO → e ≠ c1.j → e ≠ c2.j → e ≠ c3.j → s.heap.get? e = some o → h'.get? e = some o) → Q (.ref s.heap.objs.size) { s with heap := h' }) :
    wpAny (model prog w) A (Builtin.«zip.__next__» ⟨[.ref z], []⟩) (fun fin s' => ∃ v, fin = .done (.ret v) ∧ Q v s') E s := by
  have j12 : c1.j ≠ c2.j := by have := D.jj; simp at this; exact this.1.1
  have j13 : c1.j ≠ c3.j := by have := D.jj; simp at this; exact this.1.2
  have j23 : c2.j ≠ c3.j := by have := D.jj; simp at this; exact this.2
  have m1 : c1 ∈ [c1, c2, c3] := by simp
  have m2 : c2 ∈ [c1, c2, c3] := by simp
  have m3 : c3 ∈ [c1, c2, c3] := by simp
  obtain ⟨p1z, p1I, p1O⟩ := D.jz c1 m1
  obtain ⟨p2z, p2I, p2O⟩ := D.jz c2 m2
  obtain ⟨p3z, p3I, p3O⟩ := D.jz c3 m3
  show wpAny _ _ (field (.ref z) 2 >>= _) _ _ _
  refine wpAny_bind (wpAny_field hz rfl (x := .bool false) rfl ?_)
  show wpAny _ _ (field (.ref z) 3 >>= _) _ _ _
  refine wpAny_bind (wpAny_field hz rfl (x := .ref TI) rfl (wpAny_bind (wpAny_seqItems hTI rfl ?_)))
  show wpAny _ _ (ownedTupleIsFree (.ref z) >>= _) _ _ _
  refine wpAny_bind ?_
  unfold ownedTupleIsFree
  refine wpAny_bind (wpAny_field hz rfl (x := .none) rfl (wpAny_pure ?_))
  simp only [if_true]
  refine wpAny_bind (wpAny_rule (wpAny_bind (wpAny_field hz rfl (x := .ref TO) rfl (wpAny_bind (wpAny_setField_rec hz (by simp) fun h1 z1 s1 => ?_)))))
  replace z1 : IsZip h1 z TI TO .ellipsis := z1
  refine wpAny_bind ?_
  simp only [List.zipIdx_cons, List.zipIdx_nil, List.forIn_cons, List.forIn_nil]
  -- the first
  refine wpAny_bind (wpAny_bind (wpAny_onRaise ?_))
  show wpAny _ _ (nextOf (.ref c1.j) >>= _) _ _ _
  refine wpAny_bind (src_item (a1.up fun o q => s1.extBut _ _ p1z q) (l1.up fun o q => s1.extBut _ _ (D.lz c1 m1).1 q) hx fun h2 b1 s2 => wpAny_pure ?_)
  have t2 : IsRow h2 TO #[a, b, d] := s2.extBut _ _ (Ne.symm p1O) (s1.extBut _ _ D.TOz hTO)
  refine wpAny_bind (wpAny_seqItems t2 rfl (wpAny_bind (row_set t2 three fun h3 t3 s3 => wpAny_bind (wpAny_letGo (wpAny_pure ?_)))))
  replace t3 : IsRow h3 TO #[x, b, d] := t3
  -- the second
  refine wpAny_bind (wpAny_bind (wpAny_onRaise ?_))
  show wpAny _ _ (nextOf (.ref c2.j) >>= _) _ _ _
  refine wpAny_bind (src_item (a2.up fun o q => s3.extBut _ _ p2O (s2.extBut _ _ (Ne.symm j12) (s1.extBut _ _ p2z q)))
    (l2.up fun o q => s3.extBut _ _ (D.lz c2 m2).2 (s2.extBut _ _ (D.lj c2 m2 c1 m1) (s1.extBut _ _ (D.lz c2 m2).1 q))) hy fun h4 b2 s4 => wpAny_pure ?_)
  have t4 : IsRow h4 TO #[x, b, d] := s4.extBut _ _ (Ne.symm p2O) t3
  refine wpAny_bind (wpAny_seqItems t4 rfl (wpAny_bind (row_set t4 three fun h5 t5 s5 => wpAny_bind (wpAny_letGo (wpAny_pure ?_)))))
  replace t5 : IsRow h5 TO #[x, y, d] := t5
  -- the third
  refine wpAny_bind (wpAny_bind (wpAny_onRaise ?_))
  show wpAny _ _ (nextOf (.ref c3.j) >>= _) _ _ _
  refine wpAny_bind (src_item (a3.up fun o q => s5.extBut _ _ p3O (s4.extBut _ _ (Ne.symm j23) (s3.extBut _ _ p3O (s2.extBut _ _ (Ne.symm j13) (s1.extBut _ _ p3z q)))))
    (l3.up fun o q => s5.extBut _ _ (D.lz c3 m3).2 (s4.extBut _ _ (D.lj c3 m3 c2 m2) (s3.extBut _ _ (D.lz c3 m3).2 (s2.extBut _ _ (D.lj c3 m3 c1 m1) (s1.extBut _ _ (D.lz c3 m3).1 q))))) hu fun h6 b3 s6 => wpAny_pure ?_)
  have t6 : IsRow h6 TO #[x, y, d] := s6.extBut _ _ (Ne.symm p3O) t5
  refine wpAny_bind (wpAny_seqItems t6 rfl (wpAny_bind (row_set t6 three fun h7 t7 s7 => wpAny_bind (wpAny_letGo (wpAny_pure (wpAny_pure ?_))))))
  replace t7 : IsRow h7 TO #[x, y, u] := t7
  refine wpAny_bind (wpAny_seqItems t7 rfl (wpAny_bind (wpAny_newTuple ?_)))
  have sz : h7.objs.size = s.heap.objs.size := by rw [s7.1, s6.1, s5.1, s4.1, s3.1, s2.1, s1.1]
  have up7 : ∀ e o, e ≠ z → e ≠ TO → e ≠ c1.j → e ≠ c2.j → e ≠ c3.j → s.heap.get? e = some o → h7.get? e = some o := fun e o q1 q2 q3 q4 q5 q =>
    s7.extBut _ _ q2 (s6.extBut _ _ q5 (s5.extBut _ _ q2 (s4.extBut _ _ q4 (s3.extBut _ _ q2 (s2.extBut _ _ q3 (s1.extBut _ _ q1 q))))))
  have z7 : IsZip h7 z TI TO .ellipsis := s7.extBut _ _ (Ne.symm D.TOz) (s6.extBut _ _ (Ne.symm p3z) (s5.extBut _ _ (Ne.symm D.TOz) (s4.extBut _ _ (Ne.symm p2z) (s3.extBut _ _ (Ne.symm D.TOz) (s2.extBut _ _ (Ne.symm p1z) z1)))))
  have f1 : c1.At h7 (k + 1) := b1.up fun o q => s7.extBut _ _ p1O (s6.extBut _ _ j13 (s5.extBut _ _ p1O (s4.extBut _ _ j12 (s3.extBut _ _ p1O q))))
  have f2 : c2.At h7 (k + 1) := b2.up fun o q => s7.extBut _ _ p2O (s6.extBut _ _ j23 (s5.extBut _ _ p2O q))
  have f3 : c3.At h7 (k + 1) := b3.up fun o q => s7.extBut _ _ p3O q
  have zlt : z < h7.objs.size := Heap.lt_size z7
  show wpAny _ _ (ownedTupleHandOut (.ref z) (.ref h7.objs.size) >>= _) _ _ _
  refine wpAny_bind ?_
  unfold ownedTupleHandOut
  have z8 : IsZip (h7.push { cls := .type "tuple", data := .seq #[x, y, u] }) z TI TO .ellipsis := Heap.get?_push_of_some _ z7
  refine wpAny_bind (wpAny_setField_rec z8 (by simp) fun h8 z9 s8 => ?_)
  replace z9 : IsZip h8 z TI TO (rawInt h7.objs.size) := z9
  refine wpAny_setField_rec z9 (by simp) fun h9 z10 s9 => ?_
  replace z10 : IsZip h9 z TI TO (rawInt h7.objs.size) := z10
  have up : ∀ e o, e ≠ z → h7.get? e = some o → h9.get? e = some o := fun e o q1 q => s9.extBut _ _ q1 (s8.extBut _ _ q1 (Heap.get?_push_of_some _ q))
  have tN : IsRow h9 h7.objs.size #[x, y, u] := s9.extBut _ _ (Nat.ne_of_gt zlt) (s8.extBut _ _ (Nat.ne_of_gt zlt) (Heap.get?_push_size _ rfl))
  have szN : h9.objs.size = h7.objs.size + 1 := by rw [s9.1, s8.1, Heap.size_push]
  rw [sz] at z10 tN szN
  refine wpAny_pure ⟨_, rfl, ?_⟩
  show Q (.ref h7.objs.size) _
  rw [sz]
  exact hQ h9 z10 (up _ _ D.TOz t7) (f1.up fun o q => up _ o p1z q) (f2.up fun o q => up _ o p2z q) (f3.up fun o q => up _ o p3z q) tN szN fun e o q1 q2 q3 q4 q5 q => up e o q1 (up7 e o q1 q2 q3 q4 q5 q)
/-- the end of three -/
theorem zip3_end {z TI TO : Addr} {c1 c2 c3 : Src} {k : Nat} {xs ys zs : Array Value} {a b d : Value} {Q : Fin → Shared → Prop} (hh : A.handled = none) (D : Apart z TI TO [c1, c2, c3])
    (hz : IsZip s.heap z TI TO .none) (hTI : IsRow s.heap TI #[.ref c1.j, .ref c2.j, .ref c3.j]) (hTO : IsRow s.heap TO #[a, b, d])
    (a1 : c1.At s.heap k) (a2 : c2.At s.heap k) (a3 : c3.At s.heap k) (l1 : c1.Is s.heap xs) (l2 : c2.Is s.heap ys) (l3 : c3.Is s.heap zs) (he : xs[k]? = none ∨ ys[k]? = none ∨ zs[k]? = none)
    (hE : ∀ h' e, (∀ q o, q ≠ z → q ≠ TO → q ≠ c1.j → q ≠ c2.j → q ≠ c3.j → s.heap.get? q = some o → h'.get? q = some o) → (∃ o, h'.get? e = some o ∧ o.cls = .type "StopIteration") → E (.ref e) { s with heap := h' }) :
    wpAny (model prog w) A (Builtin.«zip.__next__» ⟨[.ref z], []⟩) Q E s := by
  have j12 : c1.j ≠ c2.j := by have := D.jj; simp at this; exact this.1.1
  have j13 : c1.j ≠ c3.j := by have := D.jj; simp at this; exact this.1.2
  have j23 : c2.j ≠ c3.j := by have := D.jj; simp at this; exact this.2
  have m1 : c1 ∈ [c1, c2, c3] := by simp
  have m2 : c2 ∈ [c1, c2, c3] := by simp
  have m3 : c3 ∈ [c1, c2, c3] := by simp
  obtain ⟨p1z, p1I, p1O⟩ := D.jz c1 m1
  obtain ⟨p2z, p2I, p2O⟩ := D.jz c2 m2
  obtain ⟨p3z, p3I, p3O⟩ := D.jz c3 m3
  have stop : ∀ {h : Heap} {e : Addr}, IsZip h z TI TO .ellipsis → (∃ o, h.get? e = some o ∧ o.cls = .type "StopIteration") → e ≠ z := fun z2 ⟨o, q1, q2⟩ q => by
    rw [q] at q1; rw [z2] at q1; cases q1; simp at q2
  show wpAny _ _ (field (.ref z) 2 >>= _) _ _ _
  refine wpAny_bind (wpAny_field hz rfl (x := .bool false) rfl ?_)
  show wpAny _ _ (field (.ref z) 3 >>= _) _ _ _
  refine wpAny_bind (wpAny_field hz rfl (x := .ref TI) rfl (wpAny_bind (wpAny_seqItems hTI rfl ?_)))
  show wpAny _ _ (ownedTupleIsFree (.ref z) >>= _) _ _ _
  refine wpAny_bind ?_
  unfold ownedTupleIsFree
  refine wpAny_bind (wpAny_field hz rfl (x := .none) rfl (wpAny_pure ?_))
  simp only [if_true]
  refine wpAny_bind (wpAny_rule (wpAny_bind (wpAny_field hz rfl (x := .ref TO) rfl (wpAny_bind (wpAny_setField_rec hz (by simp) fun h1 z1 s1 => ?_)))))
  replace z1 : IsZip h1 z TI TO .ellipsis := z1
  refine wpAny_bind ?_
  simp only [List.zipIdx_cons, List.zipIdx_nil, List.forIn_cons, List.forIn_nil]
  refine wpAny_bind (wpAny_bind (wpAny_onRaise ?_))
  show wpAny _ _ (nextOf (.ref c1.j) >>= _) _ _ _
  have A1 : c1.At h1 k := a1.up fun o q => s1.extBut _ _ p1z q
  have L1 : c1.Is h1 xs := l1.up fun o q => s1.extBut _ _ (D.lz c1 m1).1 q
  cases hx : xs[k]? with
  | none =>
    refine wpAny_bind (src_end hh A1 L1 hx fun h2 e s2 se => ?_)
    have z2 : IsZip h2 z TI TO .ellipsis := s2 _ _ (Ne.symm p1z) z1
    have ez := stop z2 se
    obtain ⟨oe, q1, q2⟩ := se
    exact wpAny_setField_rec z2 (by simp) fun h3 _ s3 => hE h3 e (fun q o e1 e2 e3 e4 e5 r => s3.extBut _ _ e1 (s2 _ _ e3 (s1.extBut _ _ e1 r))) ⟨oe, s3.extBut _ _ ez q1, q2⟩
  | some x =>
    refine wpAny_bind (src_item A1 L1 hx fun h2 b1 s2 => wpAny_pure ?_)
    have z2 : IsZip h2 z TI TO .ellipsis := s2.extBut _ _ (Ne.symm p1z) z1
    have t2 : IsRow h2 TO #[a, b, d] := s2.extBut _ _ (Ne.symm p1O) (s1.extBut _ _ D.TOz hTO)
    refine wpAny_bind (wpAny_seqItems t2 rfl (wpAny_bind (row_set t2 three fun h3 t3 s3 => wpAny_bind (wpAny_letGo (wpAny_pure ?_)))))
    replace t3 : IsRow h3 TO #[x, b, d] := t3
    have z3 : IsZip h3 z TI TO .ellipsis := s3.extBut _ _ (Ne.symm D.TOz) z2
    refine wpAny_bind (wpAny_bind (wpAny_onRaise ?_))
    show wpAny _ _ (nextOf (.ref c2.j) >>= _) _ _ _
    have A2 : c2.At h3 k := a2.up fun o q => s3.extBut _ _ p2O (s2.extBut _ _ (Ne.symm j12) (s1.extBut _ _ p2z q))
    have L2 : c2.Is h3 ys := l2.up fun o q => s3.extBut _ _ (D.lz c2 m2).2 (s2.extBut _ _ (D.lj c2 m2 c1 m1) (s1.extBut _ _ (D.lz c2 m2).1 q))
    cases hy : ys[k]? with
    | none =>
      refine wpAny_bind (src_end hh A2 L2 hy fun h4 e s4 se => ?_)
      have z4 : IsZip h4 z TI TO .ellipsis := s4 _ _ (Ne.symm p2z) z3
      have ez := stop z4 se
      obtain ⟨oe, q1, q2⟩ := se
      exact wpAny_setField_rec z4 (by simp) fun h5 _ s5 => hE h5 e (fun q o e1 e2 e3 e4 e5 r => s5.extBut _ _ e1 (s4 _ _ e4 (s3.extBut _ _ e2 (s2.extBut _ _ e3 (s1.extBut _ _ e1 r))))) ⟨oe, s5.extBut _ _ ez q1, q2⟩
    | some y =>
      have hu : zs[k]? = none := by
        rcases he with q | q | q
        · rw [hx] at q; cases q
        · rw [hy] at q; cases q
        · exact q
      refine wpAny_bind (src_item A2 L2 hy fun h4 b2 s4 => wpAny_pure ?_)
      have z4 : IsZip h4 z TI TO .ellipsis := s4.extBut _ _ (Ne.symm p2z) z3
      have t4 : IsRow h4 TO #[x, b, d] := s4.extBut _ _ (Ne.symm p2O) t3
      refine wpAny_bind (wpAny_seqItems t4 rfl (wpAny_bind (row_set t4 three fun h5 t5 s5 => wpAny_bind (wpAny_letGo (wpAny_pure ?_)))))
      have z5 : IsZip h5 z TI TO .ellipsis := s5.extBut _ _ (Ne.symm D.TOz) z4
      refine wpAny_bind (wpAny_bind (wpAny_onRaise ?_))
      show wpAny _ _ (nextOf (.ref c3.j) >>= _) _ _ _
      refine wpAny_bind (src_end hh (a3.up fun o q => s5.extBut _ _ p3O (s4.extBut _ _ (Ne.symm j23) (s3.extBut _ _ p3O (s2.extBut _ _ (Ne.symm j13) (s1.extBut _ _ p3z q)))))
        (l3.up fun o q => s5.extBut _ _ (D.lz c3 m3).2 (s4.extBut _ _ (D.lj c3 m3 c2 m2) (s3.extBut _ _ (D.lz c3 m3).2 (s2.extBut _ _ (D.lj c3 m3 c1 m1) (s1.extBut _ _ (D.lz c3 m3).1 q))))) hu fun h6 e s6 se => ?_)
      have z6 : IsZip h6 z TI TO .ellipsis := s6 _ _ (Ne.symm p3z) z5
      have ez := stop z6 se
      obtain ⟨oe, q1, q2⟩ := se
      exact wpAny_setField_rec z6 (by simp) fun h7 _ s7 => hE h7 e (fun q o e1 e2 e3 e4 e5 r => s7.extBut _ _ e1 (s6 _ _ e5 (s5.extBut _ _ e2 (s4.extBut _ _ e4 (s3.extBut _ _ e2 (s2.extBut _ _ e3 (s1.extBut _ _ e1 r))))))) ⟨oe, s7.extBut _ _ ez q1, q2⟩
/-- the turn of two -/
theorem zip2_item {z TI TO : Addr} {c1 c2 : Src} {k : Nat} {xs ys : Array Value} {x y a b : Value} {Q : Value → Shared → Prop} (D : Apart z TI TO [c1, c2])
    (hz : IsZip s.heap z TI TO .none) (hTI : IsRow s.heap TI #[.ref c1.j, .ref c2.j]) (hTO : IsRow s.heap TO #[a, b])
    (a1 : c1.At s.heap k) (a2 : c2.At s.heap k) (l1 : c1.Is s.heap xs) (l2 : c2.Is s.heap ys) (hx : xs[k]? = some x) (hy : ys[k]? = some y)
    (hQ : ∀ h', IsZip h' z TI TO (rawInt s.heap.objs.size) → IsRow h' TO #[x, y] → c1.At h' (k + 1) → c2.At h' (k + 1) → IsRow h' s.heap.objs.size #[x, y] → h'.objs.size = s.heap.objs.size + 1 →
      (∀ e o, e ≠ z → e ≠ TO → e ≠ c1.j → e ≠ c2.j → s.heap.get? e = some o → h'.get? e = some o) → Q (.ref s.heap.objs.size) { s with heap := h' }) :
    wpAny (model prog w) A (Builtin.«zip.__next__» ⟨[.ref z], []⟩) (fun fin s' => ∃ v, fin = .done (.ret v) ∧ Q v s') E s := by
  have j12 : c1.j ≠ c2.j := by have := D.jj; simp at this; exact this
  have m1 : c1 ∈ [c1, c2] := by simp
  have m2 : c2 ∈ [c1, c2] := by simp
  obtain ⟨p1z, p1I, p1O⟩ := D.jz c1 m1
  obtain ⟨p2z, p2I, p2O⟩ := D.jz c2 m2
  show wpAny _ _ (field (.ref z) 2 >>= _) _ _ _
  refine wpAny_bind (wpAny_field hz rfl (x := .bool false) rfl ?_)
  show wpAny _ _ (field (.ref z) 3 >>= _) _ _ _
  refine wpAny_bind (wpAny_field hz rfl (x := .ref TI) rfl (wpAny_bind (wpAny_seqItems hTI rfl ?_)))
  show wpAny _ _ (ownedTupleIsFree (.ref z) >>= _) _ _ _
  refine wpAny_bind ?_
  unfold ownedTupleIsFree
  refine wpAny_bind (wpAny_field hz rfl (x := .none) rfl (wpAny_pure ?_))
  simp only [if_true]
  refine wpAny_bind (wpAny_rule (wpAny_bind (wpAny_field hz rfl (x := .ref TO) rfl (wpAny_bind (wpAny_setField_rec hz (by simp) fun h1 z1 s1 => ?_)))))
  replace z1 : IsZip h1 z TI TO .ellipsis := z1
  refine wpAny_bind ?_
  simp only [List.zipIdx_cons, List.zipIdx_nil, List.forIn_cons, List.forIn_nil]
  refine wpAny_bind (wpAny_bind (wpAny_onRaise ?_))
  show wpAny _ _ (nextOf (.ref c1.j) >>= _) _ _ _
  refine wpAny_bind (src_item (a1.up fun o q => s1.extBut _ _ p1z q) (l1.up fun o q => s1.extBut _ _ (D.lz c1 m1).1 q) hx fun h2 b1 s2 => wpAny_pure ?_)
  have t2 : IsRow h2 TO #[a, b] := s2.extBut _ _ (Ne.symm p1O) (s1.extBut _ _ D.TOz hTO)
  refine wpAny_bind (wpAny_seqItems t2 rfl (wpAny_bind (row_set t2 two fun h3 t3 s3 => wpAny_bind (wpAny_letGo (wpAny_pure ?_)))))
  replace t3 : IsRow h3 TO #[x, b] := t3
  refine wpAny_bind (wpAny_bind (wpAny_onRaise ?_))
  show wpAny _ _ (nextOf (.ref c2.j) >>= _) _ _ _
  refine wpAny_bind (src_item (a2.up fun o q => s3.extBut _ _ p2O (s2.extBut _ _ (Ne.symm j12) (s1.extBut _ _ p2z q)))
    (l2.up fun o q => s3.extBut _ _ (D.lz c2 m2).2 (s2.extBut _ _ (D.lj c2 m2 c1 m1) (s1.extBut _ _ (D.lz c2 m2).1 q))) hy fun h4 b2 s4 => wpAny_pure ?_)
  have t4 : IsRow h4 TO #[x, b] := s4.extBut _ _ (Ne.symm p2O) t3
  refine wpAny_bind (wpAny_seqItems t4 rfl (wpAny_bind (row_set t4 two fun h5 t5 s5 => wpAny_bind (wpAny_letGo (wpAny_pure (wpAny_pure ?_))))))
  replace t5 : IsRow h5 TO #[x, y] := t5
  refine wpAny_bind (wpAny_seqItems t5 rfl (wpAny_bind (wpAny_newTuple ?_)))
  have sz : h5.objs.size = s.heap.objs.size := by rw [s5.1, s4.1, s3.1, s2.1, s1.1]
  have up5 : ∀ e o, e ≠ z → e ≠ TO → e ≠ c1.j → e ≠ c2.j → s.heap.get? e = some o → h5.get? e = some o := fun e o q1 q2 q3 q4 q =>
    s5.extBut _ _ q2 (s4.extBut _ _ q4 (s3.extBut _ _ q2 (s2.extBut _ _ q3 (s1.extBut _ _ q1 q))))
  have z5 : IsZip h5 z TI TO .ellipsis := s5.extBut _ _ (Ne.symm D.TOz) (s4.extBut _ _ (Ne.symm p2z) (s3.extBut _ _ (Ne.symm D.TOz) (s2.extBut _ _ (Ne.symm p1z) z1)))
  have f1 : c1.At h5 (k + 1) := b1.up fun o q => s5.extBut _ _ p1O (s4.extBut _ _ j12 (s3.extBut _ _ p1O q))
  have f2 : c2.At h5 (k + 1) := b2.up fun o q => s5.extBut _ _ p2O q
  have zlt : z < h5.objs.size := Heap.lt_size z5
  show wpAny _ _ (ownedTupleHandOut (.ref z) (.ref h5.objs.size) >>= _) _ _ _
  refine wpAny_bind ?_
  unfold ownedTupleHandOut
  have z8 : IsZip (h5.push { cls := .type "tuple", data := .seq #[x, y] }) z TI TO .ellipsis := Heap.get?_push_of_some _ z5
  refine wpAny_bind (wpAny_setField_rec z8 (by simp) fun h8 z9 s8 => ?_)
  replace z9 : IsZip h8 z TI TO (rawInt h5.objs.size) := z9
  refine wpAny_setField_rec z9 (by simp) fun h9 z10 s9 => ?_
  replace z10 : IsZip h9 z TI TO (rawInt h5.objs.size) := z10
  have up : ∀ e o, e ≠ z → h5.get? e = some o → h9.get? e = some o := fun e o q1 q => s9.extBut _ _ q1 (s8.extBut _ _ q1 (Heap.get?_push_of_some _ q))
  have tN : IsRow h9 h5.objs.size #[x, y] := s9.extBut _ _ (Nat.ne_of_gt zlt) (s8.extBut _ _ (Nat.ne_of_gt zlt) (Heap.get?_push_size _ rfl))
  have szN : h9.objs.size = h5.objs.size + 1 := by rw [s9.1, s8.1, Heap.size_push]
  rw [sz] at z10 tN szN
  refine wpAny_pure ⟨_, rfl, ?_⟩
  show Q (.ref h5.objs.size) _
  rw [sz]
  exact hQ h9 z10 (up _ _ D.TOz t5) (f1.up fun o q => up _ o p1z q) (f2.up fun o q => up _ o p2z q) tN szN fun e o q1 q2 q3 q4 q => up e o q1 (up5 e o q1 q2 q3 q4 q)
/-- the end of two -/
theorem zip2_end {z TI TO : Addr} {c1 c2 : Src} {k : Nat} {xs ys : Array Value} {a b : Value} {Q : Fin → Shared → Prop} (hh : A.handled = none) (D : Apart z TI TO [c1, c2])
    (hz : IsZip s.heap z TI TO .none) (hTI : IsRow s.heap TI #[.ref c1.j, .ref c2.j]) (hTO : IsRow s.heap TO #[a, b])
    (a1 : c1.At s.heap k) (a2 : c2.At s.heap k) (l1 : c1.Is s.heap xs) (l2 : c2.Is s.heap ys) (he : xs[k]? = none ∨ ys[k]? = none)
    (hE : ∀ h' e, (∀ q o, q ≠ z → q ≠ TO → q ≠ c1.j → q ≠ c2.j → s.heap.get? q = some o → h'.get? q = some o) → (∃ o, h'.get? e = some o ∧ o.cls = .type "StopIteration") → E (.ref e) { s with heap := h' }) :
    wpAny (model prog w) A (Builtin.«zip.__next__» ⟨[.ref z], []⟩) Q E s := by
  have j12 : c1.j ≠ c2.j := by have := D.jj; simp at this; exact this
  have m1 : c1 ∈ [c1, c2] := by simp
  have m2 : c2 ∈ [c1, c2] := by simp
  obtain ⟨p1z, p1I, p1O⟩ := D.jz c1 m1
  obtain ⟨p2z, p2I, p2O⟩ := D.jz c2 m2
  have stop : ∀ {h : Heap} {e : Addr}, IsZip h z TI TO .ellipsis → (∃ o, h.get? e = some o ∧ o.cls = .type "StopIteration") → e ≠ z := fun z2 ⟨o, q1, q2⟩ q => by
    rw [q] at q1; rw [z2] at q1; cases q1; simp at q2
  show wpAny _ _ (field (.ref z) 2 >>= _) _ _ _
  refine wpAny_bind (wpAny_field hz rfl (x := .bool false) rfl ?_)
  show wpAny _ _ (field (.ref z) 3 >>= _) _ _ _
  refine wpAny_bind (wpAny_field hz rfl (x := .ref TI) rfl (wpAny_bind (wpAny_seqItems hTI rfl ?_)))
  show wpAny _ _ (ownedTupleIsFree (.ref z) >>= _) _ _ _
  refine wpAny_bind ?_
  unfold ownedTupleIsFree
  refine wpAny_bind (wpAny_field hz rfl (x := .none) rfl (wpAny_pure ?_))
  simp only [if_true]
  refine wpAny_bind (wpAny_rule (wpAny_bind (wpAny_field hz rfl (x := .ref TO) rfl (wpAny_bind (wpAny_setField_rec hz (by simp) fun h1 z1 s1 => ?_)))))
  replace z1 : IsZip h1 z TI TO .ellipsis := z1
  refine wpAny_bind ?_
  simp only [List.zipIdx_cons, List.zipIdx_nil, List.forIn_cons, List.forIn_nil]
  refine wpAny_bind (wpAny_bind (wpAny_onRaise ?_))
  show wpAny _ _ (nextOf (.ref c1.j) >>= _) _ _ _
  have A1 : c1.At h1 k := a1.up fun o q => s1.extBut _ _ p1z q
  have L1 : c1.Is h1 xs := l1.up fun o q => s1.extBut _ _ (D.lz c1 m1).1 q
  cases hx : xs[k]? with
  | none =>
    refine wpAny_bind (src_end hh A1 L1 hx fun h2 e s2 se => ?_)
    have z2 : IsZip h2 z TI TO .ellipsis := s2 _ _ (Ne.symm p1z) z1
    have ez := stop z2 se
    obtain ⟨oe, q1, q2⟩ := se
    exact wpAny_setField_rec z2 (by simp) fun h3 _ s3 => hE h3 e (fun q o e1 e2 e3 e4 r => s3.extBut _ _ e1 (s2 _ _ e3 (s1.extBut _ _ e1 r))) ⟨oe, s3.extBut _ _ ez q1, q2⟩
  | some x =>
    have hy : ys[k]? = none := by
      rcases he with q | q
      · rw [hx] at q; cases q
      · exact q
    refine wpAny_bind (src_item A1 L1 hx fun h2 b1 s2 => wpAny_pure ?_)
    have z2 : IsZip h2 z TI TO .ellipsis := s2.extBut _ _ (Ne.symm p1z) z1
    have t2 : IsRow h2 TO #[a, b] := s2.extBut _ _ (Ne.symm p1O) (s1.extBut _ _ D.TOz hTO)
    refine wpAny_bind (wpAny_seqItems t2 rfl (wpAny_bind (row_set t2 two fun h3 t3 s3 => wpAny_bind (wpAny_letGo (wpAny_pure ?_)))))
    have z3 : IsZip h3 z TI TO .ellipsis := s3.extBut _ _ (Ne.symm D.TOz) z2
    refine wpAny_bind (wpAny_bind (wpAny_onRaise ?_))
    show wpAny _ _ (nextOf (.ref c2.j) >>= _) _ _ _
    refine wpAny_bind (src_end hh (a2.up fun o q => s3.extBut _ _ p2O (s2.extBut _ _ (Ne.symm j12) (s1.extBut _ _ p2z q)))
      (l2.up fun o q => s3.extBut _ _ (D.lz c2 m2).2 (s2.extBut _ _ (D.lj c2 m2 c1 m1) (s1.extBut _ _ (D.lz c2 m2).1 q))) hy fun h4 e s4 se => ?_)
    have z4 : IsZip h4 z TI TO .ellipsis := s4 _ _ (Ne.symm p2z) z3
    have ez := stop z4 se
    obtain ⟨oe, q1, q2⟩ := se
    exact wpAny_setField_rec z4 (by simp) fun h5 _ s5 => hE h5 e (fun q o e1 e2 e3 e4 r => s5.extBut _ _ e1 (s4 _ _ e4 (s3.extBut _ _ e2 (s2.extBut _ _ e3 (s1.extBut _ _ e1 r))))) ⟨oe, s5.extBut _ _ ez q1, q2⟩
end
end Mp

namespace Mp
open PySem L2 PyProof.Rows
open Builtin.SmallTypes

/-! ### zip: the iterator -/
section
variable {prog : Program} {w : World} {A : Around} {E : Value → Shared → Prop} {s : Shared}
theorem next_of_item {z TI TO : Addr} {f0 : Value} {Q : Option Value → Shared → Prop} (hz : IsZip s.heap z TI TO f0)
    (h : wpAny (model prog w) A.in1 (Builtin.«zip.__next__» ⟨[.ref z], []⟩) (fun fin s' => ∃ v, fin = .done (.ret v) ∧ Q (some v) s') (fun _ _ => False) s) : wpAny (model prog w) A (pyNext (.ref z)) Q E s := by
  have hT : s.TypeIs (.ref z) "zip" := ⟨_, hz, rfl⟩
  unfold pyNext
  refine wpAny_bind (wpAny_attempt (wpAny_callSpecial?_slot (name := Str.ofString "__next__") hT F.slot_zip_next (wpAny_call_entry F.slot_zip_next hT F.entry_zip_next ?_ (F.args_zip_next_1 _))))
  exact wpAny_mono h (fun fin s' ⟨v, e, q⟩ => ⟨v, e, wpAny_pure q⟩) fun _ _ z => z.elim
theorem next_of_end {z TI TO : Addr} {f0 : Value} {Q : Option Value → Shared → Prop} {K : Heap → Prop} (hz : IsZip s.heap z TI TO f0)
    (h : ∀ (Q' : Fin → Shared → Prop) (E' : Value → Shared → Prop), (∀ h' e, K h' → (∃ o, h'.get? e = some o ∧ o.cls = .type "StopIteration") → E' (.ref e) { s with heap := h' }) → wpAny (model prog w) A.in1 (Builtin.«zip.__next__» ⟨[.ref z], []⟩) Q' E' s)
    (hQ : ∀ h', K h' → Q none { s with heap := h' }) : wpAny (model prog w) A (pyNext (.ref z)) Q E s := by
  have hT : s.TypeIs (.ref z) "zip" := ⟨_, hz, rfl⟩
  unfold pyNext
  refine wpAny_bind (wpAny_attempt (wpAny_callSpecial?_slot (name := Str.ofString "__next__") hT F.slot_zip_next (wpAny_call_entry F.slot_zip_next hT F.entry_zip_next (h _ _ fun h' e hk he => ?_) (F.args_zip_next_1 _))))
  obtain ⟨o, q1, q2⟩ := he
  exact wpAny_bind (wpAny_isInstance (T := "StopIteration") (b := true) ⟨o, q1, q2⟩ isSubtype_stop (wpAny_pure (hQ _ hk)))
/-- a new iterator's object -/
def itObj (t : Bool) (l : Addr) : Obj := { cls := .type (if t then "tuple_iterator" else "list_iterator"), data := .fields #[.ref l, .int 0 0] }
theorem it_new {t : Bool} {l : Addr} {xs : Array Value} {Q : Value → Shared → Prop} (h : (Src.mk t l 0).Is s.heap xs) (q : Q (.ref s.heap.objs.size) { s with heap := s.heap.push (itObj t l) }) : wpAny (model prog w) A (pyIter (.ref l)) Q E s := by
  cases t with
  | true => exact wpAny_pyIter_tuple h q
  | false => exact wpAny_pyIter_list h q
abbrev zH1 (t : Bool) (l : Addr) (h : Heap) : Heap := h.push (itObj t l)
abbrev zRow (h : Heap) (vs : Array Value) : Heap := h.push { cls := .type "tuple", data := .seq vs }
abbrev zEnd (h : Heap) (TI TO : Addr) : Heap := h.push { cls := .type "zip", data := .fields #[.none, .bool false, .bool false, .ref TI, .ref TO] }
theorem Src.Is.push {t : Bool} {l j : Addr} {h : Heap} {xs : Array Value} (a : (Src.mk t l j).Is h xs) (o : Obj) : (Src.mk t l j).Is (h.push o) xs := a.up fun u q => Heap.get?_push_of_some _ q
theorem Src.Is.any {t : Bool} {l j j' : Addr} {h : Heap} {xs : Array Value} (a : (Src.mk t l j).Is h xs) : (Src.mk t l j').Is h xs := a
theorem zip2_new (t1 t2 : Bool) (l1 l2 : Addr) (xs ys : Array Value) :
    Meets (Builtin.«zip.__new__» ⟨[.type "zip", .ref l1, .ref l2], []⟩) (fun _ R s => (Src.mk t1 l1 0).Is s.heap xs ∧ (Src.mk t2 l2 0).Is s.heap ys ∧
      R (.ok (.ret (.ref (zRow (zRow (zH1 t2 l2 (zH1 t1 l1 s.heap)) #[.ref s.heap.objs.size, .ref (zH1 t1 l1 s.heap).objs.size]) #[.none, .none]).objs.size)))
        { s with heap := zEnd (zRow (zRow (zH1 t2 l2 (zH1 t1 l1 s.heap)) #[.ref s.heap.objs.size, .ref (zH1 t1 l1 s.heap).objs.size]) #[.none, .none]) (zH1 t2 l2 (zH1 t1 l1 s.heap)).objs.size (zRow (zH1 t2 l2 (zH1 t1 l1 s.heap)) #[.ref s.heap.objs.size, .ref (zH1 t1 l1 s.heap).objs.size]).objs.size }) :=
  .of_wp fun prog w A R s h => by
    obtain ⟨hp, g, d, tk, os⟩ := s
    obtain ⟨h1, h2, h⟩ := h
    have hsub := sub_zip
    have e1 : (Src.mk t1 l1 0).Is (Shared.heap ⟨hp, g, d, tk, os⟩) xs := h1
    have e2 : (Src.mk t2 l2 0).Is (Shared.heap ⟨hp.push (itObj t1 l1), g, d, tk, os⟩) ys := h2.push _
    wp_walk using it_new e1, it_new e2
    exact ⟨_, rfl, h⟩
theorem zip3_new (t1 t2 t3 : Bool) (l1 l2 l3 : Addr) (xs ys zs : Array Value) :
    Meets (Builtin.«zip.__new__» ⟨[.type "zip", .ref l1, .ref l2, .ref l3], []⟩) (fun _ R s => (Src.mk t1 l1 0).Is s.heap xs ∧ (Src.mk t2 l2 0).Is s.heap ys ∧ (Src.mk t3 l3 0).Is s.heap zs ∧
      R (.ok (.ret (.ref (zRow (zRow (zH1 t3 l3 (zH1 t2 l2 (zH1 t1 l1 s.heap))) #[.ref s.heap.objs.size, .ref (zH1 t1 l1 s.heap).objs.size, .ref (zH1 t2 l2 (zH1 t1 l1 s.heap)).objs.size]) #[.none, .none, .none]).objs.size)))
        { s with heap := zEnd (zRow (zRow (zH1 t3 l3 (zH1 t2 l2 (zH1 t1 l1 s.heap))) #[.ref s.heap.objs.size, .ref (zH1 t1 l1 s.heap).objs.size, .ref (zH1 t2 l2 (zH1 t1 l1 s.heap)).objs.size]) #[.none, .none, .none]) (zH1 t3 l3 (zH1 t2 l2 (zH1 t1 l1 s.heap))).objs.size (zRow (zH1 t3 l3 (zH1 t2 l2 (zH1 t1 l1 s.heap))) #[.ref s.heap.objs.size, .ref (zH1 t1 l1 s.heap).objs.size, .ref (zH1 t2 l2 (zH1 t1 l1 s.heap)).objs.size]).objs.size }) :=
  .of_wp fun prog w A R s h => by
    obtain ⟨hp, g, d, tk, os⟩ := s
    obtain ⟨h1, h2, h3, h⟩ := h
    have hsub := sub_zip
    have e1 : (Src.mk t1 l1 0).Is (Shared.heap ⟨hp, g, d, tk, os⟩) xs := h1
    have e2 : (Src.mk t2 l2 0).Is (Shared.heap ⟨hp.push (itObj t1 l1), g, d, tk, os⟩) ys := h2.push _
    have e3 : (Src.mk t3 l3 0).Is (Shared.heap ⟨(hp.push (itObj t1 l1)).push (itObj t2 l2), g, d, tk, os⟩) zs := (h3.push _).push _
    wp_walk using it_new e1, it_new e2, it_new e3
    exact ⟨_, rfl, h⟩
theorem at_new {t : Bool} {l : Addr} {h : Heap} {j : Addr} (e : h.get? j = some (itObj t l)) : (Src.mk t l j).At h 0 := by
  cases t with
  | true => exact ⟨_, e, rfl, rfl⟩
  | false => exact ⟨_, e, rfl, rfl⟩
theorem typeCall_zip_3 (a b c : Value) : checkTypeCall "zip" ⟨[a, b, c], []⟩ = pure () := by kernel_rfl
theorem newCall_zip_3 (a b c : Value) : checkBuiltinCall "zip.__new__" ⟨[.type "zip", a, b, c], []⟩ = pure () := by kernel_rfl
end
end Mp

namespace Mp
open PySem L2 PyProof.Rows
open Builtin.SmallTypes

theorem args_obj_4 (a b c d : Value) : argsOk "object.__init__" ⟨[a, b, c, d], []⟩ := by
  unfold argsOk
  rw [signature?_of (id := "object.__init__") (n := ['_', '_', 't', 'i', 'n', 'i', '_', '_']) (o := ['t', 'c', 'e', 'j', 'b', 'o']) (by kernel_rfl) F.owner_object]
  kernel_rfl
section
variable {prog : Program} {w : World} {A : Around} {E : Value → Shared → Prop} {s : Shared}
theorem zip2_call {t1 t2 : Bool} {l1 l2 : Addr} {xs ys : Array Value} {Q : Value → Shared → Prop} (h1 : (Src.mk t1 l1 0).Is s.heap xs) (h2 : (Src.mk t2 l2 0).Is s.heap ys)
    (h : ∀ h' n, n = s.heap.objs.size → IsZip h' (n + 4) (n + 2) (n + 3) .none → IsRow h' (n + 2) #[.ref n, .ref (n + 1)] → IsRow h' (n + 3) #[.none, .none] → (Src.mk t1 l1 n).At h' 0 → (Src.mk t2 l2 (n + 1)).At h' 0 →
      (∀ c o, s.heap.get? c = some o → h'.get? c = some o) → Q (.ref (n + 4)) { s with heap := h' }) : wpAny (model prog w) A (call (.type "zip") [.ref l1, .ref l2]) Q E s := by
  refine callType_new F.called_zip (by decide) (F.typeCall_zip_2 _ _) (F.newCall_zip_2 _ _) (fun obj => F.args_object_init_3 obj _ _) F.entry_zip_new (zip2_new t1 t2 l1 l2 xs ys) ⟨h1, h2, ?_⟩
  generalize e0 : s.heap = H0 at h ⊢
  have z1 : (zH1 t1 l1 H0).objs.size = H0.objs.size + 1 := Heap.size_push ..
  have z2 : (zH1 t2 l2 (zH1 t1 l1 H0)).objs.size = H0.objs.size + 2 := by rw [Heap.size_push, z1]
  generalize hr : (#[.ref H0.objs.size, .ref (zH1 t1 l1 H0).objs.size] : Array Value) = rw at *
  have z3 : (zRow (zH1 t2 l2 (zH1 t1 l1 H0)) rw).objs.size = H0.objs.size + 3 := by rw [Heap.size_push, z2]
  have z4 : (zRow (zRow (zH1 t2 l2 (zH1 t1 l1 H0)) rw) #[.none, .none]).objs.size = H0.objs.size + 4 := by rw [Heap.size_push, z3]
  have g5 : (zEnd (zRow (zRow (zH1 t2 l2 (zH1 t1 l1 H0)) rw) #[.none, .none]) (zH1 t2 l2 (zH1 t1 l1 H0)).objs.size (zRow (zH1 t2 l2 (zH1 t1 l1 H0)) rw).objs.size).get? (zRow (zRow (zH1 t2 l2 (zH1 t1 l1 H0)) rw) #[.none, .none]).objs.size = some _ := Heap.get?_push_size _ rfl
  have g4 : (zEnd (zRow (zRow (zH1 t2 l2 (zH1 t1 l1 H0)) rw) #[.none, .none]) (zH1 t2 l2 (zH1 t1 l1 H0)).objs.size (zRow (zH1 t2 l2 (zH1 t1 l1 H0)) rw).objs.size).get? (zRow (zH1 t2 l2 (zH1 t1 l1 H0)) rw).objs.size = some _ := Heap.get?_push_of_some _ (Heap.get?_push_size _ rfl)
  have g3 : (zEnd (zRow (zRow (zH1 t2 l2 (zH1 t1 l1 H0)) rw) #[.none, .none]) (zH1 t2 l2 (zH1 t1 l1 H0)).objs.size (zRow (zH1 t2 l2 (zH1 t1 l1 H0)) rw).objs.size).get? (zH1 t2 l2 (zH1 t1 l1 H0)).objs.size = some _ := Heap.get?_push_of_some _ (Heap.get?_push_of_some _ (Heap.get?_push_size _ rfl))
  have g2 : (zEnd (zRow (zRow (zH1 t2 l2 (zH1 t1 l1 H0)) rw) #[.none, .none]) (zH1 t2 l2 (zH1 t1 l1 H0)).objs.size (zRow (zH1 t2 l2 (zH1 t1 l1 H0)) rw).objs.size).get? (zH1 t1 l1 H0).objs.size = some _ := Heap.get?_push_of_some _ (Heap.get?_push_of_some _ (Heap.get?_push_of_some _ (Heap.get?_push_size _ rfl)))
  have g1 : (zEnd (zRow (zRow (zH1 t2 l2 (zH1 t1 l1 H0)) rw) #[.none, .none]) (zH1 t2 l2 (zH1 t1 l1 H0)).objs.size (zRow (zH1 t2 l2 (zH1 t1 l1 H0)) rw).objs.size).get? H0.objs.size = some _ := Heap.get?_push_of_some _ (Heap.get?_push_of_some _ (Heap.get?_push_of_some _ (Heap.get?_push_of_some _ (Heap.get?_push_size _ rfl))))
  rw [z2, z3, z4] at g5
  rw [z2, z3] at g4
  rw [z2, z3] at g3
  rw [z2, z3, z1] at g2
  rw [z2, z3] at g1
  show ((∃ o, _ ∧ _) ∧ _)
  rw [z4, z2, z3]
  rw [z1] at hr
  refine ⟨⟨_, g5, rfl⟩, h _ _ rfl g5 ?_ g4 (at_new g1) (at_new g2) fun c o q => Heap.get?_push_of_some _ (Heap.get?_push_of_some _ (Heap.get?_push_of_some _ (Heap.get?_push_of_some _ (Heap.get?_push_of_some _ q))))⟩
  rw [hr]; exact g3
theorem zip3_call {t1 t2 t3 : Bool} {l1 l2 l3 : Addr} {xs ys zs : Array Value} {Q : Value → Shared → Prop} (h1 : (Src.mk t1 l1 0).Is s.heap xs) (h2 : (Src.mk t2 l2 0).Is s.heap ys) (h3 : (Src.mk t3 l3 0).Is s.heap zs)
    (h : ∀ h' n, n = s.heap.objs.size → IsZip h' (n + 5) (n + 3) (n + 4) .none → IsRow h' (n + 3) #[.ref n, .ref (n + 1), .ref (n + 2)] → IsRow h' (n + 4) #[.none, .none, .none] → (Src.mk t1 l1 n).At h' 0 → (Src.mk t2 l2 (n + 1)).At h' 0 → (Src.mk t3 l3 (n + 2)).At h' 0 →
      (∀ c o, s.heap.get? c = some o → h'.get? c = some o) → Q (.ref (n + 5)) { s with heap := h' }) : wpAny (model prog w) A (call (.type "zip") [.ref l1, .ref l2, .ref l3]) Q E s := by
  refine callType_new F.called_zip (by decide) (typeCall_zip_3 _ _ _) (newCall_zip_3 _ _ _) (fun obj => args_obj_4 obj _ _ _) F.entry_zip_new (zip3_new t1 t2 t3 l1 l2 l3 xs ys zs) ⟨h1, h2, h3, ?_⟩
  generalize e0 : s.heap = H0 at h ⊢
  have z1 : (zH1 t1 l1 H0).objs.size = H0.objs.size + 1 := Heap.size_push ..
  have z2 : (zH1 t2 l2 (zH1 t1 l1 H0)).objs.size = H0.objs.size + 2 := by rw [Heap.size_push, z1]
  have z2' : (zH1 t3 l3 (zH1 t2 l2 (zH1 t1 l1 H0))).objs.size = H0.objs.size + 3 := by rw [Heap.size_push, z2]
  generalize hr : (#[.ref H0.objs.size, .ref (zH1 t1 l1 H0).objs.size, .ref (zH1 t2 l2 (zH1 t1 l1 H0)).objs.size] : Array Value) = rw at *
  generalize hq : (#[.none, .none, .none] : Array Value) = rq at *
  have z3 : (zRow (zH1 t3 l3 (zH1 t2 l2 (zH1 t1 l1 H0))) rw).objs.size = H0.objs.size + 4 := by rw [Heap.size_push, z2']
  have z4 : (zRow (zRow (zH1 t3 l3 (zH1 t2 l2 (zH1 t1 l1 H0))) rw) rq).objs.size = H0.objs.size + 5 := by rw [Heap.size_push, z3]
  generalize hE : zEnd (zRow (zRow (zH1 t3 l3 (zH1 t2 l2 (zH1 t1 l1 H0))) rw) rq) (zH1 t3 l3 (zH1 t2 l2 (zH1 t1 l1 H0))).objs.size (zRow (zH1 t3 l3 (zH1 t2 l2 (zH1 t1 l1 H0))) rw).objs.size = HE
  have g6 : HE.get? (zRow (zRow (zH1 t3 l3 (zH1 t2 l2 (zH1 t1 l1 H0))) rw) rq).objs.size = some { cls := .type "zip", data := .fields #[.none, .bool false, .bool false, .ref (zH1 t3 l3 (zH1 t2 l2 (zH1 t1 l1 H0))).objs.size, .ref (zRow (zH1 t3 l3 (zH1 t2 l2 (zH1 t1 l1 H0))) rw).objs.size] } := by rw [← hE]; exact Heap.get?_push_size _ rfl
  have g5 : HE.get? (zRow (zH1 t3 l3 (zH1 t2 l2 (zH1 t1 l1 H0))) rw).objs.size = some { cls := .type "tuple", data := .seq rq } := by rw [← hE]; exact Heap.get?_push_of_some _ (Heap.get?_push_size _ rfl)
  have g4 : HE.get? (zH1 t3 l3 (zH1 t2 l2 (zH1 t1 l1 H0))).objs.size = some { cls := .type "tuple", data := .seq rw } := by rw [← hE]; exact Heap.get?_push_of_some _ (Heap.get?_push_of_some _ (Heap.get?_push_size _ rfl))
  have g3 : HE.get? (zH1 t2 l2 (zH1 t1 l1 H0)).objs.size = some (itObj t3 l3) := by rw [← hE]; exact Heap.get?_push_of_some _ (Heap.get?_push_of_some _ (Heap.get?_push_of_some _ (Heap.get?_push_size _ rfl)))
  have g2 : HE.get? (zH1 t1 l1 H0).objs.size = some (itObj t2 l2) := by rw [← hE]; exact Heap.get?_push_of_some _ (Heap.get?_push_of_some _ (Heap.get?_push_of_some _ (Heap.get?_push_of_some _ (Heap.get?_push_size _ rfl))))
  have g1 : HE.get? H0.objs.size = some (itObj t1 l1) := by rw [← hE]; exact Heap.get?_push_of_some _ (Heap.get?_push_of_some _ (Heap.get?_push_of_some _ (Heap.get?_push_of_some _ (Heap.get?_push_of_some _ (Heap.get?_push_size _ rfl)))))
  have up : ∀ c o, H0.get? c = some o → HE.get? c = some o := fun c o q => by rw [← hE]; exact Heap.get?_push_of_some _ (Heap.get?_push_of_some _ (Heap.get?_push_of_some _ (Heap.get?_push_of_some _ (Heap.get?_push_of_some _ (Heap.get?_push_of_some _ q)))))
  rw [z4, z2', z3] at g6
  rw [z3] at g5
  rw [z2'] at g4
  rw [z2] at g3
  rw [z1] at g2
  show ((∃ o, _ ∧ _) ∧ _)
  rw [z4]
  rw [z1, z2] at hr
  refine ⟨⟨_, g6, rfl⟩, h _ _ rfl g6 (by rw [hr]; exact g4) g5 (at_new g1) (at_new g2) (at_new g3) up⟩
end

/-! ### zip: what it walks -/
def ZS (K : PySem.W.Frag) (H : Hp) (t : Bool) (l : Addr) (vs : List V) : Prop := match t with
  | true => SqT K H l vs
  | false => SqL K H l vs
theorem ZS.at {X : Cx} {pins : List (Addr × Obj)} {σ : L2.St} {H : Hp} {s : Shared} {t : Bool} {l : Addr} {vs : List V} (I : Inv X pins σ H s) (h : ZS X.K H t l vs) : ∃ us, Vals vs us ∧ ∀ j, (Src.mk t l j).Is s.heap us.toArray := by
  cases t with
  | true => obtain ⟨us, rv, p, _⟩ := I.tuple h; exact ⟨us, rv, fun _ => p⟩
  | false => obtain ⟨us, rv, p, _⟩ := I.list h; exact ⟨us, rv, fun _ => p.isList⟩
theorem ZS.inj {X : Cx} {pins : List (Addr × Obj)} {σ : L2.St} {H : Hp} {s : Shared} {t : Bool} {l : Addr} {vs ws : List V} (I : Inv X pins σ H s) (h : ZS X.K H t l vs) (h' : ZS X.K H t l ws) : vs = ws := by
  cases t with
  | true => exact I.tuple_inj h h'
  | false => exact I.list_inj h h'
def Itz2 (K : PySem.W.Frag) (t1 t2 : Bool) (l1 l2 : Addr) : It :=
  ⟨fun i H => ∃ xs ys x y, ZS K H t1 l1 xs ∧ ZS K H t2 l2 ys ∧ xs[i]? = some x ∧ ys[i]? = some y,
    fun i H v H' => ∃ T x y, v = .ref T ∧ H T = none ∧ H' = upd H T (.tup [x, y]) ∧ (∀ xs, ZS K H t1 l1 xs → xs[i]? = some x) ∧ ∀ ys, ZS K H t2 l2 ys → ys[i]? = some y,
    fun i H => ∃ xs ys, ZS K H t1 l1 xs ∧ ZS K H t2 l2 ys ∧ (xs.length ≤ i ∨ ys.length ≤ i)⟩
def Itz3 (K : PySem.W.Frag) (t1 t2 t3 : Bool) (l1 l2 l3 : Addr) : It :=
  ⟨fun i H => ∃ xs ys zs x y z, ZS K H t1 l1 xs ∧ ZS K H t2 l2 ys ∧ ZS K H t3 l3 zs ∧ xs[i]? = some x ∧ ys[i]? = some y ∧ zs[i]? = some z,
    fun i H v H' => ∃ T x y z, v = .ref T ∧ H T = none ∧ H' = upd H T (.tup [x, y, z]) ∧ (∀ xs, ZS K H t1 l1 xs → xs[i]? = some x) ∧ (∀ ys, ZS K H t2 l2 ys → ys[i]? = some y) ∧ ∀ zs, ZS K H t3 l3 zs → zs[i]? = some z,
    fun i H => ∃ xs ys zs, ZS K H t1 l1 xs ∧ ZS K H t2 l2 ys ∧ ZS K H t3 l3 zs ∧ (xs.length ≤ i ∨ ys.length ≤ i ∨ zs.length ≤ i)⟩
theorem turn_z2 {P : Program} {w : World} {K : PySem.W.Frag} {elts : List Expr} {kk : Nat} {tpos : Pos} {z TI TO : Addr} {t1 t2 : Bool} {l1 l2 j1 j2 : Addr} (D : Apart z TI TO [⟨t1, l1, j1⟩, ⟨t2, l2, j2⟩]) :
    Turn P w K (.Tuple elts kk tpos) (Itz2 K t1 t2 l1 l2) [z, TI, TO, j1, j2] z (fun i h => IsZip h z TI TO .none ∧ IsRow h TI #[.ref j1, .ref j2] ∧ (∃ a b, IsRow h TO #[a, b]) ∧ (Src.mk t1 l1 j1).At h i ∧ (Src.mk t2 l2 j2).At h i) where
  mem := by simp
  obj := fun i h st c hc => by
    obtain ⟨hz, hTI, ⟨a, b, hTO⟩, a1, a2⟩ := st
    obtain ⟨o1, e1, n1⟩ := a1.obj
    obtain ⟨o2, e2, n2⟩ := a2.obj
    have e' : c = z ∨ c = TI ∨ c = TO ∨ c = j1 ∨ c = j2 := by simpa using hc
    rcases e' with rfl | rfl | rfl | rfl | rfl
    · exact ⟨_, hz, fun v q => nomatch q⟩
    · exact ⟨_, hTI, fun v q => nomatch q⟩
    · exact ⟨_, hTO, fun v q => nomatch q⟩
    · exact ⟨o1, e1, n1⟩
    · exact ⟨o2, e2, n2⟩
  keep := fun i h h' st k => by
    obtain ⟨hz, hTI, ⟨a, b, hTO⟩, a1, a2⟩ := st
    exact ⟨k z (by simp) _ hz, k TI (by simp) _ hTI, ⟨a, b, k TO (by simp) _ hTO⟩, a1.up fun o q => k j1 (by simp) o q, a2.up fun o q => k j2 (by simp) o q⟩
  item := by
    intro X hP hw hK hc i pins s σ H E I hf st hg
    subst hP hw hK
    obtain ⟨hz, hTI, ⟨a, b, hTO⟩, a1, a2⟩ := st
    obtain ⟨xs, ys, x, y, q1, q2, hx, hy⟩ := hg
    obtain ⟨us, r1, p1⟩ := q1.at I
    obtain ⟨ws, r2, p2⟩ := q2.at I
    obtain ⟨u1, hu1, ru1⟩ := r1.get hx
    obtain ⟨u2, hu2, ru2⟩ := r2.get hy
    have zl : z < s.heap.objs.size := Heap.lt_size hz
    refine next_of_item hz (zip2_item D hz hTI hTO a1 a2 (p1 _) (p2 _) (by simpa using hu1) (by simpa using hu2) fun h' z' TO' b1 b2 hT hsz hk => ?_)
    refine ⟨_, rfl, wpAny_letOwnedTupleGo_zip (s := { s with heap := h' }) z' fun h'' z'' sb => ?_⟩
    have hT2 : IsRow h'' s.heap.objs.size #[u1, u2] := (sb.2 _ (Nat.ne_of_gt zl)).trans hT
    have new : ObjOk X.prog X.w (upd H s.heap.objs.size (.tup [x, y])) h'' s.heap.objs.size (.tup [x, y]) := ⟨by show 2 ≤ sizeLine; decide, [u1, u2], .cons ru1 (.cons ru2 .nil), ⟨_, hT2, rfl, _, rfl⟩⟩
    have I1 : Inv X pins σ (upd H s.heap.objs.size (.tup [x, y])) { s with heap := h'' } := I.turnedNew (t' := s.toks) (ch := [z, TI, TO, j1, j2])
      (fun c o hb q => (sb.2 c (fun r => hb (by simp [r]))).trans (hk c o (fun r => hb (by simp [r])) (fun r => hb (by simp [r])) (fun r => hb (by simp [r])) (fun r => hb (by simp [r])) q)) hf (Nat.le_refl _) new
    have ap1 := D.jz ⟨t1, l1, j1⟩ (by simp)
    have ap2 := D.jz ⟨t2, l2, j2⟩ (by simp)
    refine ⟨.ref s.heap.objs.size, _, I1, rfl, ⟨_, x, y, rfl, I.fresh, rfl, fun l hl => by rw [hl.inj I q1]; exact hx, fun l hl => by rw [hl.inj I q2]; exact hy⟩, ⟨z'', ?_, ⟨u1, u2, ?_⟩, ?_, ?_⟩, fun c hcm => ?_⟩
    · exact (sb.2 _ D.TIz).trans (hk _ _ D.TIz D.IO (Ne.symm ap1.2.1) (Ne.symm ap2.2.1) hTI)
    · exact (sb.2 _ D.TOz).trans TO'
    · exact b1.up fun o q => (sb.2 _ ap1.1).trans q
    · exact b2.up fun o q => (sb.2 _ ap2.1).trans q
    · obtain ⟨o1, e1, _⟩ := a1.obj
      obtain ⟨o2, e2, _⟩ := a2.obj
      have hlt : c < s.heap.objs.size := by
        have e' : c = z ∨ c = TI ∨ c = TO ∨ c = j1 ∨ c = j2 := by simpa using hcm
        rcases e' with rfl | rfl | rfl | rfl | rfl
        · exact zl
        · exact Heap.lt_size hTI
        · exact Heap.lt_size hTO
        · exact Heap.lt_size e1
        · exact Heap.lt_size e2
      rw [upd_ne (Nat.ne_of_lt hlt)]
      exact (hf c hcm).1
  done := by
    intro X hP hw hK hc i pins s σ H E I hf st hg
    subst hP hw hK
    obtain ⟨hz, hTI, ⟨a, b, hTO⟩, a1, a2⟩ := st
    obtain ⟨xs, ys, q1, q2, he⟩ := hg
    obtain ⟨us, r1, p1⟩ := q1.at I
    obtain ⟨ws, r2, p2⟩ := q2.at I
    have n1 := r1.length
    have n2 := r2.length
    have he' : us.toArray[i]? = none ∨ ws.toArray[i]? = none := by
      rcases he with q | q
      · exact .inl (by simp; omega)
      · exact .inr (by simp; omega)
    exact next_of_end hz (fun Q' E' k => zip2_end (A := X.A.in1) (I.ok.hd hc) D hz hTI hTO a1 a2 (p1 _) (p2 _) he' k) fun h' hk => ⟨rfl, I.turnedL (t' := s.toks) (ch := [z, TI, TO, j1, j2])
      (fun c o hb q => hk c o (fun r => hb (by simp [r])) (fun r => hb (by simp [r])) (fun r => hb (by simp [r])) (fun r => hb (by simp [r])) q) hf⟩
  self := fun A i s Q E st h => wpAny_pyIter_zip st.1 h
theorem turn_z3 {P : Program} {w : World} {K : PySem.W.Frag} {elts : List Expr} {kk : Nat} {tpos : Pos} {z TI TO : Addr} {t1 t2 t3 : Bool} {l1 l2 l3 j1 j2 j3 : Addr} (D : Apart z TI TO [⟨t1, l1, j1⟩, ⟨t2, l2, j2⟩, ⟨t3, l3, j3⟩]) :
    Turn P w K (.Tuple elts kk tpos) (Itz3 K t1 t2 t3 l1 l2 l3) [z, TI, TO, j1, j2, j3] z (fun i h => IsZip h z TI TO .none ∧ IsRow h TI #[.ref j1, .ref j2, .ref j3] ∧ (∃ a b d, IsRow h TO #[a, b, d]) ∧ (Src.mk t1 l1 j1).At h i ∧ (Src.mk t2 l2 j2).At h i ∧ (Src.mk t3 l3 j3).At h i) where
  mem := by simp
  obj := fun i h st c hc => by
    obtain ⟨hz, hTI, ⟨a, b, d, hTO⟩, a1, a2, a3⟩ := st
    obtain ⟨o1, e1, n1⟩ := a1.obj
    obtain ⟨o2, e2, n2⟩ := a2.obj
    obtain ⟨o3, e3, n3⟩ := a3.obj
    have e' : c = z ∨ c = TI ∨ c = TO ∨ c = j1 ∨ c = j2 ∨ c = j3 := by simpa using hc
    rcases e' with rfl | rfl | rfl | rfl | rfl | rfl
    · exact ⟨_, hz, fun v q => nomatch q⟩
    · exact ⟨_, hTI, fun v q => nomatch q⟩
    · exact ⟨_, hTO, fun v q => nomatch q⟩
    · exact ⟨o1, e1, n1⟩
    · exact ⟨o2, e2, n2⟩
    · exact ⟨o3, e3, n3⟩
  keep := fun i h h' st k => by
    obtain ⟨hz, hTI, ⟨a, b, d, hTO⟩, a1, a2, a3⟩ := st
    exact ⟨k z (by simp) _ hz, k TI (by simp) _ hTI, ⟨a, b, d, k TO (by simp) _ hTO⟩, a1.up fun o q => k j1 (by simp) o q, a2.up fun o q => k j2 (by simp) o q, a3.up fun o q => k j3 (by simp) o q⟩
  item := by
    intro X hP hw hK hc i pins s σ H E I hf st hg
    subst hP hw hK
    obtain ⟨hz, hTI, ⟨a, b, d, hTO⟩, a1, a2, a3⟩ := st
    obtain ⟨xs, ys, zs, x, y, u, q1, q2, q3, hx, hy, hu⟩ := hg
    obtain ⟨us, r1, p1⟩ := q1.at I
    obtain ⟨ws, r2, p2⟩ := q2.at I
    obtain ⟨vs, r3, p3⟩ := q3.at I
    obtain ⟨u1, hu1, ru1⟩ := r1.get hx
    obtain ⟨u2, hu2, ru2⟩ := r2.get hy
    obtain ⟨u3, hu3, ru3⟩ := r3.get hu
    have zl : z < s.heap.objs.size := Heap.lt_size hz
    refine next_of_item hz (zip3_item D hz hTI hTO a1 a2 a3 (p1 _) (p2 _) (p3 _) (by simpa using hu1) (by simpa using hu2) (by simpa using hu3) fun h' z' TO' b1 b2 b3 hT hsz hk => ?_)
    refine ⟨_, rfl, wpAny_letOwnedTupleGo_zip (s := { s with heap := h' }) z' fun h'' z'' sb => ?_⟩
    have hT2 : IsRow h'' s.heap.objs.size #[u1, u2, u3] := (sb.2 _ (Nat.ne_of_gt zl)).trans hT
    have new : ObjOk X.prog X.w (upd H s.heap.objs.size (.tup [x, y, u])) h'' s.heap.objs.size (.tup [x, y, u]) := ⟨by show 3 ≤ sizeLine; decide, [u1, u2, u3], .cons ru1 (.cons ru2 (.cons ru3 .nil)), ⟨_, hT2, rfl, _, rfl⟩⟩
    have I1 : Inv X pins σ (upd H s.heap.objs.size (.tup [x, y, u])) { s with heap := h'' } := I.turnedNew (t' := s.toks) (ch := [z, TI, TO, j1, j2, j3])
      (fun c o hb q => (sb.2 c (fun r => hb (by simp [r]))).trans (hk c o (fun r => hb (by simp [r])) (fun r => hb (by simp [r])) (fun r => hb (by simp [r])) (fun r => hb (by simp [r])) (fun r => hb (by simp [r])) q)) hf (Nat.le_refl _) new
    have ap1 := D.jz ⟨t1, l1, j1⟩ (by simp)
    have ap2 := D.jz ⟨t2, l2, j2⟩ (by simp)
    have ap3 := D.jz ⟨t3, l3, j3⟩ (by simp)
    refine ⟨.ref s.heap.objs.size, _, I1, rfl, ⟨_, x, y, u, rfl, I.fresh, rfl, fun l hl => by rw [hl.inj I q1]; exact hx, fun l hl => by rw [hl.inj I q2]; exact hy, fun l hl => by rw [hl.inj I q3]; exact hu⟩, ⟨z'', ?_, ⟨u1, u2, u3, ?_⟩, ?_, ?_, ?_⟩, fun c hcm => ?_⟩
    · exact (sb.2 _ D.TIz).trans (hk _ _ D.TIz D.IO (Ne.symm ap1.2.1) (Ne.symm ap2.2.1) (Ne.symm ap3.2.1) hTI)
    · exact (sb.2 _ D.TOz).trans TO'
    · exact b1.up fun o q => (sb.2 _ ap1.1).trans q
    · exact b2.up fun o q => (sb.2 _ ap2.1).trans q
    · exact b3.up fun o q => (sb.2 _ ap3.1).trans q
    · obtain ⟨o1, e1, _⟩ := a1.obj
      obtain ⟨o2, e2, _⟩ := a2.obj
      obtain ⟨o3, e3, _⟩ := a3.obj
      have hlt : c < s.heap.objs.size := by
        have e' : c = z ∨ c = TI ∨ c = TO ∨ c = j1 ∨ c = j2 ∨ c = j3 := by simpa using hcm
        rcases e' with rfl | rfl | rfl | rfl | rfl | rfl
        · exact zl
        · exact Heap.lt_size hTI
        · exact Heap.lt_size hTO
        · exact Heap.lt_size e1
        · exact Heap.lt_size e2
        · exact Heap.lt_size e3
      rw [upd_ne (Nat.ne_of_lt hlt)]
      exact (hf c hcm).1
  done := by
    intro X hP hw hK hc i pins s σ H E I hf st hg
    subst hP hw hK
    obtain ⟨hz, hTI, ⟨a, b, d, hTO⟩, a1, a2, a3⟩ := st
    obtain ⟨xs, ys, zs, q1, q2, q3, he⟩ := hg
    obtain ⟨us, r1, p1⟩ := q1.at I
    obtain ⟨ws, r2, p2⟩ := q2.at I
    obtain ⟨vs, r3, p3⟩ := q3.at I
    have n1 := r1.length
    have n2 := r2.length
    have n3 := r3.length
    have he' : us.toArray[i]? = none ∨ ws.toArray[i]? = none ∨ vs.toArray[i]? = none := by
      rcases he with q | q | q
      · exact .inl (by simp; omega)
      · exact .inr (.inl (by simp; omega))
      · exact .inr (.inr (by simp; omega))
    exact next_of_end hz (fun Q' E' k => zip3_end (A := X.A.in1) (I.ok.hd hc) D hz hTI hTO a1 a2 a3 (p1 _) (p2 _) (p3 _) he' k) fun h' hk => ⟨rfl, I.turnedL (t' := s.toks) (ch := [z, TI, TO, j1, j2, j3])
      (fun c o hb q => hk c o (fun r => hb (by simp [r])) (fun r => hb (by simp [r])) (fun r => hb (by simp [r])) (fun r => hb (by simp [r])) (fun r => hb (by simp [r])) q) hf⟩
  self := fun A i s Q E st h => wpAny_pyIter_zip st.1 h

theorem apart2 (n l1 l2 : Nat) (t1 t2 : Bool) (h1 : l1 < n) (h2 : l2 < n) : Apart (n + 4) (n + 2) (n + 3) [⟨t1, l1, n⟩, ⟨t2, l2, n + 1⟩] := by
  refine ⟨PySem.W.neN (by omega), PySem.W.neN (by omega), PySem.W.neN (by omega), ?_, ?_, ?_, by simp⟩
  · intro q hq
    simp only [List.mem_cons, List.not_mem_nil, or_false] at hq
    rcases hq with rfl | rfl <;> exact ⟨PySem.W.neN (by dsimp only; omega), PySem.W.neN (by dsimp only; omega), PySem.W.neN (by dsimp only; omega)⟩
  · intro q hq
    simp only [List.mem_cons, List.not_mem_nil, or_false] at hq
    rcases hq with rfl | rfl <;> exact ⟨PySem.W.neN (by dsimp only; omega), PySem.W.neN (by dsimp only; omega)⟩
  · intro q hq r hr
    simp only [List.mem_cons, List.not_mem_nil, or_false] at hq hr
    rcases hq with rfl | rfl <;> rcases hr with rfl | rfl <;> exact PySem.W.neN (by dsimp only; omega)
theorem apart3 (n l1 l2 l3 : Nat) (t1 t2 t3 : Bool) (h1 : l1 < n) (h2 : l2 < n) (h3 : l3 < n) : Apart (n + 5) (n + 3) (n + 4) [⟨t1, l1, n⟩, ⟨t2, l2, n + 1⟩, ⟨t3, l3, n + 2⟩] := by
  refine ⟨PySem.W.neN (by omega), PySem.W.neN (by omega), PySem.W.neN (by omega), ?_, ?_, ?_, by simp⟩
  · intro q hq
    simp only [List.mem_cons, List.not_mem_nil, or_false] at hq
    rcases hq with rfl | rfl | rfl <;> exact ⟨PySem.W.neN (by dsimp only; omega), PySem.W.neN (by dsimp only; omega), PySem.W.neN (by dsimp only; omega)⟩
  · intro q hq
    simp only [List.mem_cons, List.not_mem_nil, or_false] at hq
    rcases hq with rfl | rfl | rfl <;> exact ⟨PySem.W.neN (by dsimp only; omega), PySem.W.neN (by dsimp only; omega)⟩
  · intro q hq r hr
    simp only [List.mem_cons, List.not_mem_nil, or_false] at hq hr
    rcases hq with rfl | rfl | rfl <;> rcases hr with rfl | rfl | rfl <;> exact PySem.W.neN (by dsimp only; omega)
section
variable {X : Cx} {W : WX} {e a b c : Expr} {elts : List Expr} {kk : Nat} {tpos pos p : Pos}
theorem pi_z2 {ta : TA} (hg : Gl X "zip") (hm : X.mg "zip" = none) (ha : PA X [a, b] ta) (hs : starEach [a, b] X.env = (false, eval a X.env) :: starEach [b] X.env := by rfl) (hpl : (backTo pos (starEach [b] X.env)).any (·.1) = false := by rfl) :
    PI X (.Tuple elts kk tpos) (.Call (.Name "zip" p) [a, b] [] pos) (fun σ H R => ta σ H fun vs H1 => ∃ t1 t2 l1 l2 xs ys, vs = [.ref l1, .ref l2] ∧ ZS X.K H1 t1 l1 xs ∧ ZS X.K H1 t2 l2 ys ∧ R (Itz2 X.K t1 t2 l1 l2) H1) := by
  refine ⟨fun pins s σ H R I h => Call_ (ld_blt I hg hm PyProof.Rows.boot_zip (PyProof.Rows.callWith_type1 (thn (ha.run pos pins s σ H _ I h) fun us s1 hh => ?_) hs hpl))⟩
  obtain ⟨vs, H1, I1, r1, t1, t2, l1, l2, xs, ys, rfl, z1, z2, q⟩ := hh
  obtain ⟨u, w', rfl, e1, e2⟩ := vals2 r1
  cases e1
  cases e2
  obtain ⟨us1, _, p1⟩ := z1.at I1
  obtain ⟨us2, _, p2⟩ := z2.at I1
  have b1 := (p1 0).lt
  have b2 := (p2 0).lt
  refine zip2_call (p1 0) (p2 0) fun h' n hn iz iI iO a1 a2 hk => wpAny_pyIter_zip iz ?_
  have I2 : Inv X pins σ H1 { s1 with heap := h' } := I1.kept (t' := s1.toks) hk
  subst hn
  refine ⟨_, [s1.heap.objs.size + 4, s1.heap.objs.size + 2, s1.heap.objs.size + 3, s1.heap.objs.size, s1.heap.objs.size + 1], _, _, H1, rfl, I2, turn_z2 ?_, ⟨iz, iI, ⟨_, _, iO⟩, a1, a2⟩, fun c hcm => ?_, q⟩
  · exact apart2 s1.heap.objs.size l1 l2 t1 t2 b1 b2
  · have e' : c = s1.heap.objs.size + 4 ∨ c = s1.heap.objs.size + 2 ∨ c = s1.heap.objs.size + 3 ∨ c = s1.heap.objs.size ∨ c = s1.heap.objs.size + 1 := by simpa using hcm
    have hle : s1.heap.objs.size ≤ c := by rcases e' with z | z | z | z | z <;> (rw [z]; first | exact Nat.le_add_right _ _ | exact Nat.le_refl _)
    exact I1.fpOk hle (I1.hok.fresh hle)
theorem pi_z3 {ta : TA} (hg : Gl X "zip") (hm : X.mg "zip" = none) (ha : PA X [a, b, c] ta) (hs : starEach [a, b, c] X.env = (false, eval a X.env) :: starEach [b, c] X.env := by rfl) (hpl : (backTo pos (starEach [b, c] X.env)).any (·.1) = false := by rfl) :
    PI X (.Tuple elts kk tpos) (.Call (.Name "zip" p) [a, b, c] [] pos) (fun σ H R => ta σ H fun vs H1 => ∃ t1 t2 t3 l1 l2 l3 xs ys zs, vs = [.ref l1, .ref l2, .ref l3] ∧ ZS X.K H1 t1 l1 xs ∧ ZS X.K H1 t2 l2 ys ∧ ZS X.K H1 t3 l3 zs ∧ R (Itz3 X.K t1 t2 t3 l1 l2 l3) H1) := by
  refine ⟨fun pins s σ H R I h => Call_ (ld_blt I hg hm PyProof.Rows.boot_zip (PyProof.Rows.callWith_type1 (thn (ha.run pos pins s σ H _ I h) fun us s1 hh => ?_) hs hpl))⟩
  obtain ⟨vs, H1, I1, r1, t1, t2, t3, l1, l2, l3, xs, ys, zs, rfl, z1, z2, z3, q⟩ := hh
  obtain ⟨u, w', y', rfl, e1, e2, e3⟩ : ∃ u w' y', us = [u, w', y'] ∧ RelV (.ref l1) u ∧ RelV (.ref l2) w' ∧ RelV (.ref l3) y' := by
    cases r1 with
    | cons q1 r1 =>
      obtain ⟨u, w', rfl, e1, e2⟩ := vals2 r1
      exact ⟨_, _, _, rfl, q1, e1, e2⟩
  cases e1
  cases e2
  cases e3
  obtain ⟨us1, _, p1⟩ := z1.at I1
  obtain ⟨us2, _, p2⟩ := z2.at I1
  obtain ⟨us3, _, p3⟩ := z3.at I1
  have b1 := (p1 0).lt
  have b2 := (p2 0).lt
  have b3 := (p3 0).lt
  refine zip3_call (p1 0) (p2 0) (p3 0) fun h' n hn iz iI iO a1 a2 a3 hk => wpAny_pyIter_zip iz ?_
  have I2 : Inv X pins σ H1 { s1 with heap := h' } := I1.kept (t' := s1.toks) hk
  subst hn
  refine ⟨_, [s1.heap.objs.size + 5, s1.heap.objs.size + 3, s1.heap.objs.size + 4, s1.heap.objs.size, s1.heap.objs.size + 1, s1.heap.objs.size + 2], _, _, H1, rfl, I2, turn_z3 ?_, ⟨iz, iI, ⟨_, _, _, iO⟩, a1, a2, a3⟩, fun c hcm => ?_, q⟩
  · exact apart3 s1.heap.objs.size l1 l2 l3 t1 t2 t3 b1 b2 b3
  · have e' : c = s1.heap.objs.size + 5 ∨ c = s1.heap.objs.size + 3 ∨ c = s1.heap.objs.size + 4 ∨ c = s1.heap.objs.size ∨ c = s1.heap.objs.size + 1 ∨ c = s1.heap.objs.size + 2 := by simpa using hcm
    have hle : s1.heap.objs.size ≤ c := by rcases e' with z | z | z | z | z | z <;> (rw [z]; first | exact Nat.le_add_right _ _ | exact Nat.le_refl _)
    exact I1.fpOk hle (I1.hok.fresh hle)
end
end Mp

namespace Mp
open PySem L2 PyProof.Rows

/-! ### zip, enumerate as data -/
theorem view_zs {g : G} {ι : List Addr} {H : Hp} {s : S} {d : D} {v : V} {ds : List D} (hs : Sim g ι H s) (ra : Rep g ι H d v) (q : viewS s d = some ds) :
    ∃ t p, v = .ref p ∧ ∀ ι' H' s', Ext ι H ι' H' → Sim g ι' H' s' → gdOk s' (gdOf d ds) = true → ∃ vs, ZS g.K H' t p vs ∧ RepL g ι' H' ds vs := by
  rcases view_kind hs ra q with ⟨p, e, h⟩ | ⟨p, e, h⟩
  · exact ⟨false, p, e, h⟩
  · exact ⟨true, p, e, h⟩
theorem gd_now {s : S} {d : D} {ds : List D} (q : viewS s d = some ds) : gdOk s (gdOf d ds) = true := by
  cases d with
  | ref i =>
    show gdOk s [(i, ds)] = true
    unfold viewS at q
    dsimp only at q
    unfold gdOk
    split at q
    · rename_i xs hx
      cases q
      simp [hx, sames_refl]
    · cases q
  | _ => rfl
theorem gdOk_app {s : S} {a b : Gd} (h : gdOk s (a ++ b) = true) : gdOk s a = true ∧ gdOk s b = true := by
  unfold gdOk at h ⊢
  rw [List.all_append, Bool.and_eq_true] at h
  exact h
def zip2D (as bs : List D) : List D := List.zipWith (fun a b => .tup [a, b]) as bs
def zip3D : List D → List D → List D → List D
  | a :: as, b :: bs, c :: cs => .tup [a, b, c] :: zip3D as bs cs
  | _, _, _ => []
theorem zip3_len : ∀ as bs cs : List D, (zip3D as bs cs).length = min as.length (min bs.length cs.length)
  | [], bs, cs => by simp [zip3D]
  | a :: as, [], cs => by simp [zip3D]
  | a :: as, b :: bs, [] => by simp [zip3D]
  | a :: as, b :: bs, c :: cs => by
    have := zip3_len as bs cs
    simp only [zip3D, List.length_cons, this]; omega
theorem zip3_get : ∀ {as bs cs : List D} {i : Nat} {d : D}, (zip3D as bs cs)[i]? = some d → ∃ a b c, as[i]? = some a ∧ bs[i]? = some b ∧ cs[i]? = some c ∧ d = .tup [a, b, c]
  | [], bs, cs, i, d, h => by simp [zip3D] at h
  | a :: as, [], cs, i, d, h => by simp [zip3D] at h
  | a :: as, b :: bs, [], i, d, h => by simp [zip3D] at h
  | a :: as, b :: bs, c :: cs, 0, d, h => by
    simp [zip3D] at h
    exact ⟨a, b, c, rfl, rfl, rfl, h.symm⟩
  | a :: as, b :: bs, c :: cs, i + 1, d, h => by
    have h' : (zip3D as bs cs)[i]? = some d := by simpa [zip3D] using h
    obtain ⟨x, y, z, h1, h2, h3, h4⟩ := zip3_get h'
    exact ⟨x, y, z, by simpa using h1, by simpa using h2, by simpa using h3, h4⟩
def iZip2 (f k : ME) : MI := fun e s => (f e s).bind fun a s => (k e s).bind fun b s => match viewS s a, viewS s b with
  | some as, some bs => .ok (zip2D as bs, gdOf a as ++ gdOf b bs) s
  | _, _ => .stuck
def iZip3 (f k l : ME) : MI := fun e s => (f e s).bind fun a s => (k e s).bind fun b s => (l e s).bind fun c s => match viewS s a, viewS s b, viewS s c with
  | some as, some bs, some cs => .ok (zip3D as bs cs, gdOf a as ++ (gdOf b bs ++ gdOf c cs)) s
  | _, _, _ => .stuck
theorem ri_zip2 {g : G} {ι : List Addr} {H : Hp} {t1 t2 : Bool} {l1 l2 : Addr} {as bs : List D} {g1 g2 : Gd}
    (st1 : ∀ ι' H' s', Ext ι H ι' H' → Sim g ι' H' s' → gdOk s' g1 = true → ∃ vs, ZS g.K H' t1 l1 vs ∧ RepL g ι' H' as vs)
    (st2 : ∀ ι' H' s', Ext ι H ι' H' → Sim g ι' H' s' → gdOk s' g2 = true → ∃ vs, ZS g.K H' t2 l2 vs ∧ RepL g ι' H' bs vs) : RI g ι H (zip2D as bs, g1 ++ g2) (Itz2 g.K t1 t2 l1 l2) := by
  have hl : (zip2D as bs).length = min as.length bs.length := by simp [zip2D]
  refine ⟨fun H' => ∃ xs ys, ZS g.K H' t1 l1 xs ∧ ZS g.K H' t2 l2 ys ∧ xs.length = as.length ∧ ys.length = bs.length, fun i H' v H'' => ∃ T x y, v = .ref T ∧ H' T = none ∧ H'' = upd H' T (.tup [x, y]) ∧ (∀ xs, ZS g.K H' t1 l1 xs → xs[i]? = some x) ∧ ∀ ys, ZS g.K H' t2 l2 ys → ys[i]? = some y,
    ⟨fun i H' hi hh => ?_, fun H' hh => ?_, fun _ _ _ _ _ _ y => y⟩, fun ι' H' s' e hs' gd => ?_, fun ι' H' s' i x H'' e hs' gd hy => ?_⟩
  · obtain ⟨xs, ys, z1, z2, n1, n2⟩ := hh
    have hi' : i < (zip2D as bs).length := hi
    have h1 : i < xs.length := by omega
    have h2 : i < ys.length := by omega
    exact ⟨xs, ys, xs[i], ys[i], z1, z2, by simp [h1], by simp [h2]⟩
  · obtain ⟨xs, ys, z1, z2, n1, n2⟩ := hh
    refine ⟨xs, ys, z1, z2, ?_⟩
    show xs.length ≤ (zip2D as bs).length ∨ ys.length ≤ (zip2D as bs).length
    omega
  · obtain ⟨gd1, gd2⟩ := gdOk_app gd
    obtain ⟨xs, z1, r1⟩ := st1 ι' H' s' e hs' gd1
    obtain ⟨ys, z2, r2⟩ := st2 ι' H' s' e hs' gd2
    exact ⟨xs, ys, z1, z2, r1.length.symm, r2.length.symm⟩
  · obtain ⟨gd1, gd2⟩ := gdOk_app gd
    obtain ⟨xs, z1, r1⟩ := st1 ι' H' s' e hs' gd1
    obtain ⟨ys, z2, r2⟩ := st2 ι' H' s' e hs' gd2
    obtain ⟨T, x', y', rfl, n, rfl, k1, k2⟩ := hy
    refine ⟨hs'.new n, Ext.new n, fun d q => ?_⟩
    have q' : (zip2D as bs)[i]? = some d := q
    unfold zip2D at q'
    rw [List.getElem?_zipWith] at q'
    cases qa : as[i]? with
    | none => rw [qa] at q'; cases q'
    | some a =>
      cases qb : bs[i]? with
      | none => rw [qa, qb] at q'; cases q'
      | some b =>
        rw [qa, qb] at q'; cases q'
        obtain ⟨v1, h1, ra⟩ := r1.get qa
        obtain ⟨v2, h2, rb⟩ := r2.get qb
        rw [k1 xs z1] at h1; cases h1
        rw [k2 ys z2] at h2; cases h2
        exact ⟨T, _, rfl, .inl (.inl (Fr.new hs' n)), ⟨_, _, rfl, Rep.ext (Ext.new n) _ _ ra, _, _, rfl, Rep.ext (Ext.new n) _ _ rb, rfl⟩⟩
theorem ri_zip3 {g : G} {ι : List Addr} {H : Hp} {t1 t2 t3 : Bool} {l1 l2 l3 : Addr} {as bs cs : List D} {g1 g2 g3 : Gd}
    (st1 : ∀ ι' H' s', Ext ι H ι' H' → Sim g ι' H' s' → gdOk s' g1 = true → ∃ vs, ZS g.K H' t1 l1 vs ∧ RepL g ι' H' as vs)
    (st2 : ∀ ι' H' s', Ext ι H ι' H' → Sim g ι' H' s' → gdOk s' g2 = true → ∃ vs, ZS g.K H' t2 l2 vs ∧ RepL g ι' H' bs vs)
    (st3 : ∀ ι' H' s', Ext ι H ι' H' → Sim g ι' H' s' → gdOk s' g3 = true → ∃ vs, ZS g.K H' t3 l3 vs ∧ RepL g ι' H' cs vs) : RI g ι H (zip3D as bs cs, g1 ++ (g2 ++ g3)) (Itz3 g.K t1 t2 t3 l1 l2 l3) := by
  have hl := zip3_len as bs cs
  refine ⟨fun H' => ∃ xs ys zs, ZS g.K H' t1 l1 xs ∧ ZS g.K H' t2 l2 ys ∧ ZS g.K H' t3 l3 zs ∧ xs.length = as.length ∧ ys.length = bs.length ∧ zs.length = cs.length,
    fun i H' v H'' => ∃ T x y z, v = .ref T ∧ H' T = none ∧ H'' = upd H' T (.tup [x, y, z]) ∧ (∀ xs, ZS g.K H' t1 l1 xs → xs[i]? = some x) ∧ (∀ ys, ZS g.K H' t2 l2 ys → ys[i]? = some y) ∧ ∀ zs, ZS g.K H' t3 l3 zs → zs[i]? = some z,
    ⟨fun i H' hi hh => ?_, fun H' hh => ?_, fun _ _ _ _ _ _ y => y⟩, fun ι' H' s' e hs' gd => ?_, fun ι' H' s' i x H'' e hs' gd hy => ?_⟩
  · obtain ⟨xs, ys, zs, z1, z2, z3, n1, n2, n3⟩ := hh
    have hi' : i < (zip3D as bs cs).length := hi
    have h1 : i < xs.length := by omega
    have h2 : i < ys.length := by omega
    have h3 : i < zs.length := by omega
    exact ⟨xs, ys, zs, xs[i], ys[i], zs[i], z1, z2, z3, by simp [h1], by simp [h2], by simp [h3]⟩
  · obtain ⟨xs, ys, zs, z1, z2, z3, n1, n2, n3⟩ := hh
    refine ⟨xs, ys, zs, z1, z2, z3, ?_⟩
    show xs.length ≤ (zip3D as bs cs).length ∨ ys.length ≤ (zip3D as bs cs).length ∨ zs.length ≤ (zip3D as bs cs).length
    omega
  · obtain ⟨gd1, gd2⟩ := gdOk_app gd
    obtain ⟨gd2, gd3⟩ := gdOk_app gd2
    obtain ⟨xs, z1, r1⟩ := st1 ι' H' s' e hs' gd1
    obtain ⟨ys, z2, r2⟩ := st2 ι' H' s' e hs' gd2
    obtain ⟨zs, z3, r3⟩ := st3 ι' H' s' e hs' gd3
    exact ⟨xs, ys, zs, z1, z2, z3, r1.length.symm, r2.length.symm, r3.length.symm⟩
  · obtain ⟨gd1, gd2⟩ := gdOk_app gd
    obtain ⟨gd2, gd3⟩ := gdOk_app gd2
    obtain ⟨xs, z1, r1⟩ := st1 ι' H' s' e hs' gd1
    obtain ⟨ys, z2, r2⟩ := st2 ι' H' s' e hs' gd2
    obtain ⟨zs, z3, r3⟩ := st3 ι' H' s' e hs' gd3
    obtain ⟨T, x', y', w', rfl, n, rfl, k1, k2, k3⟩ := hy
    refine ⟨hs'.new n, Ext.new n, fun d q => ?_⟩
    obtain ⟨a, b, c, qa, qb, qc, rfl⟩ := zip3_get q
    obtain ⟨v1, h1, ra⟩ := r1.get qa
    obtain ⟨v2, h2, rb⟩ := r2.get qb
    obtain ⟨v3, h3, rc⟩ := r3.get qc
    rw [k1 xs z1] at h1; cases h1
    rw [k2 ys z2] at h2; cases h2
    rw [k3 zs z3] at h3; cases h3
    exact ⟨T, _, rfl, .inl (.inl (Fr.new hs' n)), ⟨_, _, rfl, Rep.ext (Ext.new n) _ _ ra, _, _, rfl, Rep.ext (Ext.new n) _ _ rb, _, _, rfl, Rep.ext (Ext.new n) _ _ rc, rfl⟩⟩
section
variable {X : Cx} {W : WX} {e a b c tg iter : Expr} {es elts : List Expr} {pos p tpos : Pos} {k kk : Nat}
theorem si_zip2 {f h : ME} (hm : X.mg "zip" = none) (ha : SemE X W a f) (hb : SemE X W b h) (hg : Gl X "zip" := by rfl) (hs : starEach [a, b] X.env = (false, eval a X.env) :: starEach [b] X.env := by rfl) (hs2 : starEach [b] X.env = (false, eval b X.env) :: starEach [] X.env := by rfl)
    (hpl : (backTo pos (starEach [b] X.env)).any (·.1) = false := by rfl) : SemI X W (.Tuple elts kk tpos) (.Call (.Name "zip" p) [a, b] [] pos) (iZip2 f h) := by
  refine (pi_z2 hg hm (pa_cons ha (pa_cons hb pa_nil hs2) hs) hs hpl).wk fun σ H R ⟨env, s, ι, hs, he, q⟩ => ?_
  refine ⟨env, s, ι, hs, he, (Post.bnd (R := RV (gx X)) q).mono fun v H1 ⟨s1, ι1, d, S1, E1, Ra, P1⟩ => ?_⟩
  refine ⟨env, s1, ι1, S1, he.ext E1, (Post.bnd (R := RV (gx X)) P1).mono fun v2 H2 ⟨s2, ι2, d2, S2, E2, Rb, P2⟩ => ?_⟩
  show ∃ t1 t2 l1 l2 xs ys, [v, v2] = [V.ref l1, .ref l2] ∧ _
  cases q1 : viewS s2 d with
  | none => rw [q1] at P2; exact P2.elim
  | some as =>
    cases q2 : viewS s2 d2 with
    | none => rw [q1, q2] at P2; exact P2.elim
    | some bs =>
      rw [q1, q2] at P2
      obtain ⟨t1, l1, rfl, st1⟩ := view_zs S2 (Rep.ext E2 _ _ Ra) q1
      obtain ⟨t2, l2, rfl, st2⟩ := view_zs S2 Rb q2
      obtain ⟨xs, z1, _⟩ := st1 ι2 H2 s2 .refl S2 (gd_now q1)
      obtain ⟨ys, z2, _⟩ := st2 ι2 H2 s2 .refl S2 (gd_now q2)
      exact ⟨t1, t2, l1, l2, xs, ys, rfl, z1, z2, P2 _ H2 ι2 S2 .refl (ri_zip2 st1 st2)⟩
theorem si_zip3 {f h l : ME} (hm : X.mg "zip" = none) (ha : SemE X W a f) (hb : SemE X W b h) (hc : SemE X W c l) (hg : Gl X "zip" := by rfl) (hs : starEach [a, b, c] X.env = (false, eval a X.env) :: starEach [b, c] X.env := by rfl)
    (hs2 : starEach [b, c] X.env = (false, eval b X.env) :: starEach [c] X.env := by rfl) (hs3 : starEach [c] X.env = (false, eval c X.env) :: starEach [] X.env := by rfl)
    (hpl : (backTo pos (starEach [b, c] X.env)).any (·.1) = false := by rfl) : SemI X W (.Tuple elts kk tpos) (.Call (.Name "zip" p) [a, b, c] [] pos) (iZip3 f h l) := by
  refine (pi_z3 hg hm (pa_cons ha (pa_cons hb (pa_cons hc pa_nil hs3) hs2) hs) hs hpl).wk fun σ H R ⟨env, s, ι, hs, he, q⟩ => ?_
  refine ⟨env, s, ι, hs, he, (Post.bnd (R := RV (gx X)) q).mono fun v H1 ⟨s1, ι1, d, S1, E1, Ra, P1⟩ => ?_⟩
  refine ⟨env, s1, ι1, S1, he.ext E1, (Post.bnd (R := RV (gx X)) P1).mono fun v2 H2 ⟨s2, ι2, d2, S2, E2, Rb, P2⟩ => ?_⟩
  refine ⟨env, s2, ι2, S2, (he.ext E1).ext E2, (Post.bnd (R := RV (gx X)) P2).mono fun v3 H3 ⟨s3, ι3, d3, S3, E3, Rc, P3⟩ => ?_⟩
  show ∃ t1 t2 t3 l1 l2 l3 xs ys zs, [v, v2, v3] = [V.ref l1, .ref l2, .ref l3] ∧ _
  cases q1 : viewS s3 d with
  | none => rw [q1] at P3; exact P3.elim
  | some as =>
    cases q2 : viewS s3 d2 with
    | none => rw [q1, q2] at P3; exact P3.elim
    | some bs =>
      cases q3 : viewS s3 d3 with
      | none => rw [q1, q2, q3] at P3; exact P3.elim
      | some cs =>
        rw [q1, q2, q3] at P3
        obtain ⟨t1, l1, rfl, st1⟩ := view_zs S3 (Rep.ext (E2.trans E3) _ _ Ra) q1
        obtain ⟨t2, l2, rfl, st2⟩ := view_zs S3 (Rep.ext E3 _ _ Rb) q2
        obtain ⟨t3, l3, rfl, st3⟩ := view_zs S3 Rc q3
        obtain ⟨xs, z1, _⟩ := st1 ι3 H3 s3 .refl S3 (gd_now q1)
        obtain ⟨ys, z2, _⟩ := st2 ι3 H3 s3 .refl S3 (gd_now q2)
        obtain ⟨zs, z3, _⟩ := st3 ι3 H3 s3 .refl S3 (gd_now q3)
        exact ⟨t1, t2, t3, l1, l2, l3, xs, ys, zs, rfl, z1, z2, z3, P3 _ H3 ι3 S3 .refl (ri_zip3 st1 st2 st3)⟩
/-- enumerate of a list -/
def enumD (ds : List D) : List D := List.zipWith (fun (i : Nat) d => .tup [.int i, d]) (List.range ds.length) ds
def iEnum1 (f : ME) : MI := fun e s => (f e s).bind fun a s => match a with
  | .tup _ => .stuck
  | _ => match viewS s a with
    | some as => .ok (enumD as, gdOf a as) s
    | none => .stuck
theorem ri_enum {g : G} {ι : List Addr} {H : Hp} {l : Addr} {as : List D} {gd : Gd}
    (st1 : ∀ ι' H' s', Ext ι H ι' H' → Sim g ι' H' s' → gdOk s' gd = true → ∃ vs, SqL g.K H' l vs ∧ RepL g ι' H' as vs) : RI g ι H (enumD as, gd) (Ite g.K l) := by
  have hl : (enumD as).length = as.length := by simp [enumD]
  refine ⟨fun H' => ∃ xs, SqL g.K H' l xs ∧ xs.length = as.length, fun i H' v H'' => ∃ T x, v = .ref T ∧ H' T = none ∧ H'' = upd H' T (.tup [.int (i : Nat), x]) ∧ ∀ xs, SqL g.K H' l xs → xs[i]? = some x,
    ⟨fun i H' hi hh => ?_, fun H' hh => ?_, fun _ _ _ _ _ _ y => y⟩, fun ι' H' s' e hs' gd => ?_, fun ι' H' s' i x H'' e hs' gd hy => ?_⟩
  · obtain ⟨xs, z1, n1⟩ := hh
    have hi' : i < (enumD as).length := hi
    have h1 : i < xs.length := by omega
    exact ⟨xs, xs[i], z1, by simp [h1]⟩
  · obtain ⟨xs, z1, n1⟩ := hh
    refine ⟨xs, z1, ?_⟩
    show xs.length ≤ (enumD as).length
    omega
  · obtain ⟨xs, z1, r1⟩ := st1 ι' H' s' e hs' gd
    exact ⟨xs, z1, r1.length.symm⟩
  · obtain ⟨xs, z1, r1⟩ := st1 ι' H' s' e hs' gd
    obtain ⟨T, x', rfl, n, rfl, k1⟩ := hy
    refine ⟨hs'.new n, Ext.new n, fun d q => ?_⟩
    have q' : (enumD as)[i]? = some d := q
    unfold enumD at q'
    rw [List.getElem?_zipWith] at q'
    cases qa : as[i]? with
    | none => rw [qa] at q'; cases qr : (List.range as.length)[i]? <;> rw [qr] at q' <;> cases q'
    | some a =>
      have hi : i < as.length := (List.getElem?_eq_some_iff.mp qa).1
      rw [qa, show (List.range as.length)[i]? = some i by simp [hi]] at q'
      cases q'
      obtain ⟨v1, h1, ra⟩ := r1.get qa
      rw [k1 xs z1] at h1; cases h1
      exact ⟨T, _, rfl, .inl (.inl (Fr.new hs' n)), ⟨_, _, rfl, rfl, _, _, rfl, Rep.ext (Ext.new n) _ _ ra, rfl⟩⟩
theorem si_enum {f : ME} (hm : X.mg "enumerate" = none) (ha : SemE X W a f) (hg : Gl X "enumerate" := by rfl) (hs : starEach [a] X.env = [(false, eval a X.env)] := by rfl) : SemI X W (.Tuple elts kk tpos) (.Call (.Name "enumerate" p) [a] [] pos) (iEnum1 f) := by
  refine (pi_enum hg hm (pa_cons ha pa_nil hs) hs).wk fun σ H R ⟨env, s, ι, hs, he, q⟩ => ?_
  refine ⟨env, s, ι, hs, he, (Post.bnd (R := RV (gx X)) q).mono fun v H1 ⟨s1, ι1, d, S1, E1, Ra, P1⟩ => ?_⟩
  show ∃ l xs, [v] = [V.ref l] ∧ _
  have key : ∀ as, viewS s1 d = some as → (∀ xs, d ≠ .tup xs) → ∃ l, v = .ref l ∧ ∀ ι' H' s', Ext ι1 H1 ι' H' → Sim (gx X) ι' H' s' → gdOk s' (gdOf d as) = true → ∃ vs, SqL X.K H' l vs ∧ RepL (gx X) ι' H' as vs := by
    intro as qv nt
    rcases view_kind S1 Ra qv with ⟨p, e, h⟩ | ⟨p, e, h⟩
    · exact ⟨p, e, h⟩
    · cases d with
      | tup xs => exact absurd rfl (nt xs)
      | lst xs =>
        have e' : xs = as := Option.some.inj qv
        subst e'
        obtain ⟨p', vs, h1, h2, h3⟩ := Ra
        exact ⟨p', h1, fun ι' H' s' e _ _ => ⟨vs, .inl (.inl (Fr.sub (e.fr h2)).2), RepL.ext e _ _ h3⟩⟩
      | scr ns =>
        have e' : ns.map D.int = as := Option.some.inj qv
        subst e'
        obtain ⟨p', h1, h2⟩ := Ra
        exact ⟨p', h1, fun ι' H' s' e _ _ => ⟨ns.map .int, sl_of_fr (e.sqL h2), RepL.ints ns⟩⟩
      | ref i =>
        obtain ⟨p', h1, h2⟩ := Ra
        refine ⟨p', h2, fun ι' H' s' e hs' gd => ?_⟩
        have := gdOk_at gd (by show (i, as) ∈ [(i, as)]; simp)
        obtain ⟨vs, h3, h4⟩ := hs'.lst (e.ix h1) this
        exact ⟨vs, .inl (.inl h3), h4⟩
      | _ => exact nomatch qv
  have fin : ∀ as, viewS s1 d = some as → (∀ xs, d ≠ .tup xs) → Post (RI (gx X)) (gx X) W ι1 H1 σ (.ok (enumD as, gdOf d as) s1) R → ∃ l xs, [v] = [V.ref l] ∧ SqL X.K H1 l xs ∧ R (Ite X.K l) H1 := by
    intro as qv nt P
    obtain ⟨l, rfl, st⟩ := key as qv nt
    obtain ⟨xs, z1, _⟩ := st ι1 H1 s1 .refl S1 (gd_now qv)
    exact ⟨l, xs, rfl, z1, P _ H1 ι1 S1 .refl (ri_enum st)⟩
  cases d with
  | tup xs => exact P1.elim
  | lst xs => exact fin _ rfl (fun _ z => nomatch z) P1
  | scr xs => exact fin _ rfl (fun _ z => nomatch z) P1
  | ref i =>
    dsimp only at P1
    cases qv : viewS s1 (.ref i) with
    | none => rw [qv] at P1; exact P1.elim
    | some as => rw [qv] at P1; exact fin as qv (fun _ z => nomatch z) P1
  | _ => exact P1.elim
end
end Mp

namespace Mp
open PySem L2 PyProof.Rows

/-! ### methods of built-in types -/
section
variable {X : Cx} {W : WX} {e a b c o : Expr} {es : List Expr} {pos apos cpos : Pos} {k : Nat}
/-- the receiver's type -/
def tyM (s : S) (T : String) : D → Bool
  | .str _ => T == "str"
  | .lst _ => T == "list"
  | .scr _ => T == "list"
  | .ref i => match s[i]? with
    | some (.lst _) => T == "list"
    | some (.dK _ _) => T == "dict"
    | some (.dT _ _) => T == "dict"
    | _ => false
  | _ => false
theorem tyM_ok {ι : List Addr} {H : Hp} {s : S} {T : String} {d : D} {v : V} (hs : Sim (gx X) ι H s) (ra : Rep (gx X) ι H d v) (h : tyM s T d = true) : tyV X.K T v H := by
  cases d with
  | str x => cases ra; exact beq_iff_eq.mp h
  | lst ds =>
    obtain ⟨p, vs, rfl, h1, _⟩ := ra
    exact .inl ⟨beq_iff_eq.mp h, vs, .inl (.inl (Fr.sub h1).2)⟩
  | scr ns =>
    obtain ⟨p, rfl, h1⟩ := ra
    exact .inl ⟨beq_iff_eq.mp h, _, sl_of_fr h1⟩
  | ref i =>
    obtain ⟨p, h1, rfl⟩ := ra
    unfold tyM at h
    dsimp only at h
    split at h
    · rename_i ds q
      obtain ⟨vs, h3, _⟩ := hs.lst h1 q
      exact .inl ⟨beq_iff_eq.mp h, vs, .inl (.inl h3)⟩
    · rename_i ks ds q
      obtain ⟨vs, h3, _⟩ := hs.own i p _ h1 q
      exact .inr (.inr (.inl ⟨beq_iff_eq.mp h, .inl ⟨_, h3⟩⟩))
    · rename_i ks ds q
      obtain ⟨vs, h3, _⟩ := hs.own i p _ h1 q
      exact .inr (.inr (.inl ⟨beq_iff_eq.mp h, .inr ⟨_, h3⟩⟩))
    · cases h
  | _ => cases h
abbrev PM := D → List D → S → Option (D × S)
def rPM (g : G) (p : PM) : V → List V → Hp → VK → Prop := fun x xs H Q => ∃ a as s ι, Sim g ι H s ∧ Rep g ι H a x ∧ RepL g ι H as xs ∧ PostO (RV g) g ι H (p a as s) Q
theorem MtR.wk {id : String} {r r' : V → List V → Hp → VK → Prop} (h : MtR X id r) (k : ∀ x xs H Q, r' x xs H Q → r x xs H Q) : MtR X id r' := fun pins s σ H x xs v us Q I rx rs q => h pins s σ H x xs v us Q I rx rs (k x xs H Q q)
def eBM (T : String) (p : PM) (f : ME) (fs : MA) : ME := fun e s => (f e s).bind fun a s => if tyM s T a = true then (fs e s).bind fun as s => .ofO (p a as s) else .stuck
theorem se_bm {T id : String} {name : Str} {p : PM} {f : ME} {fs : MA} (pa : PlainAttrs T) (slot : Slot T name id) (hty : typeOf (.builtin id) = pure (.type "method_descriptor")) (hm : MtR X id (rPM (gx X) p)) (ho : SemE X W o f) (ha : SemA X W (e :: es) fs)
    (hbase : attributeBase o name X.env (eval o X.env) = eval o X.env := by rfl)
    (hfew : ((backTo cpos (starEach (e :: es) X.env)).all (fun x => !x.1) && (backToKw cpos (keywordEach [] X.env)).all (fun x => x.1.isSome)
      && decide ((e :: es).length + ([] : List Keyword).length + (if ([] : List Keyword).isEmpty then 0 else 1) < 30)) = true := by rfl)
    (hline : (apos.endLine == cpos.line) = true := by rfl) (hs : starEach (e :: es) X.env = (false, eval e X.env) :: starEach es X.env := by rfl) (hplain : (backTo cpos (starEach es X.env)).any (·.1) = false := by rfl) :
    SemE X W (.Call (.Attribute o name apos) (e :: es) [] cpos) (eBM T p f fs) := by
  refine (pe_bm pa slot hty hm ho ha hbase hfew hline hs hplain).wk fun σ H Q ⟨env, s, ι, hs, he, h⟩ => ?_
  refine ⟨env, s, ι, hs, he, (Post.bnd (R := RV (gx X)) h).mono fun v H1 ⟨s1, ι1, d, S1, E1, Ra, P1⟩ => ?_⟩
  split at P1
  · rename_i hT
    refine ⟨tyM_ok S1 Ra hT, env, s1, ι1, S1, he.ext E1, (Post.bnd (R := RVs (gx X)) P1).mono fun vs H2 ⟨s2, ι2, ds, S2, E2, Rb, P2⟩ => ?_⟩
    exact ⟨d, ds, s2, ι2, S2, Rep.ext E2 _ _ Ra, Rb, P2.toO⟩
  · exact P1.elim
theorem se_bm0 {T id : String} {name : Str} {p : PM} {f : ME} (pa : PlainAttrs T) (slot : Slot T name id) (hty : typeOf (.builtin id) = pure (.type "method_descriptor")) (hm : MtR X id (rPM (gx X) p)) (ho : SemE X W o f)
    (hbase : attributeBase o name X.env (eval o X.env) = eval o X.env := by rfl) (hline : (apos.endLine == cpos.line) = true := by rfl) : SemE X W (.Call (.Attribute o name apos) [] [] cpos) (eBM T p f aNil) := by
  refine (pe_bm0 pa slot hty hm ho hbase hline).wk fun σ H Q ⟨env, s, ι, hs, he, h⟩ => ?_
  refine ⟨env, s, ι, hs, he, (Post.bnd (R := RV (gx X)) h).mono fun v H1 ⟨s1, ι1, d, S1, E1, Ra, P1⟩ => ?_⟩
  split at P1
  · rename_i hT
    exact ⟨tyM_ok S1 Ra hT, d, [], s1, ι1, S1, Ra, rfl, P1.toO⟩
  · exact P1.elim
theorem own_lst {g : G} {ι : List Addr} {H : Hp} {s : S} {i : Nat} {v : V} {ds : List D} (hs : Sim g ι H s) (ra : Rep g ι H (.ref i) v) (q : s[i]? = some (.lst ds)) : ∃ p vs, v = .ref p ∧ ι[i]? = some p ∧ p ∈ ι ∧ H p = some (.lst vs) ∧ RepL g ι H ds vs := by
  obtain ⟨p, h1, h2⟩ := ra
  obtain ⟨vs, h3, h4⟩ := hs.lst h1 q
  exact ⟨p, vs, h2, h1, List.mem_of_getElem? h1, h3, h4⟩
theorem put_lst {g : G} {ι : List Addr} {H : Hp} {s : S} {i : Nat} {p : Addr} {ds : List D} {vs : List V} (hs : Sim g ι H s) (h1 : ι[i]? = some p) (hm : p ∈ ι) (r : RepL g ι H ds vs) : Sim g ι (upd H p (.lst vs)) (s.set i (.lst ds)) :=
  hs.put h1 ⟨vs, upd_same, RepL.ext (Ext.put hm) _ _ r⟩
/-- a method that changes an owned list -/
def mLst (f : List D → List D → Option (D × List D)) : PM := fun a as s => match a with
  | .ref i => match s[i]? with
    | some (.lst ds) => (f ds as).map fun r => (r.1, s.set i (.lst r.2))
    | _ => none
  | _ => none
theorem mLst_at {g : G} {ι : List Addr} {H : Hp} {s : S} {f : List D → List D → Option (D × List D)} {a : D} {as : List D} {x : V} {Q : VK} (hs : Sim g ι H s) (ra : Rep g ι H a x) (q : PostO (RV g) g ι H (mLst f a as s) Q) :
    ∃ p vs ds d ds', x = .ref p ∧ H p = some (.lst vs) ∧ RepL g ι H ds vs ∧ f ds as = some (d, ds') ∧ ∀ vs' v, RepL g ι H ds' vs' → Rep g ι H d v → Q v (upd H p (.lst vs')) := by
  cases a with
  | ref i =>
    unfold mLst at q
    dsimp only at q
    split at q
    · rename_i ds e
      cases ef : f ds as with
      | none => rw [ef] at q; exact q.elim
      | some r =>
        obtain ⟨d, ds'⟩ := r
        rw [ef] at q
        obtain ⟨p, vs, h1, h2, h3, h4, h5⟩ := own_lst hs ra e
        exact ⟨p, vs, ds, d, ds', h1, h4, h5, ef, fun vs' v r1 r2 => q v _ ι (put_lst hs h2 h3 r1) (Ext.put h3) (Rep.ext (Ext.put h3) _ _ r2)⟩
    · exact q.elim
  | _ => exact q.elim
def pAppend : PM := mLst fun ds as => match as with
  | [d] => if ds.length < big then some (.non, ds ++ [d]) else none
  | _ => none
theorem mp_append : MtR X "list.append" (rPM (gx X) pAppend) := by
  refine MtR.wk mt_append fun x xs H Q ⟨a, as, s, ι, hs, ra, rs, q⟩ => ?_
  obtain ⟨p, vs, ds, d, ds', rfl, h1, r1, ef, k⟩ := mLst_at hs ra q
  split at ef
  · rename_i c
    split at ef
    · rename_i hz
      cases ef
      obtain ⟨v, r, rfl, r2, rfl⟩ := rs
      exact ⟨p, vs, v, rfl, rfl, h1, by rw [← r1.length]; exact big_lt hz, k _ .non (r1.append (RepL.one r2)) rfl⟩
    · cases ef
  · cases ef
def pInsert : PM := mLst fun ds as => match as with
  | [.int i, d] => if ds.length < big ∧ 0 ≤ i ∧ i < 2 ^ 63 then some (.non, ds.take i.toNat ++ [d] ++ ds.drop i.toNat) else none
  | _ => none
theorem mp_insert : MtR X "list.insert" (rPM (gx X) pInsert) := by
  refine MtR.wk mt_insert fun x xs H Q ⟨a, as, s, ι, hs, ra, rs, q⟩ => ?_
  obtain ⟨p, vs, ds, d, ds', rfl, h1, r1, ef, k⟩ := mLst_at hs ra q
  split at ef
  · rename_i i c
    split at ef
    · rename_i hz
      cases ef
      obtain ⟨v, r, rfl, r2, w, r', rfl, r3, rfl⟩ := rs
      cases r2
      exact ⟨p, vs, i, w, rfl, rfl, h1, by rw [← r1.length]; exact big_lt hz.1, hz.2.1, hz.2.2, k _ .non (((r1.take _).append (RepL.one r3)).append (r1.drop _)) rfl⟩
    · cases ef
  · cases ef
def pExtend : PM := fun a as s => match as with
  | [b] => match viewL s b with
    | some es => mLst (fun ds _ => if ds.length + es.length ≤ big then some (.non, ds ++ es) else none) a as s
    | none => none
  | _ => none
theorem mp_extend : MtR X "list.extend" (rPM (gx X) pExtend) := by
  refine MtR.wk mt_extend fun x xs H Q ⟨a, as, s, ι, hs, ra, rs, q⟩ => ?_
  unfold pExtend at q
  split at q
  · rename_i b
    split at q
    · rename_i es hv
      obtain ⟨v, r, rfl, r2, rfl⟩ := rs
      obtain ⟨p2, ws, rfl, h2, r3⟩ := viewL_at hs r2 hv
      obtain ⟨p, vs, ds, d, ds', rfl, h1, r1, ef, k⟩ := mLst_at hs ra q
      split at ef
      · rename_i hz
        cases ef
        exact ⟨p, p2, vs, ws, rfl, rfl, h1, h2, by rw [← r1.length, ← r3.length]; exact big_le hz, k _ .non (r1.append r3) rfl⟩
      · cases ef
    · exact q.elim
  · exact q.elim
def pPop : PM := mLst fun ds as => match as with
  | [] => match ds[ds.length - 1]? with
    | some d => some (d, ds.dropLast)
    | none => none
  | [.int i] => if -(2 ^ 63) ≤ i ∧ i < 2 ^ 63 then match seqIndex? i ds.length with
    | some j => match ds[j]? with
      | some d => some (d, ds.eraseIdx j)
      | none => none
    | none => none
    else none
  | _ => none
theorem RepL.eraseIdx {g : G} {ι : List Addr} {H : Hp} : ∀ {ds : List D} {vs : List V} (n : Nat), RepL g ι H ds vs → RepL g ι H (ds.eraseIdx n) (vs.eraseIdx n)
  | [], vs, n, h => by rw [show vs = [] from h]; exact rfl
  | d :: ds, vs, 0, h => by
    obtain ⟨v, r, rfl, h2, h3⟩ := h
    exact h3
  | d :: ds, vs, n + 1, h => by
    obtain ⟨v, r, rfl, h2, h3⟩ := h
    exact ⟨v, r.eraseIdx n, rfl, h2, RepL.eraseIdx n h3⟩
theorem RepL.dropLast {g : G} {ι : List Addr} {H : Hp} {ds : List D} {vs : List V} (h : RepL g ι H ds vs) : RepL g ι H ds.dropLast vs.dropLast := by
  rw [List.dropLast_eq_take, List.dropLast_eq_take, ← h.length]
  exact h.take _
theorem mp_pop : MtR X "list.pop" (rPM (gx X) pPop) := by
  have both : MtR X "list.pop" (fun x xs H Q => rPop x xs H Q ∨ rPopAt x xs H Q) := MtR.or mt_pop mt_popAt
  refine MtR.wk both fun x xs H Q ⟨a, as, s, ι, hs, ra, rs, q⟩ => ?_
  obtain ⟨p, vs, ds, d, ds', rfl, h1, r1, ef, k⟩ := mLst_at hs ra q
  split at ef
  · split at ef
    · rename_i c hc
      cases ef
      cases (show xs = [] from rs)
      obtain ⟨v, h2, r2⟩ := r1.get hc
      rw [r1.length] at h2
      exact .inl ⟨p, vs, v, rfl, rfl, h1, h2, k _ v r1.dropLast r2⟩
    · cases ef
  · rename_i i
    split at ef
    · rename_i hi
      split at ef
      · rename_i j hj
        split at ef
        · rename_i c hc
          cases ef
          obtain ⟨v, r, rfl, r2, rfl⟩ := rs
          cases r2
          obtain ⟨v, h2, r3⟩ := r1.get hc
          exact .inr ⟨p, vs, i, j, v, rfl, rfl, h1, hi.1, hi.2, by rw [← r1.length]; exact hj, h2, k _ v (r1.eraseIdx j) r3⟩
        · cases ef
      · cases ef
    · cases ef
  · cases ef
/-- where an item stands first -/
def ixOf (d : D) : List D → Option Nat
  | [] => none
  | x :: xs => if eqD x d = true then some 0 else (ixOf d xs).map (· + 1)
def pIndex : PM := fun a as s => match as with
  | [d] => match viewL s a with
    | some ds => if flatD d = true ∧ ds.all flatD = true then (ixOf d ds).map fun j => (.int (j : Nat), s) else none
    | none => none
  | _ => none
theorem ixOf_at {g : G} {ι : List Addr} {H : Hp} {d : D} {v : V} (r : Rep g ι H d v) (hf : flatD d = true) : ∀ {ds : List D} {vs : List V} {j : Nat}, RepL g ι H ds vs → ds.all flatD = true → ixOf d ds = some j →
    ∃ z, vs[j]? = some z ∧ eqV z v = true ∧ ∀ (m : Nat) (z' : V), m < j → vs[m]? = some z' → eqV z' v = false
  | [], vs, j, h, _, e => by cases e
  | x :: ds, vs, j, h, ha, e => by
    obtain ⟨y, t, rfl, h2, h3⟩ := h
    rw [List.all_cons, Bool.and_eq_true] at ha
    unfold ixOf at e
    have ey := eqD_rep h2 r ha.1 hf
    split at e
    · rename_i q
      cases e
      exact ⟨y, rfl, ey.trans q, fun m z' hm => absurd hm (Nat.not_lt_zero m)⟩
    · rename_i q
      cases e' : ixOf d ds with
      | none => rw [e'] at e; cases e
      | some i =>
        rw [e'] at e; cases e
        obtain ⟨z, k1, k2, k3⟩ := ixOf_at r hf h3 ha.2 e'
        refine ⟨z, by simpa using k1, k2, fun m z' hm hz => ?_⟩
        cases m with
        | zero =>
          simp at hz; subst hz
          rw [ey]; simpa using q
        | succ m => exact k3 m z' (by have hm' : m + 1 < i + 1 := hm; omega) (by simpa using hz)
theorem mp_index : MtR X "list.index" (rPM (gx X) pIndex) := by
  refine MtR.wk mt_index fun x xs H Q ⟨a, as, s, ι, hs, ra, rs, q⟩ => ?_
  unfold pIndex at q
  split at q
  · rename_i d
    split at q
    · rename_i ds hv
      split at q
      · rename_i hf
        cases e : ixOf d ds with
        | none => rw [e] at q; exact q.elim
        | some j =>
          rw [e] at q
          obtain ⟨v, r, rfl, r2, rfl⟩ := rs
          obtain ⟨p, vs, rfl, h2, r3⟩ := viewL_at hs ra hv
          obtain ⟨z, k1, k2, k3⟩ := ixOf_at r2 hf.1 r3 hf.2 e
          exact ⟨p, vs, v, j, z, rfl, rfl, .inl (.inl h2), flat_rep r2 hf.1, flats_rep r3 hf.2, k1, k2, k3, q _ H ι hs .refl rfl⟩
      · exact q.elim
    · exact q.elim
  · exact q.elim
/-! ### texts -/
def pSplit : PM := fun a as s => match a, as with
  | .str x, [.str y] => if (y.length == 0) = false ∧ x.length + 2 ≤ big then some (.lst ((Txt.split x y).map .str), s) else none
  | _, _ => none
theorem RepL.strs {g : G} {ι : List Addr} {H : Hp} : ∀ (ns : List Str), RepL g ι H (ns.map .str) (ns.map .str)
  | [] => rfl
  | n :: ns => ⟨.str n, ns.map .str, rfl, rfl, RepL.strs ns⟩
theorem RepL.of_strs {g : G} {ι : List Addr} {H : Hp} : ∀ {ns : List Str} {vs : List V}, RepL g ι H (ns.map .str) vs → vs = ns.map .str
  | [], vs, h => h
  | n :: ns, vs, h => by
    obtain ⟨v, r, rfl, h2, h3⟩ := h
    rw [show v = .str n from h2, RepL.of_strs h3]; rfl
theorem mp_split : MtR X "str.split" (rPM (gx X) pSplit) := by
  refine MtR.wk mt_split fun x xs H Q ⟨a, as, s, ι, hs, ra, rs, q⟩ => ?_
  unfold pSplit at q
  split at q
  · rename_i x y
    split at q
    · rename_i hz
      obtain ⟨v, r, rfl, r2, rfl⟩ := rs
      cases ra
      cases r2
      exact ⟨x, y, rfl, rfl, hz.1, big_le hz.2, fun p n => q _ _ ι (hs.new n) (Ext.new n) ⟨p, _, rfl, Fr.new hs n, RepL.strs _⟩⟩
    · exact q.elim
  · exact q.elim
def toStrs : List D → Option (List Str)
  | [] => some []
  | .str x :: ds => (toStrs ds).map (x :: ·)
  | _ :: _ => none
theorem toStrs_eq : ∀ {ds : List D} {ns : List Str}, toStrs ds = some ns → ds = ns.map .str
  | [], ns, e => by cases e; rfl
  | d :: ds, ns, e => by
    cases d with
    | str i =>
      unfold toStrs at e
      cases q : toStrs ds with
      | none => rw [q] at e; cases e
      | some ms => rw [q] at e; cases e; rw [toStrs_eq q]; rfl
    | _ => exact nomatch e
def pJoin : PM := fun a as s => match a, as with
  | .str x, [d] => match viewL s d with
    | some ds => match toStrs ds with
      | some ys => if (ys.map (·.length)).sum + ys.length * x.length ≤ big then some (.str (Txt.join x ys), s) else none
      | none => none
    | none => none
  | _, _ => none
theorem mp_join : MtR X "str.join" (rPM (gx X) pJoin) := by
  refine MtR.wk mt_join fun x xs H Q ⟨a, as, s, ι, hs, ra, rs, q⟩ => ?_
  unfold pJoin at q
  split at q
  · rename_i x d
    split at q
    · rename_i ds hv
      split at q
      · rename_i ys e
        split at q
        · rename_i hz
          obtain ⟨v, r, rfl, r2, rfl⟩ := rs
          cases ra
          obtain ⟨p, vs, rfl, h2, r3⟩ := viewL_at hs r2 hv
          rw [toStrs_eq e] at r3
          exact ⟨x, p, ys, rfl, rfl, .inl (by rw [← r3.of_strs]; exact .inl (.inl h2)), Nat.le_trans hz (by decide), q _ H ι hs .refl rfl⟩
        · exact q.elim
      · exact q.elim
    · exact q.elim
  · exact q.elim
def pStarts : PM := fun a as s => match a, as with
  | .str x, [.str y] => some (.bl (Txt.startswith x y), s)
  | _, _ => none
theorem mp_starts : MtR X "str.startswith" (rPM (gx X) pStarts) := by
  refine MtR.wk mt_startswith fun x xs H Q ⟨a, as, s, ι, hs, ra, rs, q⟩ => ?_
  unfold pStarts at q
  split at q
  · rename_i x y
    obtain ⟨v, r, rfl, r2, rfl⟩ := rs
    cases ra
    cases r2
    exact ⟨x, y, rfl, rfl, q _ H ι hs .refl rfl⟩
  · exact q.elim

/-! ### o[i] = v -/
def sSub (f fo fi : ME) : MS := fun e s => (f e s).toS e fun d s => (fo e s).toS e fun o s => (fi e s).toS e fun i s => match o, i with
  | .ref a, .int j => match s[a]? with
    | some (.lst ds) => match ixN ds.length j with
      | some n => .nx e (s.set a (.lst (ds.set n d)))
      | none => .stuck
    | _ => .stuck
  | _, _ => .stuck
theorem s_sub {i : Expr} {p : Pos} {f fo fi : ME} (hf : SemE X W e f) (ho : SemE X W o fo) (hi : SemE X W i fi)
    (ha : ∀ v, assign (.Subscript o i p) X.env v = (do
      let ov ← holding [v] (eval o X.env)
      let iv ← holding [v, ov] (eval i X.env)
      standAt p
      holding [v, ov, iv] (setItem ov iv v)
      release [v, ov, iv] []) := by intro _; rfl)
    (hs : swapsWithSole [.Subscript o i p] e pos.line X.env = pure false := by rfl) (hw : swappedStores [.Subscript o i p] e X.env = pure none := by rfl)
    (h1 : (assignEach [.Subscript o i p] X.env).map (·.2) = [assign (.Subscript o i p) X.env] := by rfl) : SemS X W (.Assign [.Subscript o i p] e pos) (sSub f fo fi) := by
  refine (ps_asg hf (pg_sub ho hi set_list ha) hs hw h1).wk fun Dn σ H ⟨env, s, ι, hs, he, h⟩ => ?_
  refine ⟨env, s, ι, hs, he, (PostS.ofE (R := RV (gx X)) h he).mono fun v H1 ⟨s1, ι1, d, S1, E1, Ra, P1⟩ => ?_⟩
  refine ⟨env, s1, ι1, S1, he.ext E1, (PostS.ofE (R := RV (gx X)) P1 (he.ext E1)).mono fun v2 H2 ⟨s2, ι2, d2, S2, E2, Rb, P2⟩ => ?_⟩
  refine ⟨env, s2, ι2, S2, (he.ext E1).ext E2, (PostS.ofE (R := RV (gx X)) P2 ((he.ext E1).ext E2)).mono fun v3 H3 ⟨s3, ι3, d3, S3, E3, Rc, P3⟩ => ?_⟩
  have Ra' := Rep.ext (E2.trans E3) _ _ Ra
  have Rb' := Rep.ext E3 _ _ Rb
  cases d2 with
  | ref a =>
    cases d3 with
    | int j =>
      dsimp only at P3
      split at P3
      · rename_i ds hd
        split at P3
        · rename_i n hn
          obtain ⟨q, vs, rfl, k1, k2, k3, k4⟩ := own_lst S3 Rb' hd
          cases Rc
          refine ⟨q, vs, j, n, rfl, rfl, k3, by rw [← k4.length]; exact hn, ?_⟩
          exact P3 σ _ ι3 (put_lst S3 k1 k2 (k4.set Ra' n)) (Ext.put k2) ((((he.ext E1).ext E2).ext E3).ext (Ext.put k2))
        · exact P3.elim
      · exact P3.elim
    | _ => exact P3.elim
  | _ => exact P3.elim

/-! ### own classes -/
structure ClsF (K : PySem.W.Frag) (mg : Str → Option Value) (C : Str) (flds : List Str) : Prop where
  ex : ∃ Ca, mg C = some (.ref Ca) ∧ Cls K Ca ∧ ∀ f ∈ flds, NoAttr K Ca f
/-- an instance's fields, all there -/
def viewO (s : S) (C : Str) (flds : List Str) : D → Option (List D)
  | .obj C' ns ds => if C' = C ∧ ns = flds then some ds else none
  | .ref i => match s[i]? with
    | some (.ins C' ns ds) => if C' = C ∧ ns = flds then some ds else none
    | _ => none
  | _ => none
theorem viewO_at {g : G} {ι : List Addr} {H : Hp} {s : S} {d : D} {v : V} {C : Str} {flds : List Str} {ds : List D} (hs : Sim g ι H s) (ra : Rep g ι H d v) (q : viewO s C flds d = some ds) :
    ∃ p Ca dx vs, v = .ref p ∧ g.mg C = some (.ref Ca) ∧ H p = some (.ins Ca dx (flds.zip vs)) ∧ flds.length = ds.length ∧ RepL g ι H ds vs := by
  cases d with
  | obj C' ns es =>
    have q' : (if C' = C ∧ ns = flds then some es else none) = some ds := q
    split at q'
    · rename_i hc
      cases q'
      obtain ⟨rfl, rfl⟩ := hc
      obtain ⟨p, Ca, dx, vs, h1, h2, h3, h4, h5⟩ := ra
      exact ⟨p, Ca, dx, vs, h1, h2, (Fr.sub h3).2, h4, h5⟩
    · cases q'
  | ref i =>
    obtain ⟨p, h1, h2⟩ := ra
    cases e : s[i]? with
    | none => simp [viewO, e] at q
    | some o =>
    cases o with
    | ins C' ns es =>
      simp only [viewO, e] at q
      split at q
      · rename_i hc
        cases q
        obtain ⟨rfl, rfl⟩ := hc
        obtain ⟨Ca, dx, vs, h3, h4, h5, h6⟩ := hs.own i p _ h1 e
        exact ⟨p, Ca, dx, vs, h2, h3, h4, h5, h6⟩
      · cases q
    | _ => simp [viewO, e] at q
  | _ => exact nomatch q
theorem zip_lookup {f : Str} {v : V} : ∀ {flds : List Str} {vs : List V} {j : Nat}, flds.Nodup → flds[j]? = some f → vs[j]? = some v → (flds.zip vs).lookup f = some v
  | [], vs, j, _, h, _ => by simp at h
  | g :: flds, [], j, _, _, h => by simp at h
  | g :: flds, w :: vs, 0, _, h, h' => by
    simp at h h'
    subst h h'
    simp
  | g :: flds, w :: vs, j + 1, nd, h, h' => by
    have h1 : flds[j]? = some f := by simpa using h
    have h2 : vs[j]? = some v := by simpa using h'
    have ne : ¬ f = g := fun e => by
      subst e
      exact (List.nodup_cons.mp nd).1 (List.mem_of_getElem? h1)
    have hb : (f == g) = false := beq_eq_false_iff_ne.mpr ne
    simp only [List.zip_cons_cons, List.lookup, hb]
    exact zip_lookup (List.nodup_cons.mp nd).2 h1 h2
theorem zip_lookup_none {f : Str} : ∀ {flds : List Str} {vs : List V}, f ∉ flds → (flds.zip vs).lookup f = none
  | [], vs, _ => by simp
  | g :: flds, [], _ => by simp
  | g :: flds, w :: vs, h => by
    simp only [List.mem_cons, not_or] at h
    have hb : (f == g) = false := beq_eq_false_iff_ne.mpr h.1
    simp only [List.zip_cons_cons, List.lookup, hb]
    exact zip_lookup_none h.2
/-- e.f -/
def eFld (C : Str) (flds : List Str) (j : Nat) (f : ME) : ME := fun e s => (f e s).bind fun d s => match viewO s C flds d with
  | some ds => match ds[j]? with
    | some x => .ok x s
    | none => .stuck
  | none => .stuck
theorem se_fld {fn C : Str} {flds : List Str} {j : Nat} {f : ME} (c : ClsF X.K X.mg C flds) (he : SemE X W e f) (hj : flds[j]? = some fn := by rfl) (nd : flds.Nodup := by decide +kernel)
    (hb : attributeBase e fn X.env (eval e X.env) = eval e X.env := by rfl) : SemE X W (.Attribute e fn pos) (eFld C flds j f) := by
  refine (pe_fld he hb).wk fun σ H Q ⟨env, s, ι, hs, he, h⟩ => ?_
  refine ⟨env, s, ι, hs, he, (Post.bnd (R := RV (gx X)) h).mono fun v H1 ⟨s1, ι1, d, S1, E1, Ra, P1⟩ => ?_⟩
  obtain ⟨Ca, c1, c2, c3⟩ := c.ex
  split at P1
  · rename_i ds hv
    split at P1
    · rename_i x hx
      obtain ⟨p, Ca', dx, vs, rfl, h2, h3, h4, h5⟩ := viewO_at S1 Ra hv
      have h2' : X.mg C = some (.ref Ca') := h2
      rw [c1] at h2'
      cases h2'
      obtain ⟨y, k1, k2⟩ := h5.get hx
      exact ⟨p, Ca, dx, _, y, rfl, h3, c2, c3 fn (List.mem_of_getElem? hj), zip_lookup nd hj k1, P1 y H1 ι1 S1 .refl k2⟩
    · exact P1.elim
  · exact P1.elim
/-- o.f = v of an owned instance: the j-th field, there or the next one -/
def sFldS (C : Str) (flds : List Str) (j : Nat) (fo f : ME) : MS := fun e s => (f e s).toS e fun d s => (fo e s).toS e fun o s => match o with
  | .ref i => match s[i]? with
    | some (.ins C' ns ds) => if C' = C ∧ ns = flds then .nx e (s.set i (.ins C flds (ds.set j d)))
      else if C' = C ∧ ns = flds.take j ∧ ds.length = j then .nx e (s.set i (.ins C (flds.take (j + 1)) (ds ++ [d]))) else .stuck
    | _ => .stuck
  | _ => .stuck
theorem putF_zip_set {f : Str} {v : V} : ∀ {flds : List Str} {vs : List V} {j : Nat}, flds.Nodup → flds.length = vs.length → flds[j]? = some f → putF f v (flds.zip vs) = flds.zip (vs.set j v)
  | [], vs, j, _, _, h => by simp at h
  | g :: flds, [], j, _, hl, _ => by simp at hl
  | g :: flds, w :: vs, 0, _, _, h => by
    simp at h
    subst h
    simp [putF]
  | g :: flds, w :: vs, j + 1, nd, hl, h => by
    have h1 : flds[j]? = some f := by simpa using h
    have ne : ¬ g = f := fun e => by
      subst e
      exact (List.nodup_cons.mp nd).1 (List.mem_of_getElem? h1)
    simp only [List.zip_cons_cons, putF, if_neg ne, List.set_cons_succ]
    rw [putF_zip_set (List.nodup_cons.mp nd).2 (by simpa using hl) h1]
theorem putF_zip_new {f : Str} {v : V} : ∀ {flds : List Str} {vs : List V}, f ∉ flds → flds.length = vs.length → putF f v (flds.zip vs) = (flds ++ [f]).zip (vs ++ [v])
  | [], [], _, _ => by simp [putF]
  | [], w :: vs, _, hl => by simp at hl
  | g :: flds, [], _, hl => by simp at hl
  | g :: flds, w :: vs, h, hl => by
    simp only [List.mem_cons, not_or] at h
    simp only [List.zip_cons_cons, putF, if_neg (fun e : g = f => h.1 e.symm), List.cons_append]
    rw [putF_zip_new h.2 (by simpa using hl)]
theorem s_fld {fn C : Str} {flds : List Str} {j : Nat} {pos' : Pos} {fo f : ME} (c : ClsF X.K X.mg C flds) (ho : SemE X W o fo) (hv : SemE X W e f) (hj : flds[j]? = some fn := by rfl) (nd : flds.Nodup := by decide +kernel) (hf : flds.length < 100 := by decide)
    (hs : swapsWith e (some (.Attribute o fn pos')) pos.line X.env = pure false := by rfl) : SemS X W (.Assign [.Attribute o fn pos'] e pos) (sFldS C flds j fo f) := by
  refine (ps_fld ho hv hs).wk fun Dn σ H ⟨env, s, ι, hs, he, h⟩ => ?_
  refine ⟨env, s, ι, hs, he, (PostS.ofE (R := RV (gx X)) h he).mono fun v H1 ⟨s1, ι1, d, S1, E1, Ra, P1⟩ => ?_⟩
  refine ⟨env, s1, ι1, S1, he.ext E1, (PostS.ofE (R := RV (gx X)) P1 (he.ext E1)).mono fun v2 H2 ⟨s2, ι2, d2, S2, E2, Rb, P2⟩ => ?_⟩
  have Ra' := Rep.ext E2 _ _ Ra
  obtain ⟨Ca, c1, c2, c3⟩ := c.ex
  cases d2 with
  | ref i =>
    obtain ⟨p, k1, rfl⟩ := Rb
    have km : p ∈ ι2 := List.mem_of_getElem? k1
    dsimp only at P2
    split at P2
    · rename_i C' ns ds e
      obtain ⟨Ca', dx, vs, h3, h4, h5, h6⟩ := S2.own i p _ k1 e
      have fin : ∀ ns' ds' vs', ns'.length = ds'.length → RepL (gx X) ι2 H2 ds' vs' → putF fn v (ns.zip vs) = ns'.zip vs' → C' = C → PostS (gx X) W ι2 H2 (.nx env (s2.set i (.ins C ns' ds'))) Dn → ns.length < 1000 →
          ∃ a C dx fs, V.ref p = .ref a ∧ H2 a = some (.ins C dx fs) ∧ Cls X.K C ∧ NoAttr X.K C fn ∧ fs.length < 1000 ∧ Dn.nx σ (upd H2 a (.ins C dx (putF fn v fs))) := by
        intro ns' ds' vs' hl r ep hC P hn
        subst hC
        have h3' : X.mg C' = some (.ref Ca') := h3
        rw [c1] at h3'
        cases h3'
        refine ⟨p, Ca, dx, _, rfl, h4, c2, c3 fn (List.mem_of_getElem? hj), by rw [List.length_zip]; omega, ?_⟩
        rw [ep]
        exact P σ _ ι2 (S2.put k1 ⟨Ca, dx, vs', c1, upd_same, hl, RepL.ext (Ext.put km) _ _ r⟩) (Ext.put km) (((he.ext E1).ext E2).ext (Ext.put km))
      split at P2
      · rename_i hc
        obtain ⟨hC, rfl⟩ := hc
        exact fin ns (ds.set j d) (vs.set j v) (by rw [List.length_set]; exact h5) (h6.set Ra' j) (putF_zip_set nd (by rw [h5]; exact h6.length) hj) hC P2 (by omega)
      · split at P2
        · rename_i hc
          obtain ⟨hC, hn, hlen⟩ := hc
          have hjl : j < flds.length := (List.getElem?_eq_some_iff.mp hj).1
          have ej : flds.take (j + 1) = flds.take j ++ [fn] := by
            rw [List.take_add_one, hj]; rfl
          have hnin : fn ∉ flds.take j := fun hm => by
            obtain ⟨i', hi', e'⟩ := List.getElem_of_mem hm
            rw [List.getElem_take] at e'
            have hi2 : i' < j := by rw [List.length_take] at hi'; omega
            have hj2 := (List.getElem?_eq_some_iff.mp hj).2
            have := (List.getElem_inj nd).mp (e'.trans hj2.symm)
            omega
          refine fin (flds.take (j + 1)) (ds ++ [d]) (vs ++ [v]) (by rw [List.length_take, List.length_append, hlen]; simp; omega) (h6.append (RepL.one Ra')) ?_ hC P2 (by rw [hn, List.length_take]; omega)
          rw [ej, hn]
          exact putF_zip_new hnin (by rw [← h6.length, hlen, List.length_take]; omega)
        · exact P2.elim
    · exact P2.elim
  | _ => exact P2.elim
end
end Mp

namespace Mp
open PySem L2 PyProof.Rows

section
variable {X : Cx} {W : WX} {e a b tg iter : Expr} {es : List Expr} {pos : Pos} {k : Nat}
/-! ### name = [..] on one line, the name a plain local -/
theorem s_setLcG {F : ME} {i : Nat} {y : Str} {py spos : Pos} {elt : Expr} {ifs : List Expr} {scope : Scope} {own : List (Str × Nat)} {ws : List Nat} {it : MI} {t : MG} {c : MT} {f : ME} (C : Cok X W k)
    (hsw : swapsWith (.ListComp elt [⟨tg, iter, ifs, 0⟩] scope pos) (some (.Name y py)) spos.line X.env = pure true) (hi : SemI X W tg iter it) (ok : blkC X.N X.env.scope scope own = true)
    (hg : ∀ (s : Shared) (H : Hp) (A : Addr) (cl : List (Str × Addr)) (fp : List Addr), Cok (X.blk s H scope (compEnvC scope cl A X.env) fp) W0 k → SemG (X.blk s H scope (compEnvC scope cl A X.env) fp) tg ws t)
    (ht : ∀ (s : Shared) (H : Hp) (A : Addr) (cl : List (Str × Addr)) (fp : List Addr), Cok (X.blk s H scope (compEnvC scope cl A X.env) fp) W0 k → SemPT (X.blk s H scope (compEnvC scope cl A X.env) fp) W0 ifs c)
    (hf : ∀ (s : Shared) (H : Hp) (A : Addr) (cl : List (Str × Addr)) (fp : List Addr), Cok (X.blk s H scope (compEnvC scope cl A X.env) fp) W0 k → SemE (X.blk s H scope (compEnvC scope cl A X.env) fp) W0 elt f)
    (hF : ∀ σ H Q, rd (RV (gx X)) (gx X) W F σ H Q → rd (RV (gx X)) (gx X) W (eCompO (own.map (·.2)) it t c f) σ H Q)
    (hy : X.N[i]? = some y := by rfl) (hyl : X.env.scope.names.lookup y = some .local := by rfl)
    (hsub : ∀ i ∈ ws, i ∈ own.map (·.2) := by decide) (hs : ∀ x, foldedSetIterable iter X.env x = pure x := by intro _; rfl) : SemS X W (.Assign [.Name y py] (.ListComp elt [⟨tg, iter, ifs, 0⟩] scope pos) spos) (sAsg F (gNm i)) :=
  (ps_setLc (g := rdG (gx X) ws t) (tt := rd RB (gx X) W0 c) (te := rd (RV (gx X)) (gx X) W0 f) C.calm C.nd hy hyl hsw hi (blkOk_by ok) (fun s H A cl fp => hg s H A cl fp (C.blk s H scope _ fp)) (fun s H A cl fp => ht s H A cl fp (C.blk s H scope _ fp)) (fun s H A cl fp => hf s H A cl fp (C.blk s H scope _ fp)) hs).wk
    fun Dn σ H h => by
      have h1 := tAsg_mono rd_mono gname_wk Dn σ H (asg_wk (vs := [i]) Dn σ H h)
      exact comp_wk (elt := elt) (ifs := ifs) hsub σ H _ (hF _ _ _ h1)
theorem rdId {f : ME} (σ : L2.St) (H : Hp) (Q : VK) (h : rd (RV (gx X)) (gx X) W f σ H Q) : rd (RV (gx X)) (gx X) W f σ H Q := h
theorem rdCut {f : ME} (σ : L2.St) (H : Hp) (Q : VK) (h : rd (RV (gx X)) (gx X) W (cutE f) σ H Q) : rd (RV (gx X)) (gx X) W f σ H Q :=
  let ⟨env, s, ι, hs, he, q⟩ := h
  ⟨env, s, ι, hs, he, post_cut (F := fun _ s => f env s) (ds := []) hs q⟩

/-! ### tuple(range(..)), list(range(..)) -/
def rgTo (mk : List D → D) (lo hi : Int) (s : S) : Res D := if -1000 ≤ lo ∧ lo ≤ 10000 ∧ -1000 ≤ hi ∧ hi ≤ 10000 then .ok (mk (rgD lo (hi - lo).toNat)) s else .stuck
def eRg1 (mk : List D → D) (f : ME) : ME := fun e s => (f e s).bind fun d s => match d with
  | .int n => rgTo mk 0 n s
  | _ => .stuck
def eRg2 (mk : List D → D) (f h : ME) : ME := fun e s => (f e s).bind fun c s => (h e s).bind fun d s => match c, d with
  | .int m, .int n => rgTo mk m n s
  | _, _ => .stuck
theorem rep_rg {g : G} {ι : List Addr} {H : Hp} (lo hi : Int) : RepL g ι H (rgD lo (hi - lo).toNat) (rgV lo hi) := by
  have e1 : rgD lo (hi - lo).toNat = ((List.range (hi - lo).toNat).map fun (i : Nat) => lo + (i : Int)).map .int := by unfold rgD; rw [List.map_map]; rfl
  have e2 : rgV lo hi = ((List.range (hi - lo).toNat).map fun (i : Nat) => lo + (i : Int)).map .int := by unfold rgV; rw [List.map_map]; rfl
  rw [e1, e2]
  exact RepL.ints _
theorem rgOk_of {lo hi : Int} (h : -1000 ≤ lo ∧ lo ≤ 10000 ∧ -1000 ≤ hi ∧ hi ≤ 10000) : RgOk lo hi := ⟨by omega, by omega, by omega, by omega, by omega⟩
theorem rg1_wk {f : ME} {mk : List D → D} (σ : L2.St) (H : Hp) (R : Int → Int → Hp → Prop) (Q : VK) (h : rd (RV (gx X)) (gx X) W (eRg1 mk f) σ H Q)
    (hk : ∀ (lo hi : Int) (H1 : Hp) (s1 : S) (ι1 : List Addr), Sim (gx X) ι1 H1 s1 → RgOk lo hi → PostO (RV (gx X)) (gx X) ι1 H1 (some (mk (rgD lo (hi - lo).toNat), s1)) Q → R lo hi H1) : tRg1 (rd (RV (gx X)) (gx X) W f) σ H R := by
  obtain ⟨env, s, ι, hs, he, h⟩ := h
  refine ⟨env, s, ι, hs, he, (Post.bnd (R := RV (gx X)) h).mono fun v H1 ⟨s1, ι1, d, S1, E1, Ra, P1⟩ => ?_⟩
  split at P1
  · rename_i n
    unfold rgTo at P1
    split at P1
    · rename_i hc
      exact ⟨n, Ra, hk 0 n H1 s1 ι1 S1 (rgOk_of hc) P1⟩
    · exact P1.elim
  · exact P1.elim
theorem rg2_wk {f h' : ME} {mk : List D → D} (σ : L2.St) (H : Hp) (R : Int → Int → Hp → Prop) (Q : VK) (h : rd (RV (gx X)) (gx X) W (eRg2 mk f h') σ H Q)
    (hk : ∀ (lo hi : Int) (H1 : Hp) (s1 : S) (ι1 : List Addr), Sim (gx X) ι1 H1 s1 → RgOk lo hi → PostO (RV (gx X)) (gx X) ι1 H1 (some (mk (rgD lo (hi - lo).toNat), s1)) Q → R lo hi H1) : tRg2 (rd (RV (gx X)) (gx X) W f) (rd (RV (gx X)) (gx X) W h') σ H R := by
  obtain ⟨env, s, ι, hs, he, h⟩ := h
  refine ⟨env, s, ι, hs, he, (Post.bnd (R := RV (gx X)) h).mono fun v H1 ⟨s1, ι1, d, S1, E1, Ra, P1⟩ => ?_⟩
  refine ⟨env, s1, ι1, S1, he.ext E1, (Post.bnd (R := RV (gx X)) P1).mono fun v2 H2 ⟨s2, ι2, d2, S2, E2, Rb, P2⟩ => ?_⟩
  split at P2
  · rename_i m n _
    unfold rgTo at P2
    split at P2
    · rename_i hc
      exact ⟨m, n, Ra, Rb, hk m n H2 s2 ι2 S2 (rgOk_of hc) P2⟩
    · exact P2.elim
  · exact P2.elim
theorem tup_new {lo hi : Int} {H1 : Hp} {s1 : S} {ι1 : List Addr} {Q : VK} (S1 : Sim (gx X) ι1 H1 s1) (P : PostO (RV (gx X)) (gx X) ι1 H1 (some (.tup (rgD lo (hi - lo).toNat), s1)) Q) : ∀ q, H1 q = none → Q (.ref q) (upd H1 q (.tup (rgV lo hi))) :=
  fun q n => P _ _ ι1 (S1.new n) (Ext.new n) ⟨q, _, rfl, .inl (.inl (Fr.new S1 n)), rep_rg lo hi⟩
theorem lst_new {lo hi : Int} {H1 : Hp} {s1 : S} {ι1 : List Addr} {Q : VK} (S1 : Sim (gx X) ι1 H1 s1) (P : PostO (RV (gx X)) (gx X) ι1 H1 (some (.lst (rgD lo (hi - lo).toNat), s1)) Q) : ∀ q, H1 q = none → Q (.ref q) (upd H1 q (.lst (rgV lo hi))) :=
  fun q n => P _ _ ι1 (S1.new n) (Ext.new n) ⟨q, _, rfl, Fr.new S1 n, rep_rg lo hi⟩
theorem se_tupRg1 {p pt : Pos} {f : ME} (C : Cok X W k) (hm : X.mg "range" = none) (hm' : X.mg "tuple" = none) (ha : SemE X W a f) (hg : Gl X "range" := by rfl) (hg' : Gl X "tuple" := by rfl)
    (na : starEach [a] X.env = (false, eval a X.env) :: starEach [] X.env := by rfl) (na' : starEach [.Call (.Name "range" p) [a] [] pos] X.env = (false, eval (.Call (.Name "range" p) [a] [] pos) X.env) :: starEach [] X.env := by rfl) {p2 : Pos} : SemE X W (.Call (.Name "tuple" pt) [.Call (.Name "range" p) [a] [] pos] [] p2) (eRg1 .tup f) :=
  (pe_tupRg C.calm hg' hm' (prg_1 hg hm ha na) na').wk fun σ H Q h => rg1_wk σ H _ Q h fun lo hi H1 s1 ι1 S1 ok P => ⟨ok, tup_new S1 P⟩
theorem se_tupRg2 {p pt : Pos} {f h : ME} (C : Cok X W k) (hm : X.mg "range" = none) (hm' : X.mg "tuple" = none) (ha : SemE X W a f) (hb : SemE X W b h) (hg : Gl X "range" := by rfl) (hg' : Gl X "tuple" := by rfl)
    (na : starEach [a, b] X.env = (false, eval a X.env) :: starEach [b] X.env := by rfl) (nb : starEach [b] X.env = (false, eval b X.env) :: starEach [] X.env := by rfl) (hp : (backTo pos (starEach [b] X.env)).any (·.1) = false := by rfl) (na' : starEach [.Call (.Name "range" p) [a, b] [] pos] X.env = (false, eval (.Call (.Name "range" p) [a, b] [] pos) X.env) :: starEach [] X.env := by rfl) {p2 : Pos} : SemE X W (.Call (.Name "tuple" pt) [.Call (.Name "range" p) [a, b] [] pos] [] p2) (eRg2 .tup f h) :=
  (pe_tupRg C.calm hg' hm' (prg_2 hg hm ha hb na nb hp) na').wk fun σ H Q h => rg2_wk σ H _ Q h fun lo hi H1 s1 ι1 S1 ok P => ⟨ok, tup_new S1 P⟩
theorem se_lstRg1 {p pt : Pos} {f : ME} (C : Cok X W k) (hm : X.mg "range" = none) (hm' : X.mg "list" = none) (ha : SemE X W a f) (hg : Gl X "range" := by rfl) (hg' : Gl X "list" := by rfl)
    (na : starEach [a] X.env = (false, eval a X.env) :: starEach [] X.env := by rfl) (na' : starEach [.Call (.Name "range" p) [a] [] pos] X.env = (false, eval (.Call (.Name "range" p) [a] [] pos) X.env) :: starEach [] X.env := by rfl) {p2 : Pos} : SemE X W (.Call (.Name "list" pt) [.Call (.Name "range" p) [a] [] pos] [] p2) (eRg1 .lst f) :=
  (pe_listRg C.calm hg' hm' (prg_1 hg hm ha na) na').wk fun σ H Q h => rg1_wk σ H _ Q h fun lo hi H1 s1 ι1 S1 ok P => ⟨ok, lst_new S1 P⟩

/-! ### text times a number -/
def pMulS : D → D → S → Option (D × S)
  | .str x, .int n, s => if n = 0 then some (.str Str.empty, s) else if n = 1 then some (.str x, s) else none
  | _, _, _ => none
theorem mp_mulS : OpR X (binaryOp .Mult) (rP2 (gx X) pMulS) := by
  intro pins st σ H x y v u Q I rx ry h
  obtain ⟨a, b, s, ι, hs, ra, rb, q⟩ := h
  cases a with
  | str z =>
    cases b with
    | int n =>
      obtain rfl : x = .str z := ra
      obtain rfl : y = .int n := rb
      obtain ⟨t, rfl⟩ := rx
      obtain ⟨t', rfl⟩ := ry
      unfold pMulS at q
      dsimp only at q
      split at q
      · rename_i h0
        subst h0
        exact P.mul_str_none (by decide) (by decide) ⟨.str Str.empty, H, I.tok _, ⟨_, rfl⟩, q _ H ι hs .refl rfl⟩
      · split at q
        · rename_i h1
          subst h1
          refine P.mul_str (by decide) (fun _ z => by simp at z) (fun _ z => by simp at z) ?_
          rw [if_neg (by decide), if_pos (by simp)]
          exact ⟨.str z, H, I, ⟨_, rfl⟩, q _ H ι hs .refl rfl⟩
        · exact q.elim
    | _ => exact q.elim
  | _ => exact q.elim

end
end Mp

namespace Mp
open PySem L2 PyProof.Rows

section
variable {X : Cx} {W : WX} {e a b tg iter : Expr} {es : List Expr} {pos : Pos} {k : Nat}
/-! ### a list times a number, to be changed -/
def pMulO : D → D → S → Option (D × S)
  | .lst xs, .int k, s => if 0 ≤ k ∧ k ≤ 1000 ∧ xs.length ≤ 100 then some (.ref s.length, s ++ [.lst (List.replicate k.toNat xs).flatten]) else none
  | _, _, _ => none
theorem mp_mulO : OpR X (binaryOp .Mult) (rP2 (gx X) pMulO) := by
  refine op_rep.wk fun x y H Q ⟨a, b, s, ι, hs, ra, rb, q⟩ => ?_
  unfold pMulO at q
  split at q
  · rename_i xs k
    split at q
    · rename_i hc
      obtain ⟨p1, vs1, rfl, h1, r1⟩ := ra
      obtain ⟨c1, c2, c3⟩ := hc
      refine ⟨p1, k, vs1, rfl, rb, (Fr.sub h1).2, by omega, by omega, ?_, fun p n => ?_⟩
      · rw [← r1.length]
        have h : xs.length * k.toNat ≤ 100 * 1000 := Nat.mul_le_mul c3 (by omega)
        exact Nat.le_trans h (by decide)
      · have r2 := r1.rep k.toNat
        have n' := lst_alloc hs r2 n
        refine q _ _ (ι ++ [p]) n' (Ext.alloc n) ⟨p, ?_, rfl⟩
        rw [← hs.len]; simp
    · exact q.elim
  · exact q.elim

/-! ### names of the module that hold what was written -/
def IntC (mg : Str → Option Value) (x : Str) (n : Int) : Prop := ∃ t, mg x = some (.int n t)
def StrC (mg : Str → Option Value) (x : Str) (z : Str) : Prop := ∃ t, mg x = some (.str z t)
def TupC (K : PySem.W.Frag) (mg : Str → Option Value) (x : Str) (ns : List Int) : Prop :=
  ∃ a o its n, mg x = some (.ref a) ∧ K.lookup a = some o ∧ o.cls = .type "tuple" ∧ o.dict = none ∧ o.data = .seq its n ∧ its.size ≤ sizeLine ∧ Vals (ns.map V.int) its.toList
theorem se_gint {x : Str} {n : Int} (h : IntC X.mg x n) (hg : Gl X x := by rfl) (hd : (x == ("__debug__" : Str)) = false := by decide) : SemE X W (.Name x pos) (eC (.int n)) :=
  let ⟨_, h⟩ := h
  se_glob (v := .int n) hg h ⟨_, rfl⟩ (fun _ _ => rfl) hd
theorem se_gstr {x z : Str} (h : StrC X.mg x z) (hg : Gl X x := by rfl) (hd : (x == ("__debug__" : Str)) = false := by decide) : SemE X W (.Name x pos) (eC (.str z)) :=
  let ⟨_, h⟩ := h
  se_glob (v := .str z) hg h ⟨_, rfl⟩ (fun _ _ => rfl) hd
theorem se_gtup {x : Str} {ns : List Int} (h : TupC X.K X.mg x ns) (hg : Gl X x := by rfl) (hd : (x == ("__debug__" : Str)) = false := by decide) : SemE X W (.Name x pos) (eC (.tup (ns.map .int))) :=
  let ⟨a, o, its, n, h1, h2, h3, _, h4, h5, h6⟩ := h
  se_glob (v := .ref a) hg h1 rfl (fun ι H => ⟨a, ns.map V.int, rfl, .inr ⟨o, its, n, h2, h3, h4, h5, h6⟩, RepL.ints ns⟩) hd
/-- X.index(k), X a tuple of whole numbers of the module -/
theorem mt_indexTup : MtR X "tuple.index" (fun x xs H Q => ∃ (p : Addr) (ns : List Int) (k : Int), x = .ref p ∧ xs = [.int k] ∧ SqT X.K H p (ns.map .int) ∧ k ∈ ns ∧ Q (.int (ns.idxOf k : Nat)) H) := by
  intro pins s σ H x xs v us Q I rx rxs ⟨p, ns, k, h1, h2, h3, h4, q⟩
  subst h1 h2
  cases rx
  obtain ⟨u, rfl, ru⟩ := rxs.one
  obtain ⟨t, rfl⟩ := ru
  obtain ⟨its, rv, pl, hz⟩ := I.tuple h3
  exact PySem.SeqAt.tuple_index_ints (ns := ns) pl (ints_of_vals rv) h4 ⟨.int (ns.idxOf k : Nat), H, I.tok _, ⟨_, rfl⟩, q⟩
def eIdxC (ns : List Int) (f : ME) : ME := fun e s => (f e s).bind fun d s => match d with
  | .int k => if k ∈ ns then .ok (.int (ns.idxOf k : Nat)) s else .stuck
  | _ => .stuck
theorem se_idxC {x : Str} {ns : List Int} {f : ME} {xpos apos cpos : Pos} (h : TupC X.K X.mg x ns) (ha : SemE X W e f) (hg : Gl X x := by rfl) (hd : (x == ("__debug__" : Str)) = false := by decide)
    (hbase : attributeBase (.Name x xpos) "index" X.env (eval (.Name x xpos) X.env) = eval (.Name x xpos) X.env := by rfl)
    (hfew : ((backTo cpos (starEach [e] X.env)).all (fun x => !x.1) && (backToKw cpos (keywordEach [] X.env)).all (fun x => x.1.isSome)
      && decide (([e] : List Expr).length + ([] : List Keyword).length + (if ([] : List Keyword).isEmpty then 0 else 1) < 30)) = true := by rfl)
    (hline : (apos.endLine == cpos.line) = true := by rfl) (hs : starEach [e] X.env = (false, eval e X.env) :: starEach [] X.env := by rfl) (hplain : (backTo cpos (starEach [] X.env)).any (·.1) = false := by rfl) :
    SemE X W (.Call (.Attribute (.Name x xpos) "index" apos) [e] [] cpos) (eIdxC ns f) := by
  obtain ⟨a, o, its, n, h1, h2, h3, h0, h4, h5, h6⟩ := h
  refine (pe_bm PySem.F.plainAttrs_tuple PySem.F.slot_tuple_index PySem.F.type_tuple_index mt_indexTup (pe_glob hg h1 (v := .ref a) rfl hd) (pa_cons ha pa_nil hs) hbase hfew hline hs hplain).wk fun σ H Q ⟨env, s, ι, hS, he, h⟩ => ?_
  refine ⟨.inr (.inl ⟨rfl, o, h2, h3, h0⟩), env, s, ι, hS, he, (Post.bnd (R := RV (gx X)) h).mono fun v H1 ⟨s1, ι1, d, S1, E1, Ra, P1⟩ => ?_⟩
  split at P1
  · rename_i k
    split at P1
    · rename_i hk
      exact ⟨a, ns, k, rfl, by rw [show v = .int k from Ra], .inr ⟨o, its, n, h2, h3, h4, h5, h6⟩, hk, P1 _ H1 ι1 S1 .refl rfl⟩
    · exact P1.elim
  · exact P1.elim
theorem ss_never {sts : List Stmt} : SemSs X W sts sNever := ⟨fun pins s σ H Dn I ⟨env, st, ι, hs, he, h⟩ => h.elim⟩
end

/-- a while's bound: the number in slot i -/
def natAt (i : Nat) : Sl → S → Nat := fun e _ => match e.getD i none with
  | some (.int n) => n.natAbs
  | _ => 0
/-! ### defs -/
def Df (K : PySem.W.Frag) (mg : Str → Option Value) (x : Str) (st : Stmt) (ps : List Str) : Prop :=
  ∃ f fd, Fun K x x st f fd ∧ mg x = some (.ref f) ∧ PySem.W.keepIn K (.ref f) = true ∧ Binds K fd ps []
section
variable {P : Program} {w : World} {K : PySem.W.Frag} {mg : Str → Option Value} {base : Heap}
theorem df_mk {x : Str} {st : Stmt} {f : Addr} {ps : List Str} {oc : Value} {od an : Option Addr} {osl : Array (Option Value)} {kV doc pm cdv ct : Value} {h : Heap} (X : K.In h) (G : h.Ns mainGlobals mg)
    (hb : ∀ (kV doc pm : Value) (an : Option Addr) (cdv ct : Value) (us : List Value), us.length = ps.length → bindArgs (PySem.W.fnOf x x (defArgs st) (defBody st) (defScope st) .none kV doc pm an cdv ct) ⟨us, []⟩ = pure (ps.zip us))
    (a : PySem.W.nsIn K mainGlobals x = some (some (.ref f))) (l : K.lookup f = some ⟨oc, od, .func (PySem.W.fnOf x x (defArgs st) (defBody st) (defScope st) .none kV doc pm an cdv ct), osl⟩)
    (c : PySem.W.codeIn K cdv x = true) (k : PySem.W.keepIn K (.ref f) = true) : Df K mg x st ps :=
  ⟨f, _, fun_mk (st := st) l c k, PySem.W.mg_of X G a, k, (fun_mk (st := st) l c k).binds hb⟩
theorem cal_of {x : Str} {st : Stmt} {ps N : List Str} {k n : Nat} {m : MS} (Df : Df K mg x st ps) (Sc : FnScope N ps (defScope st)) (hn : ps.length = n)
    (h : ∀ (f cdv : _) (A : Around) (outer : List PySem.Env) (s : Shared) (H : Hp) (E : XK), Cok (cxOf (L2.CX P w) P w K mg base N x (defScope st) f cdv A outer s H E) (WE1 E) k →
      SemSs (cxOf (L2.CX P w) P w K mg base N x (defScope st) f cdv A outer s H E) (WE1 E) (defBody st) m) : Cal P w K mg base x (k + 1) n (runDef N.length m) := by
  obtain ⟨f, fd, F, h1, h2, h3⟩ := Df
  subst hn
  exact ⟨f, fd, ps, fn_sem F Sc Sc.nd (h f), rfl, h1, h2, h3⟩
/-- what the law's own def is asked -/
def spEnd (K : PySem.W.Frag) : Sp := fun vs H Q _ => ∃ (a : Addr) (ns : List Int), vs = [.ref a] ∧ SqL K H a (ns.map V.int) ∧ ns.length ≤ 63 ∧ ∀ H', Q (.bl true) H'
theorem law_sp {g : G} {F : FD} (hF : ∀ ns : List Int, ns.length ≤ 63 → ∃ s, F [.scr ns] [] = .ok (.bl true) s) (vs : List V) (H : Hp) (Q : VK) (E : XK) (q : spEnd g.K vs H Q E) : spOf g 1 F vs H Q E := by
  obtain ⟨a, ns, rfl, ho, hl, q⟩ := q
  refine ⟨rfl, [.scr ns], [], [], ⟨rfl, List.nodup_nil, fun i p o h => by simp at h⟩, ⟨_, [], rfl, ⟨a, rfl, ?_⟩, rfl⟩, ?_⟩
  · have e : Fr [] H = H := funext fun a => by unfold Fr; rw [if_neg (by simp)]
    rw [e]; exact ho
  · obtain ⟨s, hF⟩ := hF ns hl
    unfold PostX
    rw [hF]
    exact fun v H' ι' _ _ r => by rw [show v = .bl true from r]; exact q H'
theorem walk {l : PySem.W.OpenLaw} {q : Program} {loose : List Str} {XP : (Str → Option Value) → Heap → Prop} {YP : World → Heap → Prop} {d : DefRec} {Kp : Params → PySem.W.Frag} (k : Nat) {F : FD} (hn : l.most = some 63) (hdf : d.params.defaults = []) (hr : Room k callerA)
    (hY : ∀ (w : World) (h : Heap), YP w h → (Kp w.params).In h)
    (hF : ∀ ns : List Int, ns.length ≤ 63 → ∃ s, F [.scr ns] [] = .ok (.bl true) s)
    (hC : ∀ (w : World) (mg : Str → Option Value) (fa : Addr) (h : Heap), (Kp w.params).In h → h.Ns mainGlobals mg → mg d.name = some (.ref fa) →
      ∃ fd : FuncData, (∀ (s : Shared) (u : Value), BindsTo s fd ⟨[u], []⟩ [("script", u)]) ∧ ∀ base : Heap, FnOk l.prog w (Kp w.params) mg base (L2.CX l.prog w) k fa fd ["script"] (spOf ⟨Kp w.params, mg⟩ 1 F)) :
    PySem.W.WalkO q loose XP YP l.row.toRowW d [] (fun f vs => PySem.call f vs) :=
  L2.walk_of (n := 63) (k := k) (x := "script") (CX := fun w => L2.CX l.prog w) (sp := fun w => spEnd (Kp w.params)) hn (by decide) hdf hr hY
    (fun w mg fa h KX G hmg => let ⟨fd, h1, h2⟩ := hC w mg fa h KX G hmg; ⟨fd, h1, fun base _ _ => (h2 base).imp (law_sp (g := ⟨Kp w.params, mg⟩) hF)⟩)
    (fun w H a ns hl _ hS => ⟨a, ns, rfl, hS, hl, fun _ => rfl⟩) fun w H s e s' ⟨_, _, _, _, _, _, _, _, _, _, _, _, z⟩ => z
end
end Mp

/-! MpP: what the meanings compute, in plain Lean: no program in sight. -/
namespace Mp
open PySem L2 PyProof.Rows

def OkE {α : Type} (r : Res α) (Q : α → S → Prop) : Prop := match r with
  | .ok a s => Q a s
  | _ => False
def OkO {α : Type} (r : Option (α × S)) (Q : α → S → Prop) : Prop := match r with
  | some (a, s) => Q a s
  | none => False
def OkS (r : SR) (n : Sl → S → Prop) (t : D → S → Prop) : Prop := match r with
  | .nx e s => n e s
  | .rt d s => t d s
  | _ => False
section
variable {α β : Type} {Q Q' : α → S → Prop} {e : Sl} {s : S} {n n' : Sl → S → Prop} {t t' : D → S → Prop} {d : D}
theorem OkE.ex {r : Res α} (h : OkE r Q) : ∃ a s, r = .ok a s ∧ Q a s := by
  cases r with
  | ok a s => exact ⟨a, s, rfl, h⟩
  | _ => exact h.elim
theorem OkE.mono {r : Res α} (h : OkE r Q) (k : ∀ a s, Q a s → Q' a s) : OkE r Q' := by
  cases r with
  | ok a s => exact k _ _ h
  | _ => exact h.elim
theorem OkS.mono {r : SR} (h : OkS r n t) (k : ∀ a s, n a s → n' a s) (k' : ∀ a s, t a s → t' a s) : OkS r n' t' := by
  cases r with
  | nx a s => exact k _ _ h
  | rt a s => exact k' _ _ h
  | _ => exact h.elim
@[simp] theorem okE_ok (a : α) : OkE (.ok a s) Q = Q a s := rfl
@[simp] theorem okE_stuck : OkE (.stuck : Res α) Q = False := rfl
@[simp] theorem okO_some (p : α × S) : OkO (some p) Q = Q p.1 p.2 := rfl
@[simp] theorem okO_none : OkO (none : Option (α × S)) Q = False := rfl
@[simp] theorem okE_ofO (o : Option (α × S)) : OkE (Res.ofO o) Q = OkO o Q := by
  cases o <;> rfl
@[simp] theorem okE_bind {r : Res β} {k : β → S → Res α} : OkE (r.bind k) Q = OkE r fun a s => OkE (k a s) Q := by cases r <;> rfl
@[simp] theorem okO_map {β : Type} {o : Option β} {f : β → α × S} : OkO (o.map f) Q = match o with | some b => Q (f b).1 (f b).2 | none => False := by cases o <;> rfl
@[simp] theorem okS_toS {r : Res α} {k : α → S → SR} : OkS (r.toS e k) n t = OkE r fun a s => OkS (k a s) n t := by cases r <;> rfl
@[simp] theorem okS_seq {f k : MS} : OkS (sSeq f k e s) n t = OkS (f e s) (fun e s => OkS (k e s) n t) t := by
  unfold sSeq
  cases f e s <;> rfl
@[simp] theorem okS_skip : OkS (sSkip e s) n t = n e s := rfl
@[simp] theorem okS_pass : OkS (sPass e s) n t = n e s := rfl
@[simp] theorem okS_never : OkS (sNever e s) n t = False := rfl
@[simp] theorem okS_drop {f : ME} : OkS (sDrop f e s) n t = OkE (f e s) fun _ s => n e s := by
  unfold sDrop; rw [okS_toS]; rfl
@[simp] theorem okS_ret {f : ME} : OkS (sRet f e s) n t = OkE (f e s) t := by
  unfold sRet; rw [okS_toS]; rfl
@[simp] theorem okS_retN : OkS (sRetN e s) n t = t .non s := rfl
@[simp] theorem okS_if {c : MT} {f k : MS} : OkS (sIf c f k e s) n t = OkE (c e s) fun b s => if b = true then OkS (f e s) n t else OkS (k e s) n t := by
  unfold sIf; rw [okS_toS]
  congr; funext b s; split <;> rfl
@[simp] theorem okS_asg {f : ME} {g : MG} : OkS (sAsg f g e s) n t = OkE (f e s) fun d s => match g d e s with | some e => n e s | none => False := by
  unfold sAsg; rw [okS_toS]
  congr; funext b s; cases g b e s <;> rfl
@[simp] theorem gNm_eq {i : Nat} : gNm i d e s = some (e.set i (some d)) := rfl
@[simp] theorem gsNil_eq {ds : List D} : gsNil ds e s = if ds.length = 0 then some e else none := rfl
@[simp] theorem gsCons_eq {g : MG} {u : List D → Sl → S → Option Sl} {ds : List D} : gsCons g u (d :: ds) e s = (match g d e s with | some e => u ds e s | none => none) := rfl
@[simp] theorem gTup_eq {k : Nat} {u : List D → Sl → S → Option Sl} {ds : List D} : gTupS k u (.tup ds) e s = if ds.length = k then u ds e s else none := rfl
@[simp] theorem okS_sub {f fo fi : ME} : OkS (sSub f fo fi e s) n t = OkE (f e s) fun d s => OkE (fo e s) fun o s => OkE (fi e s) fun i s => match o, i with
  | .ref a, .int j => (match s[a]? with
    | some (.lst ds) => (match ixN ds.length j with
      | some k => n e (s.set a (.lst (ds.set k d)))
      | none => False)
    | _ => False)
  | _, _ => False := by
  unfold sSub
  rw [okS_toS]; congr; funext d s; rw [okS_toS]; congr; funext o s; rw [okS_toS]; congr; funext i s
  cases o with
  | ref a =>
    cases i with
    | int j =>
      dsimp only
      cases s[a]? with
      | none => rfl
      | some x =>
        cases x with
        | lst ds => dsimp only; cases ixN ds.length j <;> rfl
        | _ => rfl
    | _ => rfl
  | _ => rfl
@[simp] theorem okS_for {it : MI} {g : MG} {body : MS} : OkS (sFor it g body e s) n t = OkE (it e s) fun r s => OkS (forN r.2 g body r.1 e s) n t := by
  unfold sFor; rw [okS_toS]
/-! expressions -/
@[simp] theorem eVar_eq {i : Nat} : eVar i e s = match e[i]? with | some (some d) => .ok d s | _ => .stuck := rfl
@[simp] theorem eC_eq : eC d e s = .ok d s := rfl
@[simp] theorem okE_op {p : D → D → S → Option (D × S)} {f k : ME} {Q : D → S → Prop} : OkE (eOp p f k e s) Q = OkE (f e s) fun a s => OkE (k e s) fun b s => OkO (p a b s) Q := by
  unfold eOp; simp
@[simp] theorem okE_test {f : ME} {Q : Bool → S → Prop} : OkE (eTest f e s) Q = OkE (f e s) fun d s => match d with | .bl b => Q b s | _ => False := by
  unfold eTest; rw [okE_bind]; congr; funext d s; cases d <;> rfl
@[simp] theorem okE_andS {f k : MT} {Q : Bool → S → Prop} : OkE (tAndS f k e s) Q = OkE (f e s) fun b s => if b = true then OkE (k e s) Q else Q false s := by
  unfold tAndS; rw [okE_bind]; congr; funext d s; split <;> rfl
@[simp] theorem okE_orS {f k : MT} {Q : Bool → S → Prop} : OkE (tOrS f k e s) Q = OkE (f e s) fun b s => if b = true then Q true s else OkE (k e s) Q := by
  unfold tOrS; rw [okE_bind]; congr; funext d s; split <;> rfl
@[simp] theorem okE_notS {f : MT} {Q : Bool → S → Prop} : OkE (tNotS f e s) Q = OkE (f e s) fun b s => Q (!b) s := by
  unfold tNotS; rw [okE_bind]; rfl
@[simp] theorem okE_and {f k : ME} {Q : D → S → Prop} : OkE (eAnd f k e s) Q = OkE (f e s) fun d s => match d with | .bl true => OkE (k e s) Q | .bl false => Q (.bl false) s | _ => False := by
  unfold eAnd; rw [okE_bind]; congr; funext d s; cases d <;> first | rfl | (rename_i b; cases b <;> rfl)
@[simp] theorem okE_or {f k : ME} {Q : D → S → Prop} : OkE (eOr f k e s) Q = OkE (f e s) fun d s => match d with | .bl true => Q (.bl true) s | .bl false => OkE (k e s) Q | _ => False := by
  unfold eOr; rw [okE_bind]; congr; funext d s; cases d <;> first | rfl | (rename_i b; cases b <;> rfl)
@[simp] theorem okE_not {f : ME} {Q : D → S → Prop} : OkE (eNot f e s) Q = OkE (f e s) fun d s => match d with | .bl b => Q (.bl !b) s | _ => False := by
  unfold eNot; rw [okE_bind]; congr; funext d s; cases d <;> rfl
@[simp] theorem okE_neg {f : ME} {Q : D → S → Prop} : OkE (eNeg f e s) Q = OkE (f e s) fun d s => match d with | .int i => Q (.int (-i)) s | _ => False := by
  unfold eNeg; rw [okE_bind]; congr; funext d s; cases d <;> rfl
@[simp] theorem okE_if {c : MT} {f k : ME} {Q : D → S → Prop} : OkE (eIf c f k e s) Q = OkE (c e s) fun b s => if b = true then OkE (f e s) Q else OkE (k e s) Q := by
  unfold eIf; rw [okE_bind]; congr; funext d s; split <;> rfl
@[simp] theorem okE_ch {p p' : D → D → S → Option (D × S)} {f k l : ME} {Q : D → S → Prop} : OkE (eCh p p' f k l e s) Q = OkE (f e s) fun a s => OkE (k e s) fun b s => OkO (p a b s) fun x s => match x with
    | .bl true => OkE (l e s) fun c s => OkO (p' b c s) Q
    | .bl false => Q (.bl false) s
    | _ => False := by
  unfold eCh
  simp only [okE_bind, okE_ofO]
  congr; funext a s; congr; funext b s; congr; funext x s
  cases x <;> first | rfl | (rename_i b; cases b <;> simp)
@[simp] theorem okE_nil {Q : List D → S → Prop} : OkE (aNil e s) Q = Q [] s := rfl
@[simp] theorem okE_cons {f : ME} {fs : MA} {Q : List D → S → Prop} : OkE (aCons f fs e s) Q = OkE (f e s) fun d s => OkE (fs e s) fun ds s => Q (d :: ds) s := by
  unfold aCons; simp
@[simp] theorem okE_tup {fs : MA} {Q : D → S → Prop} : OkE (eTup fs e s) Q = OkE (fs e s) fun ds s => if ds.length ≤ big then Q (.tup ds) s else False := by
  unfold eTup; rw [okE_bind]; congr; funext d s; split <;> rfl
@[simp] theorem okE_lst {fs : MA} {Q : D → S → Prop} : OkE (eLst fs e s) Q = OkE (fs e s) fun ds s => if ds.length ≤ big then Q (.lst ds) s else False := by
  unfold eLst; rw [okE_bind]; congr; funext d s; split <;> rfl
@[simp] theorem okE_lstO {fs : MA} {Q : D → S → Prop} : OkE (eLstO fs e s) Q = OkE (fs e s) fun ds s => if ds.length ≤ big then Q (.ref s.length) (s ++ [.lst ds]) else False := by
  unfold eLstO; rw [okE_bind]; congr; funext d s; split <;> rfl
@[simp] theorem okE_cb {p : List D → S → Option (D × S)} {fs : MA} {Q : D → S → Prop} : OkE (eCB p fs e s) Q = OkE (fs e s) fun ds s => OkO (p ds s) Q := by
  unfold eCB; simp
@[simp] theorem okE_bm {T : String} {p : PM} {f : ME} {fs : MA} {Q : D → S → Prop} : OkE (eBM T p f fs e s) Q = OkE (f e s) fun a s => if tyM s T a = true then OkE (fs e s) fun as s => OkO (p a as s) Q else False := by
  unfold eBM; rw [okE_bind]; congr; funext d s; split <;> simp
@[simp] theorem okE_call {k : Nat} {F : FD} {fs : MA} {Q : D → S → Prop} : OkE (eCall k F fs e s) Q = OkE (fs e s) fun ds s => if ds.length = k then OkE (F ds s) Q else False := by
  unfold eCall; rw [okE_bind]; congr; funext d s; split <;> rfl
@[simp] theorem okE_sl {f : ME} {l u : Sl → S → Res (Option Int)} {Q : D → S → Prop} : OkE (eSl f l u e s) Q = OkE (f e s) fun d s => OkE (l e s) fun lo s => OkE (u e s) fun hi s => OkO (pSl d lo hi s) Q := by
  unfold eSl; simp
@[simp] theorem oNo_eq : oNo e s = .ok none s := rfl
@[simp] theorem okE_at {f : ME} {Q : Option Int → S → Prop} : OkE (oAt f e s) Q = OkE (f e s) fun d s => match d with | .int i => Q (some i) s | _ => False := by
  unfold oAt; rw [okE_bind]; congr; funext d s; cases d <;> rfl
@[simp] theorem okE_rg1 {mk : List D → D} {f : ME} {Q : D → S → Prop} : OkE (eRg1 mk f e s) Q = OkE (f e s) fun d s => match d with | .int m => if -1000 ≤ (0 : Int) ∧ (0 : Int) ≤ 10000 ∧ -1000 ≤ m ∧ m ≤ 10000 then Q (mk (rgD 0 (m - 0).toNat)) s else False | _ => False := by
  unfold eRg1; rw [okE_bind]; congr; funext d s; cases d <;> first | rfl | (unfold rgTo; dsimp only; split <;> rfl)
@[simp] theorem okE_iAny {f : ME} {Q : List D × Gd → S → Prop} : OkE (iAny f e s) Q = OkE (f e s) fun d s => match itOf s d with | some r => Q r s | none => False := by
  unfold iAny; rw [okE_bind]; congr; funext d s; cases itOf s d <;> rfl
@[simp] theorem okE_iRng1 {f : ME} {Q : List D × Gd → S → Prop} : OkE (iRng1 f e s) Q = OkE (f e s) fun d s => match d with | .int m => if smallI m = true then Q (rgD 0 m.toNat, []) s else False | _ => False := by
  unfold iRng1; rw [okE_bind]; congr; funext d s; cases d <;> first | rfl | (dsimp only; split <;> rfl)
@[simp] theorem okE_iZip2 {f k : ME} {Q : List D × Gd → S → Prop} : OkE (iZip2 f k e s) Q = OkE (f e s) fun a s => OkE (k e s) fun b s => match viewS s a, viewS s b with | some as, some bs => Q (zip2D as bs, gdOf a as ++ gdOf b bs) s | _, _ => False := by
  unfold iZip2; rw [okE_bind]; congr; funext a s; rw [okE_bind]; congr; funext b s; cases viewS s a <;> cases viewS s b <;> rfl
@[simp] theorem okE_iEnum {f : ME} {Q : List D × Gd → S → Prop} : OkE (iEnum1 f e s) Q = OkE (f e s) fun a s => match a with | .tup _ => False | _ => match viewS s a with | some as => Q (enumD as, gdOf a as) s | none => False := by
  unfold iEnum1; rw [okE_bind]; congr; funext a s
  cases a with
  | tup _ => rfl
  | ref i => dsimp only; cases viewS s (.ref i) <;> rfl
  | _ => rfl
@[simp] theorem okE_idxC {ns : List Int} {f : ME} {Q : D → S → Prop} : OkE (eIdxC ns f e s) Q = OkE (f e s) fun d s => match d with | .int k => if k ∈ ns then Q (.int (ns.idxOf k : Nat)) s else False | _ => False := by
  unfold eIdxC; rw [okE_bind]; congr; funext d s; cases d <;> first | rfl | (dsimp only; split <;> rfl)
/-! what is walked -/
@[simp] theorem itOf_tup {ds : List D} : itOf s (.tup ds) = some (ds, []) := rfl
@[simp] theorem itOf_lst {ds : List D} : itOf s (.lst ds) = some (ds, []) := rfl
@[simp] theorem itOf_str {z : Str} : itOf s (.str z) = some (signs z, []) := rfl
@[simp] theorem itOf_scr {ns : List Int} : itOf s (.scr ns) = some (ns.map .int, []) := rfl
@[simp] theorem viewS_tup {ds : List D} : viewS s (.tup ds) = some ds := rfl
@[simp] theorem viewS_lst {ds : List D} : viewS s (.lst ds) = some ds := rfl
@[simp] theorem viewS_scr {ns : List Int} : viewS s (.scr ns) = some (ns.map .int) := rfl
@[simp] theorem viewS_ref {i : Nat} : viewS s (.ref i) = match s[i]? with | some (.lst ds) => some ds | _ => none := rfl
@[simp] theorem viewL_lst {ds : List D} : viewL s (.lst ds) = some ds := rfl
@[simp] theorem viewL_ref {i : Nat} : viewL s (.ref i) = match s[i]? with | some (.lst ds) => some ds | _ => none := rfl
@[simp] theorem gdOf_tup {a ds : List D} : gdOf (.tup a) ds = [] := rfl
@[simp] theorem gdOf_lst {a ds : List D} : gdOf (.lst a) ds = [] := rfl
@[simp] theorem gdOf_ref {i : Nat} {ds : List D} : gdOf (.ref i) ds = [(i, ds)] := rfl
@[simp] theorem gdOk_nil : gdOk s [] = true := rfl
@[simp] theorem tyM_str {z : Str} {T : String} : tyM s T (.str z) = (T == "str") := rfl
@[simp] theorem tyM_lst {ds : List D} {T : String} : tyM s T (.lst ds) = (T == "list") := rfl
theorem tyM_ref {i : Nat} {T : String} {ds : List D} (h : s[i]? = some (.lst ds)) : tyM s T (.ref i) = (T == "list") := by unfold tyM; dsimp only; rw [h]
/-! operations -/
variable {i j : Int} {x y : Str} {xs ys : List D} {b c : Bool} {a : D}
@[simp] theorem pAdd_int : pAdd (.int i) (.int j) s = some (.int (i + j), s) := rfl
@[simp] theorem pAdd_str : pAdd (.str x) (.str y) s = if x.length + y.length ≤ big then some (.str (x ++ y), s) else none := rfl
@[simp] theorem pAdd_tup : pAdd (.tup xs) (.tup ys) s = if xs.length + ys.length ≤ big then some (.tup (xs ++ ys), s) else none := rfl
@[simp] theorem pAdd_lst : pAdd (.lst xs) (.lst ys) s = if xs.length + ys.length ≤ big then some (.lst (xs ++ ys), s) else none := rfl
@[simp] theorem pSub_int : pSub (.int i) (.int j) s = some (.int (i - j), s) := rfl
@[simp] theorem pMul_int : pMul (.int i) (.int j) s = if cMul i j = true then some (.int (i * j), s) else none := rfl
@[simp] theorem pMul_tup : pMul (.tup xs) (.int j) s = if xs ≠ [] ∧ 2 ≤ j ∧ j ≤ 1000 ∧ xs.length ≤ 1000 then some (.tup (List.replicate j.toNat xs).flatten, s) else none := rfl
@[simp] theorem pMul_lst : pMul (.lst xs) (.int j) s = if 0 ≤ j ∧ j ≤ 1000 ∧ xs.length ≤ 100 then some (.lst (List.replicate j.toNat xs).flatten, s) else none := rfl
@[simp] theorem pMulO_lst : pMulO (.lst xs) (.int j) s = if 0 ≤ j ∧ j ≤ 1000 ∧ xs.length ≤ 100 then some (.ref s.length, s ++ [.lst (List.replicate j.toNat xs).flatten]) else none := rfl
@[simp] theorem pMod_int : pMod (.int i) (.int j) s = if decide (j ≠ 0) = true then some (.int (i.fmod j), s) else none := rfl
@[simp] theorem pFdv_int : pFdv (.int i) (.int j) s = if decide (j ≠ 0 ∧ j.natAbs < 1073741824) = true then some (.int (i.fdiv j), s) else none := rfl
@[simp] theorem pPow_int : pPow (.int i) (.int j) s = if decide (0 ≤ j ∧ j ≤ 1000000 ∧ i.natAbs < 2 ^ 64) = true then some (.int (i ^ j.toNat), s) else none := rfl
@[simp] theorem pLt_int : pLt (.int i) (.int j) s = some (.bl (decide (i < j)), s) := rfl
@[simp] theorem pLe_int : pLe (.int i) (.int j) s = some (.bl (decide (i ≤ j)), s) := rfl
@[simp] theorem pGt_int : pGt (.int i) (.int j) s = some (.bl (decide (j < i)), s) := rfl
@[simp] theorem pGe_int : pGe (.int i) (.int j) s = some (.bl (decide (j ≤ i)), s) := rfl
@[simp] theorem pEq_int : pEq (.int i) (.int j) s = some (.bl (decide (i = j)), s) := rfl
@[simp] theorem pEq_str : pEq (.str x) (.str y) s = some (.bl (decide (x = y)), s) := rfl
@[simp] theorem pEq_bl : pEq (.bl b) (.bl c) s = some (.bl (decide (b = c)), s) := rfl
@[simp] theorem pNe_int : pNe (.int i) (.int j) s = some (.bl (!decide (i = j)), s) := rfl
@[simp] theorem pNe_str : pNe (.str x) (.str y) s = some (.bl (!decide (x = y)), s) := rfl
@[simp] theorem pNe_bl : pNe (.bl b) (.bl c) s = some (.bl (!decide (b = c)), s) := rfl
@[simp] theorem pIs_non : pIs a .non s = some (.bl (isNon a), s) := rfl
@[simp] theorem pIsNot_non : pIsNot a .non s = some (.bl (!isNon a), s) := rfl
@[simp] theorem p1_one {p : D → S → Option (D × S)} : p1 p [a] s = p a s := rfl
@[simp] theorem p2_two {p : D → D → S → Option (D × S)} {b : D} : p2 p [a, b] s = p a b s := rfl
@[simp] theorem pLen_lst : pLen (.lst xs) s = some (.int xs.length, s) := rfl
@[simp] theorem pLen_tup : pLen (.tup xs) s = some (.int xs.length, s) := rfl
@[simp] theorem pLen_scr {ns : List Int} : pLen (.scr ns) s = some (.int ns.length, s) := by
  show some (D.int ((ns.map D.int).length : Nat), s) = _
  rw [List.length_map]
@[simp] theorem pLen_ref {i : Nat} : pLen (.ref i) s = match viewS s (.ref i) with | some ds => some (.int ds.length, s) | none => none := rfl
@[simp] theorem pLen_str : pLen (.str x) s = if x.length ≤ big then some (.int x.length, s) else none := rfl
@[simp] theorem pTuple_tup : pTuple (.tup xs) s = some (.tup xs, s) := rfl
@[simp] theorem pTuple_lst : pTuple (.lst xs) s = some (.tup xs, s) := rfl
@[simp] theorem pTuple_ref {i : Nat} : pTuple (.ref i) s = match viewS s (.ref i) with | some ds => some (.tup ds, s) | none => none := rfl
@[simp] theorem pMax2_int : pMax2 (.int i) (.int j) s = some (.int (if j > i then j else i), s) := rfl
@[simp] theorem pMin2_int : pMin2 (.int i) (.int j) s = some (.int (if j < i then j else i), s) := rfl
@[simp] theorem pIx_tup : pIx (.tup xs) (.int i) s = (atI xs i).map fun d => (d, s) := rfl
@[simp] theorem pIx_lst : pIx (.lst xs) (.int i) s = (atI xs i).map fun d => (d, s) := rfl
@[simp] theorem pIx_scr {ns : List Int} : pIx (.scr ns) (.int i) s = (atI (ns.map D.int) i).map fun d => (d, s) := rfl
@[simp] theorem pIx_ref {k : Nat} : pIx (.ref k) (.int i) s = match viewS s (.ref k) with | some ds => (atI ds i).map fun d => (d, s) | none => none := rfl
@[simp] theorem pSl_tup {lo hi : Option Int} : pSl (.tup xs) lo hi s = some (.tup (cutD xs lo hi), s) := rfl
@[simp] theorem pSl_lst {lo hi : Option Int} : pSl (.lst xs) lo hi s = some (.lst (cutD xs lo hi), s) := rfl
@[simp] theorem mLst_ref {f : List D → List D → Option (D × List D)} {k : Nat} {as : List D} : mLst f (.ref k) as s = match s[k]? with | some (.lst ds) => (f ds as).map fun r => (r.1, s.set k (.lst r.2)) | _ => none := rfl
theorem pAppend_ref {k : Nat} {d : D} (h : s[k]? = some (.lst xs)) (hl : xs.length < big) : pAppend (.ref k) [d] s = some (.non, s.set k (.lst (xs ++ [d]))) := by
  unfold pAppend; rw [mLst_ref, h]; dsimp only; rw [if_pos hl]; rfl
theorem pInsert_ref {k : Nat} {d : D} (h : s[k]? = some (.lst xs)) (hl : xs.length < big) (h1 : 0 ≤ i) (h2 : i < 2 ^ 63) : pInsert (.ref k) [.int i, d] s = some (.non, s.set k (.lst (xs.take i.toNat ++ [d] ++ xs.drop i.toNat))) := by
  unfold pInsert; rw [mLst_ref, h]; dsimp only; rw [if_pos ⟨hl, h1, h2⟩]; rfl
theorem atI_nat {α : Type} {xs : List α} {k : Nat} (h : k < xs.length) : atI xs (k : Int) = some xs[k] := by
  unfold atI ixN
  rw [if_pos (by omega), if_pos (by omega)]
  simp [h]
theorem ixN_nat {m k : Nat} (h : k < m) : ixN m (k : Int) = some k := by
  unfold ixN
  rw [if_pos (by omega), if_pos (by omega)]
  simp
end

/-! ### loops -/
theorem forN_ok {gd : Gd} {g : MG} {body : MS} {n : Sl → S → Prop} {t : D → S → Prop} (I : Nat → Sl → S → Prop) : ∀ (xs : List D) (k : Nat) (e : Sl) (s : S), I k e s → (∀ i e s, I i e s → gdOk s gd = true) →
    (∀ i x e s, xs[i]? = some x → I (k + i) e s → ∃ e1, g x e s = some e1 ∧ OkS (body e1 s) (I (k + i + 1)) t) → (∀ e s, I (k + xs.length) e s → n e s) → OkS (forN gd g body xs e s) n t
  | [], k, e, s, h0, hgd, hst, he => by
    unfold forN
    rw [if_pos (hgd _ _ _ h0)]
    exact he e s h0
  | x :: xs, k, e, s, h0, hgd, hst, he => by
    unfold forN
    rw [if_pos (hgd _ _ _ h0)]
    obtain ⟨e1, h1, h2⟩ := hst 0 x e s rfl h0
    rw [h1]
    dsimp only
    cases q : body e1 s with
    | nx e2 s2 =>
      rw [q] at h2
      exact forN_ok I xs (k + 1) e2 s2 h2 hgd (fun i y e s hi hI => by
        have e3 : k + (i + 1) = k + 1 + i := by omega
        have := hst (i + 1) y e s (by simpa using hi) (by rw [e3]; exact hI)
        rw [e3] at this; exact this) fun e s hI => he e s (by
        have e3 : k + (x :: xs).length = k + 1 + xs.length := by rw [List.length_cons]; omega
        rw [e3]; exact hI)
    | rt d s2 => rw [q] at h2; exact h2
    | bk _ _ => rw [q] at h2; exact h2.elim
    | ct _ _ => rw [q] at h2; exact h2.elim
    | ex _ _ _ => rw [q] at h2; exact h2.elim
    | stuck => rw [q] at h2; exact h2.elim
theorem for_ok {gd : Gd} {g : MG} {body : MS} {n : Sl → S → Prop} {t : D → S → Prop} {xs : List D} {e : Sl} {s : S} (I : Nat → Sl → S → Prop) (h0 : I 0 e s) (hgd : ∀ i e s, I i e s → gdOk s gd = true)
    (hst : ∀ i x e s, xs[i]? = some x → I i e s → ∃ e1, g x e s = some e1 ∧ OkS (body e1 s) (I (i + 1)) t) (he : ∀ e s, I xs.length e s → n e s) : OkS (forN gd g body xs e s) n t :=
  forN_ok I xs 0 e s h0 hgd (fun i x e s hi hI => by rw [Nat.zero_add] at hI ⊢; exact hst i x e s hi hI) fun e s hI => he e s (by rw [Nat.zero_add] at hI; exact hI)
/-- while: a state for each turn, the test false at the end -/
theorem while_ok {μ : Sl → S → Nat} {c : MT} {body : MS} {n : Sl → S → Prop} {t : D → S → Prop} {e : Sl} {s : S} (k : Nat) (I : Nat → Sl → S → Prop) (h0 : I 0 e s) (hk : k ≤ μ e s)
    (hst : ∀ i e s, i < k → I i e s → OkE (c e s) fun b s1 => b = true ∧ OkS (body e s1) (I (i + 1)) t) (he : ∀ e s, I k e s → OkE (c e s) fun b s1 => b = false ∧ n e s1) : OkS (sWhile μ c body e s) n t := by
  have key : ∀ (m f : Nat) (e : Sl) (s : S), m ≤ k → k - m < f → I m e s → OkS (whileN c body f e s) n t := by
    intro m f
    induction f generalizing m with
    | zero => intro e s h1 h2 _; omega
    | succ f ih =>
      intro e s h1 h2 hI
      unfold whileN
      rw [okS_toS]
      by_cases hm : m = k
      · subst hm
        refine (he e s hI).mono fun b s1 h => ?_
        rw [h.1, if_neg Bool.false_ne_true]
        exact h.2
      · refine (hst m e s (by omega) hI).mono fun b s1 h => ?_
        rw [h.1, if_pos rfl]
        have h2 := h.2
        cases q : body e s1 with
        | nx e2 s2 => rw [q] at h2; exact ih (m + 1) e2 s2 (by omega) (by omega) h2
        | rt d s2 => rw [q] at h2; exact h2
        | bk _ _ => rw [q] at h2; exact h2.elim
        | ct _ _ => rw [q] at h2; exact h2.elim
        | ex _ _ _ => rw [q] at h2; exact h2.elim
        | stuck => rw [q] at h2; exact h2.elim
  exact key 0 (μ e s + 1) e s (Nat.zero_le _) (by omega) h0

/-! ### what is told on -/
mutual
theorem fz_no (n : Nat) (s : S) : ∀ d : D, noRef d = true → fz n s d = some d
  | .non, _ => rfl | .bl _, _ => rfl | .int _, _ => rfl | .str _, _ => rfl | .scr _, _ => rfl | .glo _, _ => rfl | .ty _, _ => rfl
  | .ref _, h => nomatch h
  | .tup ds, h => by unfold fz; rw [fzs_no n s ds h]; rfl
  | .lst ds, h => by unfold fz; rw [fzs_no n s ds h]; rfl
  | .obj _ _ ds, h => by unfold fz; rw [fzs_no n s ds h]; rfl
theorem fzs_no (n : Nat) (s : S) : ∀ ds : List D, noRefs ds = true → fzs n s ds = some ds
  | [], _ => rfl
  | d :: ds, h => by
    have h' : noRef d = true ∧ noRefs ds = true := by simpa [noRefs] using h
    unfold fzs; rw [fz_no n s d h'.1, fzs_no n s ds h'.2]
end
@[simp] theorem noRefs_int (ns : List Int) : noRefs (ns.map .int) = true := by
  induction ns with
  | nil => rfl
  | cons a r ih => rw [List.map_cons, noRefs, ih]; rfl
@[simp] theorem noRefs_str (ns : List Str) : noRefs (ns.map .str) = true := by
  induction ns with
  | nil => rfl
  | cons a r ih => rw [List.map_cons, noRefs, ih]; rfl
theorem noRefs_of {ds : List D} (h : ∀ d ∈ ds, noRef d = true) : noRefs ds = true := by
  induction ds with
  | nil => rfl
  | cons a r ih => rw [noRefs, h a (by simp), ih fun d hd => h d (List.mem_cons_of_mem _ hd)]; rfl
@[simp] theorem noRef_tup {ds : List D} : noRef (.tup ds) = noRefs ds := rfl
@[simp] theorem noRef_lst {ds : List D} : noRef (.lst ds) = noRefs ds := rfl
@[simp] theorem noRef_int {i : Int} : noRef (.int i) = true := rfl
@[simp] theorem noRef_bl {i : Bool} : noRef (.bl i) = true := rfl
@[simp] theorem noRef_str {i : Str} : noRef (.str i) = true := rfl
@[simp] theorem noRef_non : noRef .non = true := rfl
@[simp] theorem noRefs_nil : noRefs [] = true := rfl
@[simp] theorem noRefs_cons {d : D} {ds : List D} : noRefs (d :: ds) = (noRef d && noRefs ds) := rfl
theorem okT_more {s s1 : S} (h : okT s s1 = true) (t : S) : okT s (s1 ++ t) = true := by
  induction s generalizing s1 with
  | nil => rfl
  | cons a r ih =>
    cases s1 with
    | nil => cases h
    | cons b r1 =>
      have h' : (sameO a b || noRefO b) = true ∧ okT r r1 = true := by simpa [okT] using h
      show ((sameO a b || noRefO b) && okT r (r1 ++ t)) = true
      rw [h'.1, ih h'.2]; rfl
section
variable {N : Nat} {m : MS} {ds : List D} {s : S} {Q : D → S → Prop}
/-- behind a def: what it leaves behind the old objects is let go -/
def Out (s : S) (Q : D → S → Prop) (d : D) (s' : S) : Prop := ∃ s1 t d', s' = s1 ++ t ∧ s1.length = s.length ∧ okT s s1 = true ∧ fz s.length s' d = some d' ∧ Q d' s1
theorem Out.mk {s1 : S} {d : D} (t : S) (hl : s1.length = s.length) (ho : okT s s1 = true) (hn : noRef d = true) (q : Q d s1) : Out s Q d (s1 ++ t) := ⟨s1, t, d, rfl, hl, ho, fz_no _ _ _ hn, q⟩
theorem Out.mk0 {s1 : S} {d : D} (hl : s1.length = s.length) (ho : okT s s1 = true) (hn : noRef d = true) (q : Q d s1) : Out s Q d s1 := ⟨s1, [], d, by simp, hl, ho, fz_no _ _ _ hn, q⟩
/-- a def: its body walked through -/
theorem cut_ok (h : OkS (m (ds.map some ++ List.replicate (N - ds.length) none) s) (fun _ s' => Out s Q .non s') (Out s Q)) : OkE (cut (runDef N m) ds s) Q := by
  unfold cut runDef
  cases q : m (ds.map some ++ List.replicate (N - ds.length) none) s with
  | nx e s' =>
    rw [q] at h
    obtain ⟨s1, t, d', rfl, h1, h2, h4, h3⟩ := h
    dsimp only
    rw [if_pos (okT_more h2 t), h4]
    dsimp only
    rw [← h1, List.take_left]
    exact h3
  | rt d s' =>
    rw [q] at h
    obtain ⟨s1, t, d', rfl, h1, h2, h4, h3⟩ := h
    dsimp only
    rw [if_pos (okT_more h2 t), h4]
    dsimp only
    rw [← h1, List.take_left]
    exact h3
  | bk _ _ => rw [q] at h; exact h.elim
  | ct _ _ => rw [q] at h; exact h.elim
  | ex _ _ _ => rw [q] at h; exact h.elim
  | stuck => rw [q] at h; exact h.elim
/-- a def that changes nothing and tells a value -/
theorem cut_pure (h : OkS (m (ds.map some ++ List.replicate (N - ds.length) none) s) (fun _ s' => ∃ t, s' = s ++ t ∧ Q .non s) (fun d s' => (∃ t, s' = s ++ t) ∧ noRef d = true ∧ Q d s)) : OkE (cut (runDef N m) ds s) Q :=
  cut_ok (h.mono (fun e s' ⟨t, h1, h2⟩ => ⟨s, t, .non, h1, rfl, okT_refl s, rfl, h2⟩) fun d s' ⟨⟨t, h1⟩, h3, h2⟩ => ⟨s, t, d, h1, rfl, okT_refl s, fz_no _ _ _ h3, h2⟩)
end
/-! ### [f for x in it if c] -/
section
variable {vs : List Nat} {it : MI} {g : MG} {c : MT} {f : ME} {e : Sl} {s : S} {xs : List D} {gd : Gd}
theorem compN_ok {l : Nat} (I : Nat → List D → S → Prop) (hlen : ∀ i acc s1, I i acc s1 → s1.length = l ∧ acc.length ≤ i ∧ gdOk (s1 ++ [.lst acc]) gd = true) : ∀ (xs : List D) (k : Nat) (acc : List D) (s1 : S), k + xs.length ≤ big → I k acc s1 →
    (∀ i x acc s1, xs[i]? = some x → I (k + i) acc s1 → ∃ e1, g x (wipeD e vs) (s1 ++ [.lst acc]) = some e1 ∧
      ((c e1 (s1 ++ [.lst acc]) = .ok true (s1 ++ [.lst acc]) ∧ ∃ y s2, f e1 (s1 ++ [.lst acc]) = .ok y (s2 ++ [.lst acc]) ∧ I (k + i + 1) (acc ++ [y]) s2) ∨ (c e1 (s1 ++ [.lst acc]) = .ok false (s1 ++ [.lst acc]) ∧ I (k + i + 1) acc s1))) →
    ∃ acc' s2, compN vs gd g c f e l xs (s1 ++ [.lst acc]) = .ok () (s2 ++ [.lst acc']) ∧ I (k + xs.length) acc' s2
  | [], k, acc, s1, hb, h0, _ => by
    unfold compN
    rw [if_pos (hlen _ _ _ h0).2.2]
    exact ⟨acc, s1, rfl, h0⟩
  | x :: xs, k, acc, s1, hb, h0, hst => by
    have hb' : k + xs.length + 1 ≤ big := by rw [List.length_cons] at hb; omega
    unfold compN
    rw [if_pos (hlen _ _ _ h0).2.2]
    obtain ⟨e1, h1, h2⟩ := hst 0 x acc s1 rfl h0
    rw [h1]
    dsimp only
    have next : ∀ (i : Nat) (y : D) (acc : List D) (s1 : S), xs[i]? = some y → I (k + 1 + i) acc s1 → ∃ e1, g y (wipeD e vs) (s1 ++ [.lst acc]) = some e1 ∧
      ((c e1 (s1 ++ [.lst acc]) = .ok true (s1 ++ [.lst acc]) ∧ ∃ y s2, f e1 (s1 ++ [.lst acc]) = .ok y (s2 ++ [.lst acc]) ∧ I (k + 1 + i + 1) (acc ++ [y]) s2) ∨ (c e1 (s1 ++ [.lst acc]) = .ok false (s1 ++ [.lst acc]) ∧ I (k + 1 + i + 1) acc s1)) := by
      intro i y acc s1 hi hI
      have e3 : k + (i + 1) = k + 1 + i := by omega
      have := hst (i + 1) y acc s1 (by simpa using hi) (by rw [e3]; exact hI)
      rw [e3] at this
      exact this
    have fin : ∀ acc' s2, I (k + 1 + xs.length) acc' s2 → I (k + (x :: xs).length) acc' s2 := by
      intro acc' s2 h
      have e3 : k + (x :: xs).length = k + 1 + xs.length := by rw [List.length_cons]; omega
      rw [e3]; exact h
    rcases h2 with ⟨hc, y, s2, hf, hI⟩ | ⟨hc, hI⟩
    · rw [hc]
      dsimp only
      rw [hf]
      have hl2 : s2.length = l := (hlen _ _ _ hI).1
      have hl1 := (hlen _ _ _ h0).2.1
      dsimp only
      rw [show (s2 ++ [O.lst acc])[l]? = some (.lst acc) by rw [← hl2]; simp]
      dsimp only
      rw [if_pos (show acc.length < big by omega), show (s2 ++ [O.lst acc]).set l (.lst (acc ++ [y])) = s2 ++ [.lst (acc ++ [y])] by rw [← hl2]; simp]
      obtain ⟨acc', s3, h3, h4⟩ := compN_ok I hlen xs (k + 1) (acc ++ [y]) s2 (by omega) hI next
      exact ⟨acc', s3, h3, fin _ _ h4⟩
    · rw [hc]
      dsimp only
      obtain ⟨acc', s3, h3, h4⟩ := compN_ok I hlen xs (k + 1) acc s1 (by omega) hI next
      exact ⟨acc', s3, h3, fin _ _ h4⟩
/-- the list of it, the store changed on the way -/
theorem comp_inv {Q : D → S → Prop} {s0 : S} (hit : it e s = .ok (xs, gd) s0) (hs0 : s0.length = s.length) (I : Nat → List D → S → Prop) (h0 : I 0 [] s0)
    (hlen : ∀ i acc s1, I i acc s1 → s1.length = s.length ∧ acc.length ≤ i ∧ gdOk (s1 ++ [.lst acc]) gd = true) (hb : xs.length ≤ big)
    (hst : ∀ i x acc s1, xs[i]? = some x → I i acc s1 → ∃ e1, g x (wipeD e vs) (s1 ++ [.lst acc]) = some e1 ∧
      ((c e1 (s1 ++ [.lst acc]) = .ok true (s1 ++ [.lst acc]) ∧ ∃ y s2, f e1 (s1 ++ [.lst acc]) = .ok y (s2 ++ [.lst acc]) ∧ I (i + 1) (acc ++ [y]) s2) ∨ (c e1 (s1 ++ [.lst acc]) = .ok false (s1 ++ [.lst acc]) ∧ I (i + 1) acc s1)))
    (hq : ∀ acc s1, I xs.length acc s1 → okT s s1 = true ∧ noRefs acc = true ∧ Q (.lst acc) s1) : OkE (cutE (eCompO vs it g c f) e s) Q := by
  obtain ⟨acc', s2, h1, h2⟩ := compN_ok (vs := vs) (gd := gd) (g := g) (c := c) (f := f) (e := e) (l := s.length) I hlen xs 0 [] s0 (by rw [Nat.zero_add]; exact hb) h0 fun i x acc s1 hi hI => by
    rw [Nat.zero_add] at hI ⊢; exact hst i x acc s1 hi hI
  rw [Nat.zero_add] at h2
  obtain ⟨q1, q2, q3⟩ := hq _ _ h2
  have hl : s2.length = s.length := (hlen _ _ _ h2).1
  have e1 : eCompO vs it g c f e s = .ok (.ref s.length) (s2 ++ [.lst acc']) := by
    unfold eCompO
    rw [hit]
    show (compN vs gd g c f e s0.length xs (s0 ++ [.lst []])).bind (fun _ s' => Res.ok (D.ref s0.length) s') = _
    rw [hs0, h1]; rfl
  unfold cutE cut
  dsimp only
  rw [e1]
  dsimp only
  rw [if_pos (okT_more q1 _)]
  have e2 : fz s.length (s2 ++ [O.lst acc']) (.ref s.length) = some (.lst acc') := by
    unfold fz
    rw [if_pos (Nat.le_refl _), show (s2 ++ [O.lst acc'])[s.length]? = some (.lst acc') by rw [← hl]; simp]
    dsimp only
    rw [if_pos q2]
  rw [e2]
  dsimp only
  rw [← hl, List.take_left]
  exact q3
/-- nothing changed on the way -/
theorem comp_map {Q : D → S → Prop} (h : D → D) (hit : it e s = .ok (xs, gd) s) (hgd : ∀ t, gdOk (s ++ t) gd = true) (hb : xs.length ≤ big)
    (hst : ∀ x ∈ xs, ∀ t, ∃ e1, g x (wipeD e vs) (s ++ t) = some e1 ∧ f e1 (s ++ t) = .ok (h x) (s ++ t)) (hn : ∀ x ∈ xs, noRef (h x) = true)
    (hq : Q (.lst (xs.map h)) s) : OkE (cutE (eCompO vs it g tYesS f) e s) Q := by
  refine comp_inv (gd := gd) hit rfl (fun i acc s1 => s1 = s ∧ acc = (xs.take i).map h) ⟨rfl, rfl⟩ (fun i acc s1 ⟨h1, h2⟩ => ?_) hb (fun i x acc s1 hi ⟨h1, h2⟩ => ?_) fun acc s1 ⟨h1, h2⟩ => ?_
  · subst h1 h2
    exact ⟨rfl, by rw [List.length_map, List.length_take]; omega, hgd _⟩
  · subst h1
    obtain ⟨e1, k1, k2⟩ := hst x (List.mem_of_getElem? hi) [.lst acc]
    refine ⟨e1, k1, .inl ⟨rfl, h x, s1, k2, rfl, ?_⟩⟩
    rw [h2, List.take_add_one, hi]; simp
  · subst h1 h2
    rw [List.take_length]
    exact ⟨okT_refl _, noRefs_of fun d hd => by
      obtain ⟨x, hx, rfl⟩ := List.mem_map.mp hd
      exact hn x hx, hq⟩
theorem comp_filter {Q : D → S → Prop} (h : D → D) (p : D → Bool) (hit : it e s = .ok (xs, gd) s) (hgd : ∀ t, gdOk (s ++ t) gd = true) (hb : xs.length ≤ big)
    (hst : ∀ x ∈ xs, ∀ t, ∃ e1, g x (wipeD e vs) (s ++ t) = some e1 ∧ c e1 (s ++ t) = .ok (p x) (s ++ t) ∧ (p x = true → f e1 (s ++ t) = .ok (h x) (s ++ t))) (hn : ∀ x ∈ xs, noRef (h x) = true)
    (hq : Q (.lst ((xs.filter p).map h)) s) : OkE (cutE (eCompO vs it g c f) e s) Q := by
  refine comp_inv (gd := gd) hit rfl (fun i acc s1 => s1 = s ∧ acc = ((xs.take i).filter p).map h) ⟨rfl, rfl⟩ (fun i acc s1 ⟨h1, h2⟩ => ?_) hb (fun i x acc s1 hi ⟨h1, h2⟩ => ?_) fun acc s1 ⟨h1, h2⟩ => ?_
  · subst h1 h2
    refine ⟨rfl, ?_, hgd _⟩
    rw [List.length_map]
    exact Nat.le_trans (List.length_filter_le _ _) (by rw [List.length_take]; omega)
  · subst h1
    obtain ⟨e1, k1, k2, k3⟩ := hst x (List.mem_of_getElem? hi) [.lst acc]
    have ex : (xs.take (i + 1)).filter p = (xs.take i).filter p ++ if p x = true then [x] else [] := by
      rw [List.take_add_one, hi]; simp [List.filter_append, List.filter_cons]
    refine ⟨e1, k1, ?_⟩
    cases q : p x with
    | true =>
      rw [q] at k2
      exact .inl ⟨k2, h x, s1, k3 q, rfl, by rw [ex, q, h2]; simp⟩
    | false =>
      rw [q] at k2
      exact .inr ⟨k2, rfl, by rw [ex, q, h2]; simp⟩
  · subst h1 h2
    rw [List.take_length]
    exact ⟨okT_refl _, noRefs_of fun d hd => by
      obtain ⟨x, hx, rfl⟩ := List.mem_map.mp hd
      exact hn x (List.mem_filter.mp hx |>.1), hq⟩
end
end Mp

namespace Mp.L
open PySem L2 Mp PyProof.Rows
/-! printed by gen.py: what the defs do that many laws share -/
def K_PRIMES : List Int := [2, 3, 5, 7, 11, 13, 17, 19, 23, 29]
/-- _law_pot(cell): 0 cell 1 number 2 j 3 more -/
def m__law_pot : MS := sSeq (sIf (eTest (eOp pGe (eVar 0) (eOp pPow (eC (.int 10)) (eC (.int 18))))) (sRet (eLstO (aCons (eOp pSub (eVar 0) (eOp pPow (eC (.int 10)) (eC (.int 18)))) (aNil)))) (sSkip)) (sSeq (sAsg (eC (.int 0)) (gNm 1)) (sSeq (sFor (iRng1 (eC (.int 64))) (gNm 2) (sSeq (sAsg (eOp pMod (eOp pMul (eOp pAdd (eOp pAdd (eOp pMod (eVar 0) (eC (.int 2147483629))) (eOp pMul (eC (.int 7919)) (eVar 2))) (eC (.int 1))) (eC (.int 48271))) (eC (.int 2147483647))) (gNm 3)) (sSeq (sAsg (eOp pMod (eOp pAdd (eOp pAdd (eOp pMul (eVar 3) (eVar 3)) (eOp pMul (eC (.int 69621)) (eVar 2))) (eC (.int 7))) (eC (.int 2147483587))) (gNm 3)) (sAsg (eOp pAdd (eOp pMul (eVar 1) (eC (.int 2147483587))) (eVar 3)) (gNm 1))))) (sRet (eLstO (aCons (eVar 1) (aNil))))))
def F__law_pot : FD := cutO (runDef 4 m__law_pot)
/-- _law_take(pot, far): 0 pot 1 far 2 found -/
def m__law_take : MS := sSeq (sAsg (eOp pMod (eOp pIx (eVar 0) (eC (.int 0))) (eVar 1)) (gNm 2)) (sSeq (sSub (eOp pFdv (eOp pIx (eVar 0) (eC (.int 0))) (eVar 1)) (eVar 0) (eC (.int 0))) (sRet (eVar 2)))
def F__law_take : FD := cut (runDef 3 m__law_take)
/-- _law_order(pot, wide): 0 pot 1 wide 2 found 3 k -/
def m__law_order : MS := sSeq (sAsg (eLstO (aNil)) (gNm 2)) (sSeq (sFor (iRng1 (eVar 1)) (gNm 3) (sDrop (eBM "list" pInsert (eVar 2) (aCons (eCall 2 F__law_take (aCons (eVar 0) (aCons (eOp pAdd (eVar 3) (eC (.int 1))) (aNil)))) (aCons (eVar 3) (aNil)))))) (sRet (eCB (p1 pTuple) (aCons (eVar 2) (aNil)))))
def F__law_order : FD := cut (runDef 4 m__law_order)
/-- _law_places(pot): 0 pot 1 wide -/
def m__law_places : MS := sSeq (sAsg (eOp pAdd (eC (.int 1)) (eCall 2 F__law_take (aCons (eVar 0) (aCons (eC (.int 5)) (aNil))))) (gNm 1)) (sSeq (sIf (eTest (eOp pEq (eCall 2 F__law_take (aCons (eVar 0) (aCons (eC (.int 2)) (aNil)))) (eC (.int 0)))) (sRet (eRg1 .tup (eVar 1))) (sSkip)) (sRet (eSl (eCall 2 F__law_order (aCons (eVar 0) (aCons (eC (.int 10)) (aNil)))) (oNo) (oAt (eVar 1)))))
def F__law_places : FD := cut (runDef 2 m__law_places)
/-- _law_primes():  -/
def m__law_primes : MS := sRet (eTup (aCons (eC (.int 2)) (aCons (eC (.int 3)) (aCons (eC (.int 5)) (aCons (eC (.int 7)) (aCons (eC (.int 11)) (aCons (eC (.int 13)) (aCons (eC (.int 17)) (aCons (eC (.int 19)) (aCons (eC (.int 23)) (aCons (eC (.int 29)) (aNil))))))))))))
def F__law_primes : FD := cut (runDef 0 m__law_primes)
/-- _law_product(line): 0 line 1 found 2 prime 3 often 4 turn -/
def m__law_product : MS := sSeq (sAsg (eC (.int 1)) (gNm 1)) (sSeq (sFor (iZip2 (eCall 0 F__law_primes aNil) (eVar 0)) (gTupS 2 (gsCons (gNm 2) (gsCons (gNm 3) (gsNil)))) (sFor (iRng1 (eVar 3)) (gNm 4) (sAsg (eOp pMul (eVar 1) (eVar 2)) (gNm 1)))) (sRet (eVar 1)))
def F__law_product : FD := cut (runDef 5 m__law_product)
/-- _law_fraction(pot, places): 0 pot 1 places 2 found 3 turn 4 place 5 top 6 bottom 7 one -/
def m__law_fraction : MS := sSeq (sAsg (eOp pMulO (eLst (aCons (eC (.int 0)) (aNil))) (eC (.int 10))) (gNm 2)) (sSeq (sFor (iRng1 (eCall 2 F__law_take (aCons (eVar 0) (aCons (eC (.int 4)) (aNil))))) (gNm 3) (sSeq (sAsg (eOp pIx (eVar 1) (eCall 2 F__law_take (aCons (eVar 0) (aCons (eCB (p1 pLen) (aCons (eVar 1) (aNil))) (aNil))))) (gNm 4)) (sSub (eOp pAdd (eOp pIx (eVar 2) (eVar 4)) (eC (.int 1))) (eVar 2) (eVar 4)))) (sSeq (sFor (iRng1 (eCall 2 F__law_take (aCons (eVar 0) (aCons (eC (.int 4)) (aNil))))) (gNm 3) (sSeq (sAsg (eOp pIx (eVar 1) (eCall 2 F__law_take (aCons (eVar 0) (aCons (eCB (p1 pLen) (aCons (eVar 1) (aNil))) (aNil))))) (gNm 4)) (sSub (eOp pSub (eOp pIx (eVar 2) (eVar 4)) (eC (.int 1))) (eVar 2) (eVar 4)))) (sSeq (sAsg (eCB (p1 pTuple) (aCons (cutE (eCompO [7] (iAny (eVar 2)) (gNm 7) (tYesS) (eCB (p2 pMax2) (aCons (eC (.int 0)) (aCons (eVar 7) (aNil)))))) (aNil))) (gNm 5)) (sSeq (sAsg (eCB (p1 pTuple) (aCons (cutE (eCompO [7] (iAny (eVar 2)) (gNm 7) (tYesS) (eCB (p2 pMax2) (aCons (eC (.int 0)) (aCons (eOp pSub (eC (.int 0)) (eVar 7)) (aNil)))))) (aNil))) (gNm 6)) (sRet (eTup (aCons (eCall 1 F__law_product (aCons (eVar 5) (aNil))) (aCons (eCall 1 F__law_product (aCons (eVar 6) (aNil))) (aNil)))))))))
def F__law_fraction : FD := cut (runDef 8 m__law_fraction)
/-- _law_program(pot, places, most): 0 pot 1 places 2 most 3 k -/
def m__law_program : MS := sRet (eCB (p1 pTuple) (aCons (cutE (eCompO [3] (iRng1 (eOp pAdd (eC (.int 1)) (eCall 2 F__law_take (aCons (eVar 0) (aCons (eVar 2) (aNil)))))) (gNm 3) (tYesS) (eCall 2 F__law_fraction (aCons (eVar 0) (aCons (eVar 1) (aNil)))))) (aNil)))
def F__law_program : FD := cut (runDef 4 m__law_program)
/-- _law_line(pot, places, most): 0 pot 1 places 2 most 3 found 4 place -/
def m__law_line : MS := sSeq (sAsg (eOp pMulO (eLst (aCons (eC (.int 0)) (aNil))) (eC (.int 10))) (gNm 3)) (sSeq (sFor (iAny (eVar 1)) (gNm 4) (sSub (eCall 2 F__law_take (aCons (eVar 0) (aCons (eOp pAdd (eVar 2) (eC (.int 1))) (aNil)))) (eVar 3) (eVar 4))) (sSeq (sIf (eTest (eOp pEq (eCall 2 F__law_take (aCons (eVar 0) (aCons (eC (.int 6)) (aNil)))) (eC (.int 0)))) (sSub (eCall 2 F__law_take (aCons (eVar 0) (aCons (eOp pAdd (eVar 2) (eC (.int 1))) (aNil)))) (eVar 3) (eCall 2 F__law_take (aCons (eVar 0) (aCons (eC (.int 10)) (aNil))))) (sSkip)) (sRet (eCB (p1 pTuple) (aCons (eVar 3) (aNil))))))
def F__law_line : FD := cut (runDef 5 m__law_line)
/-- _law_text_of(program): 0 program 1 top 2 bottom -/
def m__law_text_of : MS := sRet (eBM "str" pJoin (eC (.str " ")) (aCons (cutE (eCompO [1, 2] (iAny (eVar 0)) (gTupS 2 (gsCons (gNm 1) (gsCons (gNm 2) (gsNil)))) (tYesS) (eOp pAdd (eOp pAdd (eCB (p1 pStr) (aCons (eVar 1) (aNil))) (eC (.str "/"))) (eCB (p1 pStr) (aCons (eVar 2) (aNil)))))) (aNil)))
def F__law_text_of : FD := cut (runDef 3 m__law_text_of)
/-- _law_line_text(line): 0 line 1 found 2 prime 3 often -/
def m__law_line_text : MS := sSeq (sAsg (eC (.str "")) (gNm 1)) (sSeq (sFor (iZip2 (eCall 0 F__law_primes aNil) (eVar 0)) (gTupS 2 (gsCons (gNm 2) (gsCons (gNm 3) (gsNil)))) (sIf (eTest (eOp pGt (eVar 3) (eC (.int 0)))) (sAsg (eOp pAdd (eOp pAdd (eOp pAdd (eOp pAdd (eVar 1) (eOp pMulS (eC (.str "*")) (eCB (p1 pInt) (aCons (eOp pNe (eVar 1) (eC (.str ""))) (aNil))))) (eCB (p1 pStr) (aCons (eVar 2) (aNil)))) (eC (.str "^"))) (eCB (p1 pStr) (aCons (eVar 3) (aNil)))) (gNm 1)) (sSkip))) (sSeq (sIf (eTest (eOp pEq (eVar 1) (eC (.str "")))) (sRet (eC (.str "1"))) (sSkip)) (sRet (eVar 1))))
def F__law_line_text : FD := cut (runDef 4 m__law_line_text)
/-- _law_whole(found): 0 found -/
def m__law_whole : MS := sRet (eAnd (eCB (p2 pIsI) (aCons (eVar 0) (aCons (eC (.ty "int")) (aNil)))) (eNot (eCB (p2 pIsI) (aCons (eVar 0) (aCons (eC (.ty "bool")) (aNil))))))
def F__law_whole : FD := cut (runDef 1 m__law_whole)
/-- _law_same(found, due): 0 found 1 due 2 one 3 other -/
def m__law_same (R : FD) : MS := sSeq (sIf (eTest (eOp pIs (eVar 1) (eC .non))) (sRet (eOp pIs (eVar 0) (eC .non))) (sSkip)) (sSeq (sIf (eTest (eCB (p2 pIsI) (aCons (eVar 1) (aCons (eC (.ty "bool")) (aNil))))) (sRet (eAnd (eCB (p2 pIsI) (aCons (eVar 0) (aCons (eC (.ty "bool")) (aNil)))) (eOp pEq (eVar 0) (eVar 1)))) (sSkip)) (sSeq (sIf (eTest (eCB (p2 pIsI) (aCons (eVar 1) (aCons (eC (.ty "int")) (aNil))))) (sRet (eAnd (eCall 1 F__law_whole (aCons (eVar 0) (aNil))) (eOp pEq (eVar 0) (eVar 1)))) (sSkip)) (sSeq (sIf (eTest (eCB (p2 pIsI) (aCons (eVar 1) (aCons (eC (.ty "str")) (aNil))))) (sRet (eAnd (eCB (p2 pIsI) (aCons (eVar 0) (aCons (eC (.ty "str")) (aNil)))) (eOp pEq (eVar 0) (eVar 1)))) (sSkip)) (sSeq (sIf (tOrS (eTest (eOp pNe (eCB (p2 pIsI) (aCons (eVar 1) (aCons (eC (.ty "tuple")) (aNil)))) (eCB (p2 pIsI) (aCons (eVar 0) (aCons (eC (.ty "tuple")) (aNil)))))) (eTest (eOp pNe (eCB (p2 pIsI) (aCons (eVar 1) (aCons (eC (.ty "list")) (aNil)))) (eCB (p2 pIsI) (aCons (eVar 0) (aCons (eC (.ty "list")) (aNil))))))) (sRet (eC (.bl false))) (sSkip)) (sRet (eAnd (eOp pEq (eCB (p1 pLen) (aCons (eVar 0) (aNil))) (eCB (p1 pLen) (aCons (eVar 1) (aNil)))) (eCB (p1 pAll) (aCons (cutE (eCompO [2, 3] (iZip2 (eVar 0) (eVar 1)) (gTupS 2 (gsCons (gNm 2) (gsCons (gNm 3) (gsNil)))) (tYesS) (eCall 2 R (aCons (eVar 2) (aCons (eVar 3) (aNil)))))) (aNil)))))))))
def F__law_same : Nat → FD
  | 0 => fun _ _ => .stuck
  | n + 1 => cut (runDef 4 (m__law_same (F__law_same n)))
/-- _law_cell_at(script, k): 0 script 1 k -/
def m__law_cell_at : MS := sSeq (sIf (eTest (eOp pLt (eVar 1) (eCB (p1 pLen) (aCons (eVar 0) (aNil))))) (sRet (eOp pIx (eVar 0) (eVar 1))) (sSkip)) (sRet (eC (.int 0)))
def F__law_cell_at : FD := cut (runDef 2 m__law_cell_at)
/-- powers_written(powers): 0 powers 1 parts 2 prime 3 often -/
def m_powers_written : MS := sSeq (sAsg (cutE (eCompO [2, 3] (iZip2 (eC (.tup (K_PRIMES.map .int))) (eVar 0)) (gTupS 2 (gsCons (gNm 2) (gsCons (gNm 3) (gsNil)))) (eTest (eOp pGt (eVar 3) (eC (.int 0)))) (eOp pAdd (eOp pAdd (eCB (p1 pStr) (aCons (eVar 2) (aNil))) (eC (.str "^"))) (eCB (p1 pStr) (aCons (eVar 3) (aNil)))))) (gNm 1)) (sSeq (sIf (eTest (eOp pEq (eVar 1) (eLst (aNil)))) (sRet (eC (.str "1"))) (sSkip)) (sRet (eBM "str" pJoin (eC (.str "*")) (aCons (eVar 1) (aNil)))))
def F_powers_written : FD := cut (runDef 4 m_powers_written)
/-- number_in(word): 0 word 1 sign -/
def m_number_in : MS := sSeq (sIf (tOrS (tNotS (eTest (eCh pLe pLe (eC (.int 1)) (eCB (p1 pLen) (aCons (eVar 0) (aNil))) (eC (.int 13))))) (tAndS (eTest (eOp pEq (eOp pIx (eVar 0) (eC (.int 0))) (eC (.str "0")))) (eTest (eOp pNe (eVar 0) (eC (.str "0")))))) (sRet (eC .non)) (sSkip)) (sSeq (sFor (iAny (eVar 0)) (gNm 1) (sIf (eTest (eOp pNotIn (eVar 1) (eC (.str "0123456789")))) (sRet (eC .non)) (sSkip))) (sRet (eCB (p1 pInt) (aCons (eVar 0) (aNil)))))
def F_number_in : FD := cut (runDef 2 m_number_in)
/-- part_in(part): 0 part 1 halves 2 half -/
def m_part_in : MS := sSeq (sAsg (cutE (eCompO [2] (iAny (eBM "str" pSplit (eVar 0) (aCons (eC (.str "^")) (aNil)))) (gNm 2) (tYesS) (eCall 1 F_number_in (aCons (eVar 2) (aNil))))) (gNm 1)) (sSeq (sIf (tOrS (eTest (eOp pNe (eCB (p1 pLen) (aCons (eVar 1) (aNil))) (eC (.int 2)))) (tOrS (eTest (eOp pNotIn (eOp pIx (eVar 1) (eC (.int 0))) (eC (.tup (K_PRIMES.map .int))))) (tOrS (eTest (eOp pIs (eOp pIx (eVar 1) (eC (.int 1))) (eC .non))) (tNotS (eTest (eCh pLe pLe (eC (.int 1)) (eOp pIx (eVar 1) (eC (.int 1))) (eC (.int 1000000)))))))) (sRet (eC .non)) (sSkip)) (sRet (eTup (aCons (eIdxC K_PRIMES (eOp pIx (eVar 1) (eC (.int 0)))) (aCons (eOp pIx (eVar 1) (eC (.int 1))) (aNil))))))
def F_part_in : FD := cut (runDef 3 m_part_in)
/-- powers_read(text): 0 text 1 found 2 last 3 part 4 told -/
def m_powers_read : MS := sSeq (sIf (tNotS (eTest (eCB (p2 pIsI) (aCons (eVar 0) (aCons (eC (.ty "str")) (aNil)))))) (sNever) (sSkip)) (sSeq (sAsg (eOp pMulO (eLst (aCons (eC (.int 0)) (aNil))) (eCB (p1 pLen) (aCons (eC (.tup (K_PRIMES.map .int))) (aNil)))) (gNm 1)) (sSeq (sIf (eTest (eOp pEq (eVar 0) (eC (.str "1")))) (sRet (eCB (p1 pTuple) (aCons (eVar 1) (aNil)))) (sSkip)) (sSeq (sAsg (eNeg (eC (.int 1))) (gNm 2)) (sSeq (sFor (iAny (eBM "str" pSplit (eVar 0) (aCons (eC (.str "*")) (aNil)))) (gNm 3) (sSeq (sAsg (eCall 1 F_part_in (aCons (eVar 3) (aNil))) (gNm 4)) (sSeq (sIf (tOrS (eTest (eOp pIs (eVar 4) (eC .non))) (eTest (eOp pLe (eOp pIx (eVar 4) (eC (.int 0))) (eVar 2)))) (sNever) (sSkip)) (sSeq (sAsg (eOp pIx (eVar 4) (eC (.int 0))) (gNm 2)) (sSub (eOp pIx (eVar 4) (eC (.int 1))) (eVar 1) (eVar 2)))))) (sRet (eCB (p1 pTuple) (aCons (eVar 1) (aNil))))))))
def F_powers_read : FD := cut (runDef 5 m_powers_read)
/-- written(program): 0 program 1 top 2 bottom -/
def m_written : MS := sRet (eBM "str" pJoin (eC (.str " ")) (aCons (cutE (eCompO [1, 2] (iAny (eVar 0)) (gTupS 2 (gsCons (gNm 1) (gsCons (gNm 2) (gsNil)))) (tYesS) (eOp pAdd (eOp pAdd (eCB (p1 pStr) (aCons (eVar 1) (aNil))) (eC (.str "/"))) (eCB (p1 pStr) (aCons (eVar 2) (aNil)))))) (aNil)))
def F_written : FD := cut (runDef 3 m_written)
/-- found_powers(number): 0 number 1 found 2 prime 3 often -/
def m_found_powers : MS := sSeq (sAsg (eLstO (aNil)) (gNm 1)) (sSeq (sFor (iAny (eC (.tup (K_PRIMES.map .int)))) (gNm 2) (sSeq (sAsg (eC (.int 0)) (gNm 3)) (sSeq (sWhile (natAt 0) (eTest (eOp pEq (eOp pMod (eVar 0) (eVar 2)) (eC (.int 0)))) (sSeq (sAsg (eOp pFdv (eVar 0) (eVar 2)) (gNm 0)) (sAsg (eOp pAdd (eVar 3) (eC (.int 1))) (gNm 3)))) (sDrop (eBM "list" pAppend (eVar 1) (aCons (eVar 3) (aNil))))))) (sSeq (sIf (eTest (eOp pNe (eVar 0) (eC (.int 1)))) (sRet (eC .non)) (sSkip)) (sRet (eCB (p1 pTuple) (aCons (eVar 1) (aNil))))))
def F_found_powers : FD := cut (runDef 4 m_found_powers)
/-- is_whole(thing): 0 thing -/
def m_is_whole : MS := sRet (eAnd (eCB (p2 pIsI) (aCons (eVar 0) (aCons (eC (.ty "int")) (aNil)))) (eNot (eCB (p2 pIsI) (aCons (eVar 0) (aCons (eC (.ty "bool")) (aNil))))))
def F_is_whole : FD := cut (runDef 1 m_is_whole)
/-- is_upto(thing, least, most): 0 thing 1 least 2 most -/
def m_is_upto : MS := sRet (eAnd (eCall 1 F_is_whole (aCons (eVar 0) (aNil))) (eCh pLe pLe (eVar 1) (eVar 0) (eVar 2)))
def F_is_upto : FD := cut (runDef 3 m_is_upto)
/-- is_fraction(thing): 0 thing 1 top 2 bottom 3 one 4 other -/
def m_is_fraction : MS := sSeq (sIf (tOrS (tNotS (eTest (eCB (p2 pIsI) (aCons (eVar 0) (aCons (eC (.ty "tuple")) (aNil)))))) (eTest (eOp pNe (eCB (p1 pLen) (aCons (eVar 0) (aNil))) (eC (.int 2))))) (sRet (eC (.bl false))) (sSkip)) (sSeq (sIf (tOrS (tNotS (eTest (eCall 3 F_is_upto (aCons (eOp pIx (eVar 0) (eC (.int 0))) (aCons (eC (.int 1)) (aCons (eC (.int 1000000000000)) (aNil))))))) (tNotS (eTest (eCall 3 F_is_upto (aCons (eOp pIx (eVar 0) (eC (.int 1))) (aCons (eC (.int 1)) (aCons (eC (.int 1000000000000)) (aNil)))))))) (sRet (eC (.bl false))) (sSkip)) (sSeq (sAsg (eCall 1 F_found_powers (aCons (eOp pIx (eVar 0) (eC (.int 0))) (aNil))) (gNm 1)) (sSeq (sAsg (eCall 1 F_found_powers (aCons (eOp pIx (eVar 0) (eC (.int 1))) (aNil))) (gNm 2)) (sSeq (sIf (tOrS (eTest (eOp pIs (eVar 1) (eC .non))) (eTest (eOp pIs (eVar 2) (eC .non)))) (sRet (eC (.bl false))) (sSkip)) (sRet (eCB (p1 pAll) (aCons (cutE (eCompO [3, 4] (iZip2 (eVar 1) (eVar 2)) (gTupS 2 (gsCons (gNm 3) (gsCons (gNm 4) (gsNil)))) (tYesS) (eOr (eOp pEq (eVar 3) (eC (.int 0))) (eOp pEq (eVar 4) (eC (.int 0)))))) (aNil))))))))
def F_is_fraction : FD := cut (runDef 5 m_is_fraction)
/-- is_program(thing): 0 thing 1 one -/
def m_is_program : MS := sSeq (sIf (tOrS (tNotS (eTest (eCB (p2 pIsI) (aCons (eVar 0) (aCons (eC (.ty "tuple")) (aNil)))))) (tNotS (eTest (eCh pLe pLe (eC (.int 1)) (eCB (p1 pLen) (aCons (eVar 0) (aNil))) (eC (.int 16)))))) (sRet (eC (.bl false))) (sSkip)) (sRet (eCB (p1 pAll) (aCons (cutE (eCompO [1] (iAny (eVar 0)) (gNm 1) (tYesS) (eCall 1 F_is_fraction (aCons (eVar 1) (aNil))))) (aNil))))
def F_is_program : FD := cut (runDef 2 m_is_program)
/-- read(text): 0 text 1 found 2 word 3 parts 4 part -/
def m_read : MS := sSeq (sIf (tNotS (eTest (eCB (p2 pIsI) (aCons (eVar 0) (aCons (eC (.ty "str")) (aNil)))))) (sNever) (sSkip)) (sSeq (sAsg (eLstO (aNil)) (gNm 1)) (sSeq (sFor (iAny (eBM "str" pSplit (eVar 0) (aCons (eC (.str " ")) (aNil)))) (gNm 2) (sSeq (sAsg (cutE (eCompO [4] (iAny (eBM "str" pSplit (eVar 2) (aCons (eC (.str "/")) (aNil)))) (gNm 4) (tYesS) (eCall 1 F_number_in (aCons (eVar 4) (aNil))))) (gNm 3)) (sDrop (eBM "list" pAppend (eVar 1) (aCons (eCB (p1 pTuple) (aCons (eVar 3) (aNil))) (aNil)))))) (sSeq (sIf (tNotS (eTest (eCall 1 F_is_program (aCons (eCB (p1 pTuple) (aCons (eVar 1) (aNil))) (aNil))))) (sNever) (sSkip)) (sRet (eCB (p1 pTuple) (aCons (eVar 1) (aNil)))))))
def F_read : FD := cut (runDef 5 m_read)
end Mp.L

namespace Mp.L
open PySem L2 Mp
/-! ### the pot -/
def Pt (s : S) (i : Nat) (p : Int) : Prop := s[i]? = some (.lst [.int p])
def pt (s : S) (i : Nat) (p : Int) : S := s.set i (.lst [.int p])
section
variable {s t : S} {i : Nat} {p q : Int}
theorem Pt.lt (h : Pt s i p) : i < s.length := (List.getElem?_eq_some_iff.mp h).1
theorem Pt.pt (h : Pt s i p) : Pt (pt s i q) i q := by
  unfold Pt Mp.L.pt
  rw [List.getElem?_set_self h.lt]
@[simp] theorem pt_pt : pt (pt s i p) i q = pt s i q := by unfold pt; rw [List.set_set]
@[simp] theorem pt_len : (pt s i p).length = s.length := by unfold pt; simp
theorem pt_okT : okT s (pt s i p) = true := okT_set rfl _ _ _ (okT_refl s)
theorem Pt.app (h : Pt s i p) : Pt (s ++ t) i p := by unfold Pt; rw [List.getElem?_append_left h.lt]; exact h
theorem pt_app (h : i < s.length) : pt (s ++ t) i p = pt s i p ++ t := by unfold pt; rw [List.set_append_left _ _ h]
theorem pt_self (h : Pt s i p) : pt s i p = s := by
  unfold pt
  apply List.ext_getElem?
  intro j
  rw [List.getElem?_set]
  split
  · rename_i e
    subst e
    rw [if_pos h.lt]; exact h.symm
  · rfl
theorem take_ok {far : Int} {Q : D → S → Prop} (hs : Pt s i p) (h0 : 0 < far) (hb : far < 2 ^ 30) (q : Q (.int (p.fmod far)) (pt s i (p.fdiv far))) : OkE (F__law_take [.ref i, .int far] s) Q := by
  refine cut_ok ?_
  have h1 : far ≠ 0 := by omega
  have h2 : far.natAbs < 1073741824 := by omega
  have hs' : s[i]? = some (.lst [.int p]) := hs
  simp [m__law_take, hs', h1, h2, atI, ixN]
  exact .mk0 (s1 := pt s i (p.fdiv far)) pt_len pt_okT rfl q
/-- what was drawn: from 0 on, below far -/
theorem take_any {far : Int} {Q : D → S → Prop} (hs : Pt s i p) (h0 : 0 < far) (hb : far < 2 ^ 30) (q : ∀ c p', 0 ≤ c → c < far → Q (.int c) (pt s i p')) : OkE (F__law_take [.ref i, .int far] s) Q :=
  take_ok hs h0 hb (q _ _ (by rw [Int.fmod_eq_emod_of_nonneg _ (by omega)]; exact Int.emod_nonneg _ (by omega)) (Int.fmod_lt_of_pos _ h0))
theorem cell_ok {ns : List Int} {k : Int} {Q : D → S → Prop} (h : 0 ≤ k) (q : ∀ c, Q (.int c) s) : OkE (F__law_cell_at [.scr ns, .int k] s) Q := by
  refine cut_pure ?_
  by_cases hk : k < (ns.length : Int)
  · obtain ⟨n, rfl⟩ := Int.eq_ofNat_of_zero_le h
    have hn : n < ns.length := by omega
    simp [m__law_cell_at, hk, hn, atI, ixN]
    exact q _
  · simp [m__law_cell_at, hk]
    exact q _
theorem cutO_ok {N : Nat} {m : MS} {ds : List D} {Q : D → S → Prop} (h : OkS (m (ds.map some ++ List.replicate (N - ds.length) none) s) (fun _ _ => False)
    (fun d s' => ∃ s1 t j o, d = .ref (s.length + j) ∧ s' = s1 ++ t ∧ s1.length = s.length ∧ okT s s1 = true ∧ t[j]? = some o ∧ noRefO o = true ∧ Q (.ref s.length) (s1 ++ [o]))) : OkE (cutO (runDef N m) ds s) Q := by
  unfold cutO runDef
  cases q : m (ds.map some ++ List.replicate (N - ds.length) none) s with
  | nx e s' => rw [q] at h; exact h.elim
  | rt d s' =>
    rw [q] at h
    obtain ⟨s1, t, j, o, rfl, rfl, h1, h2, h3, h4, h5⟩ := h
    dsimp only
    rw [if_pos ⟨okT_more h2 t, by omega⟩]
    rw [show (s1 ++ t)[s.length + j]? = some o by rw [← h1, List.getElem?_append_right (by omega)]; simpa using h3]
    dsimp only
    rw [if_pos h4, ← h1, List.take_left]
    rw [← h1] at h5
    exact h5
  | bk _ _ => rw [q] at h; exact h.elim
  | ct _ _ => rw [q] at h; exact h.elim
  | ex _ _ _ => rw [q] at h; exact h.elim
  | stuck => rw [q] at h; exact h.elim
theorem small_fmod {a b : Int} (h : 0 < b) (hb : b ≤ 2 ^ 32) : -(2 ^ 64) < a.fmod b ∧ a.fmod b < 2 ^ 64 := by
  have h1 : 0 ≤ a.fmod b := by rw [Int.fmod_eq_emod_of_nonneg _ (by omega)]; exact Int.emod_nonneg _ (by omega)
  have h2 := Int.fmod_lt_of_pos a h
  omega
theorem rgD_at {lo : Int} {n k : Nat} {d : D} (h : (rgD lo n)[k]? = some d) : k < n ∧ d = .int (lo + (k : Int)) := by
  unfold rgD at h
  rw [List.getElem?_map] at h
  by_cases hk : k < n
  · rw [List.getElem?_range hk] at h
    exact ⟨hk, by simpa using h.symm⟩
  · rw [List.getElem?_eq_none (by simpa using hk)] at h; cases h
@[simp] theorem rgD_len {lo : Int} {n : Nat} : (rgD lo n).length = n := by simp [rgD]
theorem pot_ok {c : Int} {Q : D → S → Prop} (q : ∀ p, Q (.ref s.length) (s ++ [.lst [.int p]])) : OkE (F__law_pot [.int c] s) Q := by
  refine cutO_ok ?_
  unfold m__law_pot
  by_cases hc : (1000000000000000000 : Int) ≤ c
  · simp [hc, big]
    exact ⟨s, ⟨[.lst [.int (c - 1000000000000000000)]], rfl, rfl, okT_refl s, _, rfl, rfl, q _⟩⟩
  · simp [hc, smallI]
    refine for_ok (fun _ e s' => ∃ (n : Int) (x y : Option D), e = [some (.int c), some (.int n), x, y] ∧ s' = s) ⟨0, none, none, rfl, rfl⟩ (fun _ _ _ _ => rfl) ?_ ?_
    · rintro k d e s' hd ⟨n, x, y, rfl, rfl⟩
      obtain ⟨hk, rfl⟩ := rgD_at hd
      refine ⟨_, gNm_eq, ?_⟩
      have h1 : ∀ a : Int, cMul (a.fmod 2147483647) (a.fmod 2147483647) = true := fun a => decide_eq_true (.inl (small_fmod (by decide) (by decide)))
      have h2 : ∀ a : Int, cMul 7919 a = true := fun a => decide_eq_true (.inl (by decide))
      have h3 : ∀ a : Int, cMul 69621 a = true := fun a => decide_eq_true (.inl (by decide))
      have h4 : ∀ a : Int, cMul a 48271 = true := fun a => decide_eq_true (.inr (by decide))
      have h5 : ∀ a : Int, cMul a 2147483587 = true := fun a => decide_eq_true (.inr (by decide))
      simp [h1, h2, h3, h4, h5]
    · rintro e s' ⟨n, x, y, rfl, rfl⟩
      simp [big]
      exact ⟨s', ⟨[.lst [.int n]], rfl, rfl, okT_refl s', _, rfl, rfl, q _⟩⟩
/-! ### an order -/
theorem insert_perm {xs : List Int} {k : Nat} (hx : xs.Perm ((List.range k).map fun (i : Nat) => (i : Int))) (j : Nat) : (xs.take j ++ [(k : Int)] ++ xs.drop j).Perm ((List.range (k + 1)).map fun (i : Nat) => (i : Int)) := by
  rw [List.range_succ, List.map_append, List.append_assoc]
  refine (List.perm_middle (l₁ := xs.take j) (a := (k : Int)) (l₂ := xs.drop j)).trans ?_
  rw [List.take_append_drop]
  refine (List.Perm.cons _ hx).trans ?_
  exact List.perm_append_comm (l₁ := [(k : Int)])
theorem order_ok {w : Int} {Q : D → S → Prop} (hs : Pt s i p) (h0 : 0 ≤ w) (hw : w ≤ 20) (q : ∀ (xs : List Int) (p' : Int), xs.Perm ((List.range w.toNat).map fun (i : Nat) => (i : Int)) → Q (.tup (xs.map .int)) (pt s i p')) : OkE (F__law_order [.ref i, .int w] s) Q := by
  refine cut_ok ?_
  unfold m__law_order
  have hsm : smallI w = true := by unfold smallI; exact decide_eq_true (by omega)
  simp [big, hsm]
  refine for_ok (fun k e s' => ∃ (xs : List Int) (p' : Int) (x : Option D), e = [some (.ref i), some (.int w), some (.ref s.length), x] ∧ s' = pt s i p' ++ [.lst (xs.map .int)] ∧ xs.Perm ((List.range k).map fun (i : Nat) => (i : Int)))
    ⟨[], p, none, rfl, by rw [pt_self hs]; rfl, .refl _⟩ (fun _ _ _ _ => rfl) ?_ ?_
  · rintro k d e s' hd ⟨xs, p', x, rfl, rfl, hx⟩
    obtain ⟨hk, rfl⟩ := rgD_at hd
    refine ⟨_, gNm_eq, ?_⟩
    have hlen : xs.length = k := by rw [hx.length_eq]; simp
    have hat : (pt s i p' ++ [O.lst (xs.map .int)])[s.length]? = some (.lst (xs.map .int)) := by rw [← pt_len (s := s) (i := i) (p := p')]; simp
    rw [okS_drop]
    simp [tyM_ref hat]
    refine take_any (hs.pt.app) (by omega) (by omega) fun c p2 h0 hc => ?_
    rw [pt_app (by rw [pt_len]; exact hs.lt), pt_pt]
    have hat2 : (pt s i p2 ++ [O.lst (xs.map .int)])[s.length]? = some (.lst (xs.map .int)) := by rw [← pt_len (s := s) (i := i) (p := p2)]; simp
    rw [pInsert_ref hat2 (by rw [List.length_map, hlen]; unfold big; omega) h0 (by omega)]
    refine ⟨xs.take c.toNat ++ [(k : Int)] ++ xs.drop c.toNat, ⟨p2, ?_⟩, insert_perm hx _⟩
    rw [← pt_len (s := s) (i := i) (p := p2)]
    simp
  · rintro e s' ⟨xs, p', x, rfl, rfl, hx⟩
    have hat : (pt s i p' ++ [O.lst (xs.map .int)])[s.length]? = some (.lst (xs.map .int)) := by rw [← pt_len (s := s) (i := i) (p := p')]; simp
    rw [rgD_len] at hx
    simp [hat]
    exact .mk _ pt_len pt_okT (noRefs_int _) (q xs p' hx)
end
end Mp.L

namespace Mp.L
open PySem L2 Mp
section
variable {s t : S} {i : Nat} {p : Int}
theorem cutD_to {ds : List D} {w : Int} (h : 0 ≤ w) : cutD ds none (some w) = ds.take w.toNat := by
  unfold cutD
  show (ds.drop 0).take ((if w < 0 then (w + (ds.length : Int)).toNat else min w.toNat ds.length) - 0) = _
  rw [if_neg (by omega), List.drop_zero, Nat.sub_zero, List.take_eq_take_iff]
  omega
theorem rgD_zero {n : Nat} : rgD 0 n = ((List.range n).map fun (i : Nat) => (i : Int)).map .int := by
  unfold rgD; rw [List.map_map]
  exact List.map_congr_left fun a _ => by simp
theorem range_nodup (n : Nat) : ((List.range n).map fun (i : Nat) => (i : Int)).Nodup := by
  unfold List.Nodup
  rw [List.pairwise_map]
  exact List.nodup_range.imp fun h e => h (by omega)
theorem in_range {n : Nat} {x : Int} (h : x ∈ (List.range n).map fun (i : Nat) => (i : Int)) : 0 ≤ x ∧ x < n := by
  obtain ⟨a, ha, rfl⟩ := List.mem_map.mp h
  have := List.mem_range.mp ha
  omega
theorem places_ok {Q : D → S → Prop} (hs : Pt s i p) (q : ∀ (xs : List Int) (p' : Int), xs.Nodup → (∀ x ∈ xs, 0 ≤ x ∧ x < 10) → 1 ≤ xs.length → xs.length ≤ 5 → Q (.tup (xs.map .int)) (pt s i p')) : OkE (F__law_places [.ref i] s) Q := by
  refine cut_ok ?_
  unfold m__law_places
  simp
  refine take_any hs (by decide) (by decide) fun w p1 h0 h5 => ?_
  refine take_any hs.pt (by decide) (by decide) fun c p2 g0 g2 => ?_
  rw [pt_pt]
  by_cases hc : c = 0
  · subst hc
    have h1 : -1000 ≤ 1 + w ∧ 1 + w ≤ 10000 := by omega
    simp [h1]
    refine .mk0 (s1 := pt s i p2) pt_len pt_okT (by rw [rgD_zero]; exact noRefs_int _) ?_
    rw [rgD_zero]
    refine q _ p2 (range_nodup _) (fun x hx => ?_) (by simp; omega) (by simp; omega)
    have := in_range hx
    omega
  · simp [hc]
    refine order_ok hs.pt (by decide) (by decide) fun xs p3 hx => ?_
    rw [pt_pt]
    refine .mk0 (s1 := pt s i p3) pt_len pt_okT (by rw [cutD_to (by omega), ← List.map_take]; exact noRefs_int _) ?_
    rw [cutD_to (by omega), ← List.map_take]
    have hl : xs.length = 10 := by rw [hx.length_eq]; simp
    refine q _ p3 ((hx.nodup_iff.mpr (range_nodup _)).sublist (List.take_sublist _ _)) (fun x hx' => ?_) (by rw [List.length_take]; omega) (by rw [List.length_take]; omega)
    have := in_range (hx.mem_iff.mp (List.mem_of_mem_take hx'))
    have e : ((Int.toNat 10 : Nat) : Int) = 10 := rfl
    omega

/-! ### products of primes -/
def PR : List Int := [2, 3, 5, 7, 11, 13, 17, 19, 23, 29]
theorem PR_pos : ∀ a ∈ PR, 1 < a ∧ a < 30 := by decide
def prd : List Int → List Int → Int
  | a :: as, n :: ns => a ^ n.toNat * prd as ns
  | _, _ => 1
theorem prd_take : ∀ {as ns : List Int} {k : Nat} {a n : Int}, as[k]? = some a → ns[k]? = some n → prd (as.take (k + 1)) (ns.take (k + 1)) = prd (as.take k) (ns.take k) * a ^ n.toNat
  | [], ns, k, a, n, h, _ => by simp at h
  | b :: as, [], k, a, n, _, h => by simp at h
  | b :: as, m :: ns, 0, a, n, h, h' => by
    simp at h h'
    subst h h'
    simp [prd]
  | b :: as, m :: ns, k + 1, a, n, h, h' => by
    have ih := prd_take (as := as) (ns := ns) (k := k) (a := a) (n := n) (by simpa using h) (by simpa using h')
    simp only [List.take_succ_cons, prd]
    rw [ih, Int.mul_assoc]
theorem prd_all : ∀ (as ns : List Int) (k : Nat), min as.length ns.length ≤ k → prd (as.take k) (ns.take k) = prd as ns
  | [], ns, k, _ => by simp [prd]
  | b :: as, [], k, _ => by cases k <;> simp [prd]
  | b :: as, m :: ns, 0, h => by simp at h
  | b :: as, m :: ns, k + 1, h => by
    simp only [List.take_succ_cons, prd]
    rw [prd_all as ns k (by simp at h; omega)]
theorem zip2_at {as bs : List D} {k : Nat} {d : D} (h : (zip2D as bs)[k]? = some d) : ∃ a b, as[k]? = some a ∧ bs[k]? = some b ∧ d = .tup [a, b] := by
  unfold zip2D at h
  rw [List.getElem?_zipWith] at h
  cases ha : as[k]? with
  | none => rw [ha] at h; simp at h
  | some a =>
    cases hb : bs[k]? with
    | none => rw [ha, hb] at h; simp at h
    | some b => rw [ha, hb] at h; exact ⟨a, b, rfl, rfl, by simpa using h.symm⟩
theorem map_at {α β : Type} {f : α → β} {xs : List α} {k : Nat} {d : β} (h : (xs.map f)[k]? = some d) : ∃ a, xs[k]? = some a ∧ d = f a := by
  rw [List.getElem?_map] at h
  cases ha : xs[k]? with
  | none => rw [ha] at h; simp at h
  | some a => rw [ha] at h; exact ⟨a, rfl, by simpa using h.symm⟩
theorem zip2_len {as bs : List D} : (zip2D as bs).length = min as.length bs.length := by simp [zip2D]
theorem primes_eq : F__law_primes [] s = .ok (.tup (PR.map .int)) s := by
  have h : OkE (F__law_primes [] s) fun d s' => d = .tup (PR.map .int) ∧ s' = s := by
    refine cut_pure ?_
    simp [m__law_primes, big, PR]
  obtain ⟨d, s', h1, rfl, rfl⟩ := h.ex
  exact h1
theorem product_ok {d : D} {l : List Int} {Q : D → S → Prop} (hv : ∀ t, viewS (s ++ t) d = some (l.map .int)) (hg : gdOf d (l.map .int) = []) (hl : ∀ x ∈ l, -(2 ^ 62) ≤ x ∧ x < 2 ^ 62) (q : Q (.int (prd PR l)) s) : OkE (F__law_product [d] s) Q := by
  refine cut_pure ?_
  unfold m__law_product
  have hv0 := hv []
  rw [List.append_nil] at hv0
  simp [primes_eq, hv0, hg]
  refine for_ok (fun k e s' => ∃ (x y z : Option D), e = [some d, some (.int (prd (PR.take k) (l.take k))), x, y, z] ∧ s' = s) ⟨none, none, none, rfl, rfl⟩ (fun _ _ _ _ => rfl) ?_ ?_
  · rintro k d' e s' hd ⟨x, y, z, rfl, rfl⟩
    obtain ⟨_, _, ha0, hb0, rfl⟩ := zip2_at hd
    obtain ⟨a, ha, rfl⟩ := map_at ha0
    obtain ⟨b, hb, rfl⟩ := map_at hb0
    refine ⟨[some d, some (.int (prd (PR.take k) (l.take k))), some (.int a), some (.int b), z], by simp, ?_⟩
    have hsm : smallI b = true := decide_eq_true (hl b (List.mem_of_getElem? hb))
    simp [hsm]
    refine for_ok (fun j e s'' => ∃ (z : Option D), e = [some d, some (.int (prd (PR.take k) (l.take k) * a ^ j)), some (.int a), some (.int b), z] ∧ s'' = s') ⟨z, by simp, rfl⟩ (fun _ _ _ _ => rfl) ?_ ?_
    · rintro j d2 e s2 hd2 ⟨z, rfl, rfl⟩
      refine ⟨_, gNm_eq, ?_⟩
      have hp := PR_pos a (List.mem_of_getElem? ha)
      have hc : ∀ f : Int, cMul f a = true := fun f => decide_eq_true (.inr (by omega))
      simp [hc]
      rw [Int.pow_succ, Int.mul_assoc]
    · rintro e s2 ⟨z, rfl, rfl⟩
      rw [rgD_len]
      rw [prd_take ha hb]
      simp
  · rintro e s' ⟨x, y, z, rfl, rfl⟩
    simp
    rw [prd_all _ _ _ (by rw [zip2_len]; simp)]
    exact q
theorem _root_.Mp.OkE.eq {α : Type} {r : Res α} {a : α} {s : S} (h : OkE r fun b s' => b = a ∧ s' = s) : r = .ok a s := by
  obtain ⟨b, s', h1, rfl, rfl⟩ := h.ex
  exact h1
theorem comp_ints {it : MI} {f : ME} {e : Sl} {j : Nat} {gd : Gd} {l : List Int} {Q : D → S → Prop} (h : Int → Int) (hit : it e s = .ok (l.map .int, gd) s) (hgd : ∀ t, gdOk (s ++ t) gd = true) (hb : l.length ≤ big)
    (hst : ∀ x ∈ l, ∀ t, OkE (f ((wipeD e [j]).set j (some (.int x))) (s ++ t)) fun d s' => d = .int (h x) ∧ s' = s ++ t) (hq : Q (.lst ((l.map h).map .int)) s) : OkE (cutE (eCompO [j] it (gNm j) tYesS f) e s) Q := by
  refine comp_map (xs := l.map .int) (gd := gd) (fun d => match d with
    | .int x => .int (h x)
    | d => d) hit hgd (by simpa using hb) (fun d hd t => ?_) (fun d hd => ?_) ?_
  · obtain ⟨x, hx, rfl⟩ := List.mem_map.mp hd
    exact ⟨_, rfl, (hst x hx t).eq⟩
  · obtain ⟨x, hx, rfl⟩ := List.mem_map.mp hd
    rfl
  · rw [List.map_map] at hq ⊢
    exact hq
/-! ### fractions drawn -/
def pos (x : Int) : Int := if x > 0 then x else 0
def neg (x : Int) : Int := if 0 - x > 0 then 0 - x else 0
def sm (g : Int → Int) : List Int → Int
  | [] => 0
  | x :: xs => g x + sm g xs
theorem sm_set {g : Int → Int} : ∀ {f : List Int} {j : Nat} {u v : Int}, f[j]? = some u → sm g (f.set j v) = sm g f - g u + g v
  | [], j, u, v, h => by simp at h
  | x :: f, 0, u, v, h => by
    simp at h; subst h
    simp only [List.set_cons_zero, sm]; omega
  | x :: f, j + 1, u, v, h => by
    have ih := sm_set (g := g) (f := f) (j := j) (u := u) (v := v) (by simpa using h)
    simp only [List.set_cons_succ, sm]; omega
theorem pos_nn (x : Int) : 0 ≤ pos x := by unfold pos; split <;> omega
theorem neg_nn (x : Int) : 0 ≤ neg x := by unfold neg; split <;> omega
theorem pos_up (x : Int) : pos (x + 1) ≤ pos x + 1 ∧ neg (x + 1) ≤ neg x := by unfold pos neg; constructor <;> (repeat' split) <;> omega
theorem pos_dn (x : Int) : pos (x - 1) ≤ pos x ∧ neg (x - 1) ≤ neg x + 1 := by unfold pos neg; constructor <;> (repeat' split) <;> omega
theorem sm_nn {g : Int → Int} (hg : ∀ x, 0 ≤ g x) : ∀ f : List Int, 0 ≤ sm g f
  | [] => by simp [sm]
  | x :: f => by have := sm_nn hg f; have := hg x; simp only [sm]; omega
theorem sm_mem {g : Int → Int} (hg : ∀ x, 0 ≤ g x) : ∀ {f : List Int} {x : Int}, x ∈ f → g x ≤ sm g f
  | y :: f, x, h => by
    have h1 := sm_nn hg f
    have h2 := hg y
    simp only [sm]
    rcases List.mem_cons.mp h with e | e
    · subst e; omega
    · have := sm_mem hg e; omega
/-- what a fraction is made of: above where it is above 0, below where it is below -/
structure Frac (pl : List Int) (f : List Int) : Prop where
  len : f.length = 10
  up : sm pos f ≤ 3
  dn : sm neg f ≤ 3
  at_ : ∀ (j : Nat) (v : Int), f[j]? = some v → v ≠ 0 → (j : Int) ∈ pl
def fracD (f : List Int) : D := .tup [.int (prd PR (f.map pos)), .int (prd PR (f.map neg))]
theorem atI_int {xs : List Int} {c : Int} (h0 : 0 ≤ c) (h : c < xs.length) : ∃ v, xs[c.toNat]? = some v ∧ atI (xs.map D.int) c = some (.int v) := by
  obtain ⟨n, rfl⟩ := Int.eq_ofNat_of_zero_le h0
  have hn : n < xs.length := by omega
  refine ⟨xs[n], by simp [hn], ?_⟩
  have := atI_nat (xs := xs.map D.int) (k := n) (by simpa using hn)
  rw [this]; simp
theorem ixN_int {n : Nat} {c : Int} (h0 : 0 ≤ c) (h : c < n) : ixN n c = some c.toNat := by
  unfold ixN; rw [if_pos h0, if_pos h]
/-- the state while a list is filled by draws -/
def dr (s : S) (i : Nat) (p : Int) (f : List Int) : S := pt s i p ++ [.lst (f.map .int)]
theorem dr_at {f : List Int} : (dr s i p f)[s.length]? = some (.lst (f.map .int)) := by
  unfold dr; rw [← pt_len (s := s) (i := i) (p := p)]; simp
theorem dr_set {f g : List Int} : (dr s i p f).set s.length (.lst (g.map .int)) = dr s i p g := by
  unfold dr
  have e : s.length = (pt s i p).length := pt_len.symm
  rw [e]; simp
theorem dr_set1 {f : List Int} {n : Nat} {v : Int} : (dr s i p f).set s.length (.lst ((f.map .int).set n (.int v))) = dr s i p (f.set n v) := by
  rw [show (f.map D.int).set n (D.int v) = (f.set n v).map D.int from (List.map_set ..).symm, dr_set]
theorem dr_take {f : List Int} {far : Int} {Q : D → S → Prop} (hs : i < s.length) (h0 : 0 < far) (hb : far < 2 ^ 30) (q : ∀ c p', 0 ≤ c → c < far → Q (.int c) (dr s i p' f)) : OkE (F__law_take [.ref i, .int far] (dr s i p f)) Q := by
  have h : Pt (dr s i p f) i p := by
    unfold dr Pt
    rw [List.getElem?_append_left (by rw [pt_len]; exact hs)]
    unfold pt; rw [List.getElem?_set_self hs]
  refine take_any h h0 hb fun c p' a b => ?_
  have := q c p' a b
  unfold dr at this ⊢
  rw [pt_app (by rw [pt_len]; exact hs), pt_pt]
  exact this
theorem dr_end {d : D} {f : List Int} {Q : D → S → Prop} (hn : noRef d = true) (q : Q d (pt s i p)) : Out s Q d (dr s i p f) := .mk _ pt_len pt_okT hn q
theorem frac_step {pl f : List Int} {j : Nat} {u v : Int} (hl : f.length = 10) (hj : (j : Int) ∈ pl) (hf : f[j]? = some u) (ha : ∀ (j : Nat) (v : Int), f[j]? = some v → v ≠ 0 → (j : Int) ∈ pl) : ∀ (k : Nat) (w : Int), (f.set j v)[k]? = some w → w ≠ 0 → (k : Int) ∈ pl := by
  intro k w hk hw
  rw [List.getElem?_set] at hk
  split at hk
  · rename_i e; subst e; exact hj
  · exact ha k w hk hw
theorem fraction_ok {pl : List Int} {Q : D → S → Prop} (hs : Pt s i p) (h1 : 1 ≤ pl.length) (h2 : pl.length ≤ 10) (hp : ∀ x ∈ pl, 0 ≤ x ∧ x < 10) (q : ∀ (f : List Int) (p' : Int), Frac pl f → Q (fracD f) (pt s i p')) : OkE (F__law_fraction [.ref i, .tup (pl.map .int)] s) Q := by
  refine cut_ok ?_
  unfold m__law_fraction
  have e0 : s ++ [O.lst [.int 0, .int 0, .int 0, .int 0, .int 0, .int 0, .int 0, .int 0, .int 0, .int 0]] = dr s i p [0, 0, 0, 0, 0, 0, 0, 0, 0, 0] := by
    unfold dr; rw [pt_self hs]; rfl
  simp [big]
  rw [e0]
  refine dr_take hs.lt (by decide) (by decide) fun c p1 c0 c4 => ?_
  have hsm : smallI c = true := decide_eq_true (by omega)
  simp [hsm]
  have hlen : (0 : Int) < (pl.length : Int) ∧ (pl.length : Int) < 2 ^ 30 := by omega
  refine for_ok (fun k e s' => ∃ (f : List Int) (p' : Int) (x y : Option D), e = [some (.ref i), some (.tup (pl.map .int)), some (.ref s.length), x, y, none, none, none] ∧ s' = dr s i p' f ∧ f.length = 10 ∧ sm pos f ≤ k ∧ sm neg f ≤ 0 ∧ ∀ (j : Nat) (v : Int), f[j]? = some v → v ≠ 0 → (j : Int) ∈ pl)
    ⟨_, p1, none, none, rfl, rfl, rfl, by decide, by decide, fun j v hj hv => absurd hj ?_⟩ (fun _ _ _ _ => rfl) ?_ ?_
  · intro hj
    have := List.mem_of_getElem? hj
    simp at this
    exact hv this
  · rintro k d e s' hd ⟨f, p', x, y, rfl, rfl, hf, hup, hdn, hat⟩
    refine ⟨_, gNm_eq, ?_⟩
    simp
    refine dr_take hs.lt hlen.1 hlen.2 fun c p2 c0 c1 => ?_
    obtain ⟨v, hv, hv'⟩ := atI_int c0 c1
    have hv2 := hp v (List.mem_of_getElem? hv)
    obtain ⟨u, hu, hu'⟩ := atI_int (xs := f) hv2.1 (by omega)
    have hix : ixN f.length v = some v.toNat := ixN_int hv2.1 (by omega)
    simp [hv', dr_at, hu', hix]
    refine ⟨f.set v.toNat (u + 1), ⟨p2, ?_⟩, by simpa using hf, ?_, ?_, ?_⟩
    · exact dr_set1
    · rw [sm_set hu]; have := (pos_up u).1; push_cast; omega
    · rw [sm_set hu]; have := (pos_up u).2; omega
    · exact frac_step hf (by rw [Int.toNat_of_nonneg hv2.1]; exact List.mem_of_getElem? hv) hu hat
  · rintro e s' ⟨f, p', x, y, rfl, rfl, hf, hup, hdn, hat⟩
    rw [rgD_len] at hup
    simp
    refine dr_take hs.lt (by decide) (by decide) fun c2 p2 g0 g4 => ?_
    have hsm : smallI c2 = true := decide_eq_true (by omega)
    simp [hsm]
    refine for_ok (fun k e s' => ∃ (f : List Int) (p' : Int) (x y : Option D), e = [some (.ref i), some (.tup (pl.map .int)), some (.ref s.length), x, y, none, none, none] ∧ s' = dr s i p' f ∧ f.length = 10 ∧ sm pos f ≤ 3 ∧ sm neg f ≤ k ∧ ∀ (j : Nat) (v : Int), f[j]? = some v → v ≠ 0 → (j : Int) ∈ pl)
      ⟨f, p2, x, y, rfl, rfl, hf, by omega, hdn, hat⟩ (fun _ _ _ _ => rfl) ?_ ?_
    · rintro k d e s' hd ⟨f, p', x, y, rfl, rfl, hf, hup, hdn, hat⟩
      refine ⟨_, gNm_eq, ?_⟩
      simp
      refine dr_take hs.lt hlen.1 hlen.2 fun c p2 c0 c1 => ?_
      obtain ⟨v, hv, hv'⟩ := atI_int c0 c1
      have hv2 := hp v (List.mem_of_getElem? hv)
      obtain ⟨u, hu, hu'⟩ := atI_int (xs := f) hv2.1 (by omega)
      have hix : ixN f.length v = some v.toNat := ixN_int hv2.1 (by omega)
      simp [hv', dr_at, hu', hix]
      refine ⟨f.set v.toNat (u - 1), ⟨p2, ?_⟩, by simpa using hf, ?_, ?_, ?_⟩
      · exact dr_set1
      · rw [sm_set hu]; have := (pos_dn u).1; omega
      · rw [sm_set hu]; have := (pos_dn u).2; push_cast; omega
      · exact frac_step hf (by rw [Int.toNat_of_nonneg hv2.1]; exact List.mem_of_getElem? hv) hu hat
    · rintro e s' ⟨f, p', x, y, rfl, rfl, hf, hup, hdn, hat⟩
      rw [rgD_len] at hdn
      have F : Frac pl f := ⟨hf, hup, by omega, hat⟩
      simp
      have hgd : ∀ t, gdOk (dr s i p' f ++ t) [(s.length, f.map D.int)] = true := fun t => by
        unfold gdOk
        rw [List.all_cons, List.getElem?_append_left (by unfold dr; simp), dr_at]
        simp [sames_refl]
      refine comp_ints (l := f) (gd := [(s.length, f.map D.int)]) pos (by
        apply OkE.eq
        simp [itOf, dr_at]) hgd (by rw [hf]; decide) (fun x _ t => by simp [wipeD, pos]) ?_
      simp
      refine comp_ints (l := f) (gd := [(s.length, f.map D.int)]) neg (by
        apply OkE.eq
        simp [itOf, dr_at]) hgd (by rw [hf]; decide) (fun x _ t => by simp [wipeD, neg]) ?_
      have hup' : ∀ x ∈ f.map pos, -(2 ^ 62) ≤ x ∧ x < 2 ^ 62 := fun x hx => by
        obtain ⟨y, hy, rfl⟩ := List.mem_map.mp hx
        have h1 := pos_nn y
        have h2 := sm_mem pos_nn hy
        omega
      have hdn' : ∀ x ∈ f.map neg, -(2 ^ 62) ≤ x ∧ x < 2 ^ 62 := fun x hx => by
        obtain ⟨y, hy, rfl⟩ := List.mem_map.mp hx
        have h1 := neg_nn y
        have h2 := sm_mem neg_nn hy
        have h3 := F.dn
        omega
      simp [-List.map_map]
      refine product_ok (l := f.map pos) (fun _ => by rw [List.map_map]; rfl) rfl hup' ?_
      refine product_ok (l := f.map neg) (fun _ => by rw [List.map_map]; rfl) rfl hdn' ?_
      exact dr_end (by rfl) (q f p' F)
/-! ### programs, lines drawn -/
theorem program_ok {pl : List Int} {most : Int} {Q : D → S → Prop} (hs : Pt s i p) (h1 : 1 ≤ pl.length) (h2 : pl.length ≤ 10) (hp : ∀ x ∈ pl, 0 ≤ x ∧ x < 10) (hm : 1 ≤ most) (hm2 : most ≤ 1000)
    (q : ∀ (fs : List (List Int)) (p' : Int), 1 ≤ fs.length → (fs.length : Int) ≤ most → (∀ f ∈ fs, Frac pl f) → Q (.tup (fs.map fracD)) (pt s i p')) : OkE (F__law_program [.ref i, .tup (pl.map .int), .int most] s) Q := by
  refine cut_ok ?_
  unfold m__law_program
  simp
  have hit : ∃ (n : Nat) (p1 : Int), 1 ≤ n ∧ (n : Int) ≤ most ∧ iRng1 (eOp pAdd (eC (.int 1)) (eCall 2 F__law_take (aCons (eVar 0) (aCons (eVar 2) aNil)))) [some (.ref i), some (.tup (pl.map .int)), some (.int most), none] s = .ok (rgD 0 n, []) (pt s i p1) := by
    have h : OkE (iRng1 (eOp pAdd (eC (.int 1)) (eCall 2 F__law_take (aCons (eVar 0) (aCons (eVar 2) aNil)))) [some (.ref i), some (.tup (pl.map .int)), some (.int most), none] s) fun r s' => ∃ (n : Nat) (p1 : Int), 1 ≤ n ∧ (n : Int) ≤ most ∧ r = (rgD 0 n, []) ∧ s' = pt s i p1 := by
      simp
      refine take_any hs (by omega) (by omega) fun c p1 c0 c1 => ?_
      have hsm : smallI (1 + c) = true := decide_eq_true (by omega)
      simp [hsm]
      exact ⟨(1 + c).toNat, by omega, by omega, rfl, p1, rfl⟩
    obtain ⟨r, s', h1, n, p1, h2, h3, rfl, rfl⟩ := h.ex
    exact ⟨n, p1, h2, h3, h1⟩
  obtain ⟨n, p1, n1, n2, hit⟩ := hit
  refine comp_inv hit pt_len (fun k acc s1 => ∃ (fs : List (List Int)) (p' : Int), acc = fs.map fracD ∧ fs.length = k ∧ (∀ f ∈ fs, Frac pl f) ∧ s1 = pt s i p') ⟨[], p1, rfl, rfl, fun f hf => by simp at hf, rfl⟩ ?_ (by rw [rgD_len]; unfold big; omega) ?_ ?_
  · rintro k acc s1 ⟨fs, p', rfl, h3, h4, rfl⟩
    exact ⟨pt_len, by simp [h3], rfl⟩
  · rintro k x acc s1 hx ⟨fs, p', rfl, h3, h4, rfl⟩
    refine ⟨_, rfl, .inl ⟨rfl, ?_⟩⟩
    have h : OkE (eCall 2 F__law_fraction (aCons (eVar 0) (aCons (eVar 1) aNil)) ((wipeD [some (.ref i), some (.tup (pl.map .int)), some (.int most), none] [3]).set 3 (some x)) (pt s i p' ++ [.lst (fs.map fracD)])) fun d s' => ∃ (f : List Int) (p2 : Int), Frac pl f ∧ d = fracD f ∧ s' = pt s i p2 ++ [.lst (fs.map fracD)] := by
      simp [wipeD]
      refine fraction_ok hs.pt.app h1 h2 hp fun f p2 hf => ⟨f, hf, rfl, p2, ?_⟩
      rw [pt_app (by rw [pt_len]; exact hs.lt), pt_pt]
    obtain ⟨d, s', e1, f, p2, hf, rfl, rfl⟩ := h.ex
    exact ⟨_, _, e1, fs ++ [f], p2, by simp, by simp [h3], fun g hg => by
      rcases List.mem_append.mp hg with hg | hg
      · exact h4 g hg
      · have : g = f := by simpa using hg
        rw [this]; exact hf, rfl⟩
  · rintro acc s1 ⟨fs, p', rfl, h3, h4, rfl⟩
    rw [rgD_len] at h3
    have hn : noRefs (fs.map fracD) = true := noRefs_of fun d hd => by
      obtain ⟨f, hf, rfl⟩ := List.mem_map.mp hd
      rfl
    refine ⟨pt_okT, hn, ?_⟩
    simp
    exact .mk0 pt_len pt_okT hn (q fs p' (by omega) (by omega) h4)
theorem line_ok {pl : List Int} {most : Int} {Q : D → S → Prop} (hs : Pt s i p) (hp : ∀ x ∈ pl, 0 ≤ x ∧ x < 10) (hm : 0 ≤ most) (hm2 : most < 2 ^ 29)
    (q : ∀ (l : List Int) (p' : Int), l.length = 10 → (∀ x ∈ l, 0 ≤ x ∧ x ≤ most) → Q (.tup (l.map .int)) (pt s i p')) : OkE (F__law_line [.ref i, .tup (pl.map .int), .int most] s) Q := by
  refine cut_ok ?_
  unfold m__law_line
  have e0 : s ++ [O.lst [.int 0, .int 0, .int 0, .int 0, .int 0, .int 0, .int 0, .int 0, .int 0, .int 0]] = dr s i p [0, 0, 0, 0, 0, 0, 0, 0, 0, 0] := by
    unfold dr; rw [pt_self hs]; rfl
  simp [big]
  rw [e0]
  have upd : ∀ (f : List Int) (n : Nat) (v : Int), (∀ x ∈ f, 0 ≤ x ∧ x ≤ most) → 0 ≤ v → v ≤ most → ∀ x ∈ f.set n v, 0 ≤ x ∧ x ≤ most := fun f n v h h1 h2 x hx => by
    rcases List.mem_or_eq_of_mem_set hx with hx | hx
    · exact h x hx
    · subst hx; exact ⟨h1, h2⟩
  refine for_ok (fun k e s' => ∃ (f : List Int) (p' : Int) (x : Option D), e = [some (.ref i), some (.tup (pl.map .int)), some (.int most), some (.ref s.length), x] ∧ s' = dr s i p' f ∧ f.length = 10 ∧ ∀ x ∈ f, 0 ≤ x ∧ x ≤ most)
    ⟨_, p, none, rfl, rfl, rfl, fun x hx => ?_⟩ (fun _ _ _ _ => rfl) ?_ ?_
  · have : x = 0 := by simpa using hx
    omega
  · rintro k d e s' hd ⟨f, p', x, rfl, rfl, hf, hb⟩
    obtain ⟨v, hv, rfl⟩ := map_at hd
    have hv2 := hp v (List.mem_of_getElem? hv)
    refine ⟨_, gNm_eq, ?_⟩
    have hix : ixN f.length v = some v.toNat := ixN_int hv2.1 (by omega)
    simp
    refine dr_take hs.lt (by omega) (by omega) fun c p2 c0 c1 => ?_
    simp [dr_at, hix]
    exact ⟨f.set v.toNat c, ⟨p2, dr_set1⟩, by simpa using hf, upd _ _ _ hb c0 (by omega)⟩
  · rintro e s' ⟨f, p', x, rfl, rfl, hf, hb⟩
    simp
    refine dr_take hs.lt (by decide) (by decide) fun c p2 c0 c1 => ?_
    by_cases hc : c = 0
    · subst hc
      simp
      refine dr_take hs.lt (by omega) (by omega) fun c p3 c0 c1 => ?_
      refine dr_take hs.lt (by decide) (by decide) fun v p4 g0 g1 => ?_
      have hix : ixN f.length v = some v.toNat := ixN_int g0 (by omega)
      simp [dr_at, hix, dr_set1]
      rw [show (f.map D.int).set v.toNat (D.int c) = (f.set v.toNat c).map D.int from (List.map_set ..).symm]
      exact dr_end (noRefs_int _) (q _ _ (by simpa using hf) (upd _ _ _ hb c0 (by omega)))
    · simp [hc, dr_at]
      exact dr_end (noRefs_int _) (q _ _ hf hb)
end
end Mp.L

namespace Mp.L
open PySem L2 Mp
section
variable {s t : S} {i : Nat} {p : Int}
/-! ### the same -/
def Sh : Nat → D → Prop
  | 0, d => flatD d = true
  | n + 1, .tup ds => ds.length ≤ big ∧ ∀ x ∈ ds, Sh n x
  | n + 1, .lst ds => ds.length ≤ big ∧ ∀ x ∈ ds, Sh n x
  | n + 1, d => flatD d = true
@[simp] theorem pIsI_eq {d : D} {T : String} : pIsI d (.ty T) s = match tyOf s d with | some t => if T ∈ tyNames then some (.bl (t == T || (t == "bool" && T == "int")), s) else none | none => none := by
  unfold pIsI
  cases tyOf s d <;> rfl
@[simp] theorem tyOf_int {i : Int} : tyOf s (.int i) = some "int" := rfl
@[simp] theorem tyOf_bl {i : Bool} : tyOf s (.bl i) = some "bool" := rfl
@[simp] theorem tyOf_str {i : Str} : tyOf s (.str i) = some "str" := rfl
@[simp] theorem tyOf_non : tyOf s .non = some "NoneType" := rfl
@[simp] theorem tyOf_tup {i : List D} : tyOf s (.tup i) = some "tuple" := rfl
@[simp] theorem tyOf_lst {i : List D} : tyOf s (.lst i) = some "list" := rfl
@[simp] theorem isNon_non : isNon .non = true := rfl
@[simp] theorem isNon_int {i : Int} : isNon (.int i) = false := rfl
@[simp] theorem isNon_bl {i : Bool} : isNon (.bl i) = false := rfl
@[simp] theorem isNon_str {i : Str} : isNon (.str i) = false := rfl
@[simp] theorem isNon_tup {i : List D} : isNon (.tup i) = false := rfl
@[simp] theorem isNon_lst {i : List D} : isNon (.lst i) = false := rfl
theorem whole_int {c : Int} {Q : D → S → Prop} (q : Q (.bl true) s) : OkE (F__law_whole [.int c] s) Q := by
  refine cut_pure ?_
  simp [m__law_whole, tyNames]
  exact q
theorem same_flat {d : D} {R : FD} {n N : Nat} {Q : D → S → Prop} (h : flatD d = true) (q : Q (.bl true) s) : OkE (F__law_same (n + 1) [d, d] s) Q := by
  refine cut_pure ?_
  cases d with
  | non => simp [m__law_same, tyNames]; exact q
  | bl b => simp [m__law_same, tyNames]; exact q
  | int i => simp [m__law_same, tyNames]; exact whole_int (by simp; exact q)
  | str x => simp [m__law_same, tyNames]; exact q
  | _ => cases h
theorem toBls_rep {α : Type} (xs : List α) : toBls (xs.map fun _ => D.bl true) = some (xs.map fun _ => true) := by
  induction xs with
  | nil => rfl
  | cons a r ih => show (toBls (r.map fun _ => D.bl true)).map (true :: ·) = _; rw [ih]; rfl
theorem all_true {α : Type} (xs : List α) : pAll (.lst (xs.map fun _ => D.bl true)) s = some (.bl true, s) := by
  unfold pAll pBls
  rw [viewL_lst]
  dsimp only
  rw [toBls_rep]
  simp
theorem zip_same {ds : List D} : zip2D ds ds = ds.map fun d => .tup [d, d] := by
  induction ds with
  | nil => rfl
  | cons a r ih => show D.tup [a, a] :: zip2D r r = _; rw [ih]; rfl
theorem same_refl : ∀ (n : Nat) {d : D} {s : S} {Q : D → S → Prop}, Sh n d → Q (.bl true) s → OkE (F__law_same (n + 1) [d, d] s) Q
  | 0, d, s, Q, h, q => same_flat (R := fun _ _ => .stuck) (N := 0) h q
  | n + 1, d, s, Q, h, q => by
    have seq : ∀ (mk : List D → D) (ds : List D), (∀ s, viewS s (mk ds) = some ds) → gdOf (mk ds) ds = [] → ds.length ≤ big → (∀ x ∈ ds, Sh n x) → ∀ (Q : D → S → Prop), Q (.lst (ds.map fun _ => .bl true)) s → ∀ (x y : Option D),
        OkE (cutE (eCompO [2, 3] (iZip2 (eVar 0) (eVar 1)) (gTupS 2 (gsCons (gNm 2) (gsCons (gNm 3) gsNil))) tYesS (eCall 2 (F__law_same (n + 1)) (aCons (eVar 2) (aCons (eVar 3) aNil)))) [some (mk ds), some (mk ds), x, y] s) Q := by
      intro mk ds hv hg hb hx Q q x y
      refine comp_map (xs := ds.map fun d => .tup [d, d]) (gd := []) (fun _ => .bl true) (by
        apply OkE.eq
        simp [hv, hg, zip_same]) (fun _ => rfl) (by simpa using hb) (fun d hd t => ?_) (fun _ _ => rfl) (by rw [List.map_map]; exact q)
      obtain ⟨a, ha, rfl⟩ := List.mem_map.mp hd
      refine ⟨_, rfl, ?_⟩
      apply OkE.eq
      simp [wipeD]
      exact same_refl n (hx a ha) ⟨rfl, rfl⟩
    cases d with
    | tup ds =>
      refine cut_pure ?_
      simp [m__law_same, tyNames]
      refine seq .tup ds (fun _ => rfl) rfl h.1 h.2 _ ?_ _ _
      rw [all_true]
      simp
      exact q
    | lst ds =>
      refine cut_pure ?_
      simp [m__law_same, tyNames]
      refine seq .lst ds (fun _ => rfl) rfl h.1 h.2 _ ?_ _ _
      rw [all_true]
      simp
      exact q
    | non => exact same_flat (R := fun _ _ => .stuck) (N := 0) rfl q
    | bl _ => exact same_flat (R := fun _ _ => .stuck) (N := 0) rfl q
    | int _ => exact same_flat (R := fun _ _ => .stuck) (N := 0) rfl q
    | str _ => exact same_flat (R := fun _ _ => .stuck) (N := 0) rfl q
    | _ => cases h
theorem sh_ints (n : Nat) (l : List Int) (h : l.length ≤ big) : Sh (n + 1) (.tup (l.map .int)) := ⟨by simpa using h, fun x hx => by
  obtain ⟨y, _, rfl⟩ := List.mem_map.mp hx
  cases n <;> rfl⟩

/-! ### the powers found -/
theorem prd_coprime {a : Int} : ∀ {as ns : List Int}, (∀ b ∈ as, Nat.Coprime a.natAbs b.natAbs) → Nat.Coprime a.natAbs (prd as ns).natAbs
  | [], ns, _ => by simp [prd]
  | b :: as, [], _ => by simp [prd]
  | b :: as, n :: ns, h => by
    simp only [prd, Int.natAbs_mul, Int.natAbs_pow]
    exact Nat.Coprime.mul_right (Nat.Coprime.pow_right _ (h b (by simp))) (prd_coprime fun c hc => h c (List.mem_cons_of_mem _ hc))
theorem PR_cop : ∀ k, k < 10 → ∀ b ∈ PR.drop (k + 1), Nat.Coprime (PR[k]!).natAbs b.natAbs := by decide +kernel
theorem prd_pos : ∀ {as ns : List Int}, (∀ a ∈ as, 0 < a) → 0 < prd as ns
  | [], ns, _ => by simp [prd]
  | b :: as, [], _ => by simp [prd]
  | b :: as, n :: ns, h => by
    simp only [prd]
    exact Int.mul_pos (Int.pow_pos (h b (by simp))) (prd_pos fun a ha => h a (List.mem_cons_of_mem _ ha))
theorem PR_len : PR.length = 10 := rfl
theorem prd_drop {l : List Int} {k : Nat} {n : Int} (hk : k < 10) (h : l[k]? = some n) : prd (PR.drop k) (l.drop k) = (PR[k]!) ^ n.toNat * prd (PR.drop (k + 1)) (l.drop (k + 1)) := by
  have e1 : PR.drop k = PR[k]! :: PR.drop (k + 1) := by
    rw [List.drop_eq_getElem_cons (by rw [PR_len]; exact hk)]
    rw [getElem!_pos PR k (by rw [PR_len]; exact hk)]
  have e2 : l.drop k = n :: l.drop (k + 1) := by
    obtain ⟨h1, h2⟩ := List.getElem?_eq_some_iff.mp h
    rw [List.drop_eq_getElem_cons h1, h2]
  rw [e1, e2]; rfl
theorem fdiv_pow {a R : Int} {n : Nat} (ha : 0 < a) : (a ^ (n + 1) * R).fdiv a = a ^ n * R := by
  rw [Int.pow_succ, show a ^ n * a * R = a * (a ^ n * R) by rw [Int.mul_comm (a ^ n) a, Int.mul_assoc]]
  exact Int.mul_fdiv_cancel_left _ (by omega)
theorem fmod_pow {a R : Int} {n : Nat} : (a ^ (n + 1) * R).fmod a = 0 := by
  rw [Int.pow_succ, show a ^ n * a * R = a * (a ^ n * R) by rw [Int.mul_comm (a ^ n) a, Int.mul_assoc]]
  exact Int.mul_fmod_right _ _
theorem fmod_ne {a R : Int} (ha : 1 < a) (h : Nat.Coprime a.natAbs R.natAbs) : R.fmod a ≠ 0 := by
  intro e
  have hd : a ∣ R := Int.dvd_of_fmod_eq_zero e
  have hn : a.natAbs ∣ R.natAbs := Int.natAbs_dvd_natAbs.mpr hd
  have h1 : a.natAbs = 1 := Nat.Coprime.eq_one_of_dvd h hn
  omega
theorem le_natAbs_pow {a R : Int} {n : Nat} (ha : 1 < a) (hR : 0 < R) : n ≤ (a ^ n * R).natAbs := by
  rw [Int.natAbs_mul, Int.natAbs_pow]
  have h1 : n < a.natAbs ^ n := Nat.lt_pow_self (by omega)
  have h2 : a.natAbs ^ n * 1 ≤ a.natAbs ^ n * R.natAbs := Nat.mul_le_mul_left _ (by omega)
  omega
theorem found_ok {l : List Int} {Q : D → S → Prop} (hl : l.length = 10) (h0 : ∀ x ∈ l, 0 ≤ x) (q : Q (.tup (l.map .int)) s) : OkE (F_found_powers [.int (prd PR l)] s) Q := by
  refine cut_ok ?_
  unfold m_found_powers
  simp [big]
  refine for_ok (fun k e s' => ∃ (x y : Option D), e = [some (.int (prd (PR.drop k) (l.drop k))), some (.ref s.length), x, y] ∧ s' = s ++ [.lst ((l.take k).map .int)]) ⟨none, none, rfl, rfl⟩ (fun _ _ _ _ => rfl) ?_ ?_
  · rintro k d e s' hd ⟨x, y, rfl, rfl⟩
    obtain ⟨a, ha, rfl⟩ := map_at hd
    have hk : k < 10 := (List.getElem?_eq_some_iff.mp ha).1
    have ha' : PR[k]! = a := by
      have h1 : PR[k]? = some a := ha
      obtain ⟨h2, h3⟩ := List.getElem?_eq_some_iff.mp h1
      rw [getElem!_pos PR k h2, h3]
    have hap := PR_pos a (List.mem_of_getElem? (show PR[k]? = some a from ha))
    obtain ⟨n, hn⟩ : ∃ n, l[k]? = some n := ⟨l[k]'(by omega), by simp⟩
    have hn0 := h0 n (List.mem_of_getElem? hn)
    have hR := prd_pos (as := PR.drop (k + 1)) (ns := l.drop (k + 1)) fun b hb => by
      have := PR_pos b (List.mem_of_mem_drop hb); omega
    have hcop : Nat.Coprime a.natAbs (prd (PR.drop (k + 1)) (l.drop (k + 1))).natAbs := prd_coprime (by have := PR_cop k hk; rw [ha'] at this; exact this)
    refine ⟨_, gNm_eq, ?_⟩
    rw [prd_drop hk hn, ha']
    simp
    refine while_ok n.toNat (fun j e s' => e = [some (.int (a ^ (n.toNat - j) * prd (PR.drop (k + 1)) (l.drop (k + 1)))), some (.ref s.length), some (.int a), some (.int j)] ∧ s' = s ++ [.lst ((l.take k).map .int)]) ⟨by simp, by rw [List.map_take]⟩ ?_ ?_ ?_
    · simp [natAt]
      have := le_natAbs_pow (n := n.toNat) hap.1 hR
      omega
    · rintro j e s' hj ⟨rfl, rfl⟩
      have e1 : n.toNat - j = (n.toNat - (j + 1)) + 1 := by omega
      have c1 : a ≠ 0 := by omega
      have c2 : a.natAbs < 1073741824 := by omega
      rw [e1]
      simp [c1, c2, fmod_pow, fdiv_pow (show 0 < a by omega)]
    · rintro e s' ⟨rfl, rfl⟩
      have c1 : a ≠ 0 := by omega
      have c3 : (prd (PR.drop (k + 1)) (l.drop (k + 1))).fmod a ≠ 0 := fmod_ne hap.1 hcop
      have hat : (s ++ [O.lst ((l.take k).map .int)])[s.length]? = some (.lst ((l.take k).map .int)) := by simp
      simp [-List.map_take, c1, c3, tyM_ref hat]
      rw [pAppend_ref hat (by rw [List.length_map, List.length_take]; unfold big; omega)]
      have e2 : l.take (k + 1) = l.take k ++ [n] := by rw [List.take_add_one, hn]; rfl
      have e3 : ((n.toNat : Nat) : Int) = n := by omega
      simp only [okO_some]
      rw [← List.map_take, e2, List.map_append, show max n 0 = n by omega]
      simp
  · rintro e s' ⟨x, y, rfl, rfl⟩
    have e1 : (List.map D.int K_PRIMES).length = 10 := rfl
    rw [e1, List.take_of_length_le (by omega)]
    simp [show prd (PR.drop 10) (l.drop 10) = 1 from rfl]
    exact .mk _ rfl (okT_refl s) (noRefs_int _) q
end
end Mp.L

namespace Mp.L
open PySem L2 Mp TL
section
variable {s t : S} {i : Nat} {p : Int}
/-! ### numbers written -/
def num (n : Int) : Str := Str.ofString (toString n)
@[simp] theorem pStr_int {i : Int} : pStr (.int i) s = if i.natAbs.log2 < 1920 then some (.str (num i), s) else none := rfl
theorem log_small {n : Int} (h0 : 0 ≤ n) (h : n < 10 ^ 15) : n.natAbs.log2 < 1920 := by
  by_cases hz : n.natAbs = 0
  · rw [hz]; decide
  · have h1 : n.natAbs < 2 ^ 64 := by omega
    have := (Nat.log2_lt hz).mpr h1
    omega
theorem num_tl {n : Int} (h : 0 ≤ n) : tl (num n) = numL n.toNat := by
  obtain ⟨m, rfl⟩ := Int.eq_ofNat_of_zero_le h
  exact tl_num m
theorem num_free {n : Int} {c : Nat} (h : 0 ≤ n) (hc : c < 48 ∨ 57 < c) : c ∉ tl (num n) := by
  rw [num_tl h]; exact numL_free hc
theorem num_len {n : Int} (h : 0 ≤ n) (hb : n < 10 ^ 13) : 1 ≤ (num n).length ∧ (num n).length ≤ 13 := by
  rw [len_tl, num_tl h]
  have h1 := numL_ne n.toNat
  have h2 : (numL n.toNat).length ≤ 13 := numL_len (by decide) (by omega)
  have h3 : (numL n.toNat).length ≠ 0 := fun e => h1 (List.eq_nil_of_length_eq_zero e)
  omega
theorem num_head : ∀ n : Nat, 0 < n → ∀ c r, numL n = c :: r → c ≠ 48 := by
  intro n
  induction n using Nat.strongRecOn with
  | _ n ih =>
    intro hn c r h
    by_cases h1 : n < 10
    · rw [numL_lt h1] at h
      cases h
      omega
    · rw [numL_step (by omega)] at h
      cases e : numL (n / 10) with
      | nil => exact absurd e (numL_ne _)
      | cons c' r' =>
        rw [e] at h
        cases h
        exact ih (n / 10) (by omega) (by omega) _ _ e
theorem num_int {n : Int} (h : 0 ≤ n) (hb : n < 10 ^ 13) : PySem.intText? (num n) = some n := by
  obtain ⟨m, rfl⟩ := Int.eq_ofNat_of_zero_le h
  have h2 := (num_len h hb).2
  rw [len_tl] at h2
  have e : tl (num (m : Int)) = numL m := tl_num m
  rw [e] at h2
  exact int_num (by omega)
theorem fig_tl : tl (Str.ofString "0123456789") = [48, 49, 50, 51, 52, 53, 54, 55, 56, 57] := by decide +kernel
theorem zero_tl : Str.ofString "0" = ⟨#[48]⟩ := by decide +kernel
theorem mk_inj {a b : Nat} : ((⟨#[a]⟩ : Str) = ⟨#[b]⟩) ↔ a = b := by
  constructor
  · intro h; injection h with h; simpa using h
  · rintro rfl; rfl
theorem number_ok {n : Int} {Q : D → S → Prop} (h : 0 ≤ n) (hb : n < 10 ^ 13) (q : Q (.int n) s) : OkE (F_number_in [.str (num n)] s) Q := by
  refine cut_pure ?_
  obtain ⟨l1, l2⟩ := num_len h hb
  have hbig : (num n).length ≤ big := Nat.le_trans l2 (by decide)
  have c1 : (1 : Int) ≤ ((num n).length : Int) := by omega
  have c2 : ((num n).length : Int) ≤ 13 := by omega
  obtain ⟨c, r, hc⟩ : ∃ c r, tl (num n) = c :: r := by
    cases e : tl (num n) with
    | nil => rw [len_tl, e] at l1; cases l1
    | cons c r => exact ⟨c, r, rfl⟩
  have hix : pIx (.str (num n)) (.int 0) s = some (.str ⟨#[c]⟩, s) := by
    unfold pIx
    dsimp only
    rw [if_pos hbig]
    have e : (num n).cps.toList = c :: r := hc
    rw [e, show atI (c :: r) 0 = some c from atI_nat (xs := c :: r) (k := 0) (by simp)]; rfl
  have hz : c = 48 → num n = Str.ofString "0" := by
    rintro rfl
    by_cases hn : n.toNat = 0
    · have : n = 0 := by omega
      subst this
      decide +kernel
    · rw [num_tl h] at hc
      exact absurd rfl (num_head _ (by omega) _ _ hc)
  have key : ∀ (Qx : Bool → S → Prop), Qx false s → OkE (tOrS (tNotS (eTest (eCh pLe pLe (eC (.int 1)) (eCB (p1 pLen) (aCons (eVar 0) aNil)) (eC (.int 13))))) (tAndS (eTest (eOp pEq (eOp pIx (eVar 0) (eC (.int 0))) (eC (.str "0")))) (eTest (eOp pNe (eVar 0) (eC (.str "0"))))) [some (.str (num n)), none] s) Qx := by
    intro Qx q
    simp [hbig, c1, c2, hix]
    split
    · rename_i e
      rw [zero_tl, mk_inj] at e
      rw [hz e]
      simpa using q
    · exact q
  unfold m_number_in
  simp only [okS_seq, okS_if, List.map, List.length_cons, List.length_nil]
  show OkE _ _
  refine key _ ?_
  rw [if_neg Bool.false_ne_true]
  simp
  refine for_ok (fun k e s' => ∃ x : Option D, e = [some (.str (num n)), x] ∧ s' = s) ⟨none, rfl, rfl⟩ (fun _ _ _ _ => rfl) ?_ ?_
  · rintro k d e s' hd ⟨x, rfl, rfl⟩
    unfold signs at hd
    obtain ⟨a, ha, rfl⟩ := map_at hd
    refine ⟨_, gNm_eq, ?_⟩
    have hm : a ∈ numL n.toNat := by
      rw [← num_tl h]; exact List.mem_of_getElem? ha
    have hr := numL_digits n.toNat a hm
    have hin : pNotIn (.str ⟨#[a]⟩) (.str "0123456789") s' = some (.bl false, s') := by
      unfold pNotIn inB
      dsimp only
      rw [show one? ⟨#[a]⟩ = some a from rfl]
      dsimp only
      rw [show (Str.ofString "0123456789").cps.toList = [48, 49, 50, 51, 52, 53, 54, 55, 56, 57] from fig_tl]
      rw [show decide (a ∈ [48, 49, 50, 51, 52, 53, 54, 55, 56, 57]) = true from decide_eq_true (by simp; omega)]
      rfl
    simp [hin]
  · rintro e s' ⟨x, rfl, rfl⟩
    have hi : pInt (.str (num n)) s' = some (.int n, s') := by
      unfold pInt
      dsimp only
      rw [if_pos (by omega), num_int h hb]; rfl
    simp [hi]
    exact q
/-! ### a comprehension over a list told by a list of ours -/
theorem _root_.Mp.comp_over {vs : List Nat} {it : MI} {g : MG} {f : ME} {e : Sl} {s : S} {gd : Gd} {Q : D → S → Prop} {α : Type} (l : List α) (u h : α → D) (hit : it e s = .ok (l.map u, gd) s) (hgd : ∀ t, gdOk (s ++ t) gd = true) (hb : l.length ≤ big)
    (hst : ∀ x ∈ l, ∀ t, ∃ e1, g (u x) (wipeD e vs) (s ++ t) = some e1 ∧ OkE (f e1 (s ++ t)) (fun d s' => d = h x ∧ s' = s ++ t)) (hn : ∀ x ∈ l, noRef (h x) = true)
    (hq : Q (.lst (l.map h)) s) : OkE (cutE (eCompO vs it g tYesS f) e s) Q := by
  refine comp_inv (gd := gd) hit rfl (fun i acc s1 => s1 = s ∧ acc = (l.take i).map h) ⟨rfl, rfl⟩ (fun i acc s1 ⟨h1, h2⟩ => ?_) (by simpa using hb) (fun i x acc s1 hi ⟨h1, h2⟩ => ?_) fun acc s1 ⟨h1, h2⟩ => ?_
  · subst h1 h2
    exact ⟨rfl, by rw [List.length_map, List.length_take]; omega, hgd _⟩
  · subst h1
    obtain ⟨a, ha, rfl⟩ := map_at hi
    obtain ⟨e1, k1, k2⟩ := hst a (List.mem_of_getElem? ha) [.lst acc]
    refine ⟨e1, k1, .inl ⟨rfl, h a, s1, k2.eq, rfl, ?_⟩⟩
    rw [h2, List.take_add_one, ha]; simp
  · subst h1 h2
    rw [List.length_map, List.take_length]
    exact ⟨okT_refl _, noRefs_of fun d hd => by
      obtain ⟨x, hx, rfl⟩ := List.mem_map.mp hd
      exact hn x hx, hq⟩
theorem toStrs_map {α : Type} (l : List α) (w : α → Str) : toStrs (l.map fun x => D.str (w x)) = some (l.map w) := by
  induction l with
  | nil => rfl
  | cons a r ih => show (toStrs (r.map fun x => D.str (w x))).map (w a :: ·) = _; rw [ih]; rfl
theorem sum_le {α : Type} {l : List α} {w : α → Str} {c : Nat} (h : ∀ x ∈ l, (w x).length ≤ c) : ((l.map w).map (·.length)).sum ≤ c * l.length := by
  induction l with
  | nil => simp
  | cons a r ih =>
    have h1 := h a (by simp)
    have h2 := ih fun x hx => h x (List.mem_cons_of_mem _ hx)
    simp only [List.map_cons, List.sum_cons, List.length_cons, Nat.mul_succ]
    omega
/-! ### programs written, and read -/
def word (q : Int × Int) : Str := num q.1 ++ "/" ++ num q.2
def pairD (q : Int × Int) : D := .tup [.int q.1, .int q.2]
def progD (tb : List (Int × Int)) : D := .tup (tb.map pairD)
def progT (tb : List (Int × Int)) : Str := Txt.join " " (tb.map word)
def Sm (q : Int × Int) : Prop := 0 ≤ q.1 ∧ q.1 < 10 ^ 13 ∧ 0 ≤ q.2 ∧ q.2 < 10 ^ 13
theorem slash_tl : tl (Str.ofString "/") = [47] := by decide +kernel
theorem blank_tl : tl (Str.ofString " ") = [32] := by decide +kernel
theorem str1 {x : Str} {c : Nat} (h : tl x = [c]) : x.length = 1 := by rw [len_tl, h]; rfl
theorem word_len {q : Int × Int} (h : Sm q) : (word q).length ≤ 27 := by
  obtain ⟨h1, h2, h3, h4⟩ := h
  have a := (num_len h1 h2).2
  have b := (num_len h3 h4).2
  unfold word
  rw [len_tl, tl_append, tl_append, slash_tl, List.length_append, List.length_append, ← len_tl, ← len_tl, List.length_singleton]
  omega
theorem text_ok {tb : List (Int × Int)} {Q : D → S → Prop} (hl : tb.length ≤ 100) (hs : ∀ q ∈ tb, Sm q) (q : Q (.str (progT tb)) s) : OkE (F__law_text_of [progD tb] s) Q := by
  refine cut_pure ?_
  simp [m__law_text_of]
  refine comp_over tb pairD (fun q => .str (word q)) (gd := []) (by apply OkE.eq; simp [progD]) (fun _ => rfl) (by unfold big; omega) (fun x hx t => ⟨_, rfl, ?_⟩) (fun _ _ => rfl) ?_
  · obtain ⟨h1, h2, h3, h4⟩ := hs x hx
    have a := (num_len h1 h2).2
    have b := (num_len h3 h4).2
    have l1 := log_small h1 (by omega)
    have l2 := log_small h3 (by omega)
    have e1 : (Str.ofString "/").length = 1 := str1 slash_tl
    have e2 : (num x.1 ++ Str.ofString "/").length = (num x.1).length + 1 := by rw [Str.length_append, e1]
    simp [wipeD, l1, l2, e1, e2, big, show (num x.1).length + 1 ≤ 100000 by omega, show (num x.1).length + 1 + (num x.2).length ≤ 100000 by omega, word]
  · have hb : ((tb.map word).map (·.length)).sum + (tb.map word).length * (Str.ofString " ").length ≤ big := by
      have h := sum_le (w := word) (c := 27) fun x hx => word_len (hs x hx)
      rw [str1 blank_tl, List.length_map]
      unfold big; omega
    have hj : pJoin (.str " ") [.lst (tb.map fun q => .str (word q))] s = some (.str (progT tb), s) := by
      unfold pJoin
      dsimp only
      rw [viewL_lst]
      dsimp only
      rw [toStrs_map]
      dsimp only
      rw [if_pos hb]; rfl
    simp [hj]
    exact q
theorem written_ok {tb : List (Int × Int)} {Q : D → S → Prop} (hl : tb.length ≤ 100) (hs : ∀ q ∈ tb, Sm q) (q : Q (.str (progT tb)) s) : OkE (F_written [progD tb] s) Q := text_ok hl hs q
theorem prog_split {tb : List (Int × Int)} (hn : tb ≠ []) (hs : ∀ q ∈ tb, Sm q) : Txt.split (progT tb) " " = tb.map word := by
  refine split_join (y := Str.ofString " ") blank_tl (by decide +kernel) (fun e => hn (List.map_eq_nil_iff.mp e)) fun p hp => ?_
  obtain ⟨x, hx, rfl⟩ := List.mem_map.mp hp
  obtain ⟨h1, h2, h3, h4⟩ := hs x hx
  unfold word
  rw [tl_append, tl_append, slash_tl]
  simp only [List.mem_append, not_or]
  exact ⟨⟨num_free h1 (by omega), by decide⟩, num_free h3 (by omega)⟩
theorem join_two {x y z : Str} : Txt.join y [x, z] = x ++ y ++ z := by rw [join_eq]; rfl
theorem word_split {q : Int × Int} (h : Sm q) : Txt.split (word q) "/" = [num q.1, num q.2] := by
  have e : word q = Txt.join (Str.ofString "/") [num q.1, num q.2] := join_two.symm
  rw [e]
  refine split_join (y := Str.ofString "/") slash_tl (by decide +kernel) (by simp) fun p hp => ?_
  obtain ⟨h1, h2, h3, h4⟩ := h
  simp at hp
  rcases hp with rfl | rfl
  · exact num_free h1 (by omega)
  · exact num_free h3 (by omega)
theorem pSplit_eq {x y : Str} (hy : (y.length == 0) = false) (hx : x.length + 2 ≤ big) : pSplit (.str x) [.str y] s = some (.lst ((Txt.split x y).map .str), s) := by
  unfold pSplit; dsimp only; rw [if_pos ⟨hy, hx⟩]
theorem join_len {y : Str} {xs : List Str} : (Txt.join y xs).length ≤ (xs.map (·.length)).sum + xs.length * y.length := by
  rw [join_eq]; exact StrLaws.join_length_le y xs
/-! ### is it a program -/
theorem upto_ok {x a b : Int} {Q : D → S → Prop} (h1 : a ≤ x) (h2 : x ≤ b) (q : Q (.bl true) s) : OkE (F_is_upto [.int x, .int a, .int b] s) Q := by
  refine cut_pure ?_
  simp [m_is_upto]
  refine cut_pure ?_
  simp [m_is_whole, tyNames, h1, h2]
  exact q
/-- a fraction by its powers -/
structure FrOk (l1 l2 : List Int) : Prop where
  a : l1.length = 10
  b : l2.length = 10
  a0 : ∀ x ∈ l1, 0 ≤ x
  b0 : ∀ x ∈ l2, 0 ≤ x
  a1 : prd PR l1 ≤ 10 ^ 12
  b1 : prd PR l2 ≤ 10 ^ 12
  dis : ∀ q ∈ l1.zip l2, q.1 = 0 ∨ q.2 = 0
theorem zip2_map {l1 l2 : List Int} : zip2D (l1.map .int) (l2.map .int) = (l1.zip l2).map pairD := by
  unfold zip2D
  rw [List.zipWith_map]
  rw [List.zip, List.map_zipWith]
  rfl
theorem PR_0 : ∀ a ∈ PR, 0 < a := fun a h => by have := PR_pos a h; omega
theorem fraction_is {l1 l2 : List Int} {Q : D → S → Prop} (h : FrOk l1 l2) (q : Q (.bl true) s) : OkE (F_is_fraction [pairD (prd PR l1, prd PR l2)] s) Q := by
  refine cut_pure ?_
  have p1 := prd_pos (as := PR) (ns := l1) PR_0
  have p2 := prd_pos (as := PR) (ns := l2) PR_0
  have b1 := h.a1
  have b2 := h.b1
  simp [m_is_fraction, pairD, tyNames, atI, ixN]
  refine upto_ok (by omega) (by omega) ?_
  simp
  refine upto_ok (by omega) (by omega) ?_
  simp
  refine found_ok h.a h.a0 ?_
  simp
  refine found_ok h.b h.b0 ?_
  simp
  refine comp_over (l1.zip l2) pairD (fun _ => .bl true) (gd := []) (by apply OkE.eq; simp [zip2_map]) (fun _ => rfl) (by rw [List.length_zip, h.a]; unfold big; omega) (fun x hx t => ⟨_, rfl, ?_⟩) (fun _ _ => rfl) ?_
  · rcases h.dis x hx with e | e
    · simp [wipeD, e]
    · by_cases e1 : x.1 = 0 <;> simp [wipeD, e, e1]
  · rw [all_true]
    simp
    exact q
theorem program_is {tb : List (Int × Int)} {Q : D → S → Prop} (h1 : 1 ≤ tb.length) (h2 : tb.length ≤ 16) (hf : ∀ q ∈ tb, ∃ l1 l2, FrOk l1 l2 ∧ q = (prd PR l1, prd PR l2)) (q : Q (.bl true) s) : OkE (F_is_program [progD tb] s) Q := by
  refine cut_pure ?_
  have c1 : (1 : Int) ≤ (tb.length : Int) := by omega
  have c2 : (tb.length : Int) ≤ 16 := by omega
  simp [m_is_program, progD, tyNames, c1, c2]
  refine comp_over tb pairD (fun _ => .bl true) (gd := []) (by apply OkE.eq; simp) (fun _ => rfl) (by unfold big; omega) (fun x hx t => ⟨_, rfl, ?_⟩) (fun _ _ => rfl) ?_
  · obtain ⟨l1, l2, h, rfl⟩ := hf x hx
    simp [wipeD]
    exact fraction_is h ⟨rfl, rfl⟩
  · rw [all_true]
    simp
    exact q
theorem read_ok {tb : List (Int × Int)} {Q : D → S → Prop} (h1 : 1 ≤ tb.length) (h2 : tb.length ≤ 16) (hs : ∀ q ∈ tb, Sm q) (hf : ∀ q ∈ tb, ∃ l1 l2, FrOk l1 l2 ∧ q = (prd PR l1, prd PR l2)) (q : Q (progD tb) s) : OkE (F_read [.str (progT tb)] s) Q := by
  refine cut_ok ?_
  have hn : tb ≠ [] := fun e => by rw [e] at h1; cases h1
  have hlen : (progT tb).length + 2 ≤ big := by
    have h := sum_le (w := word) (c := 27) fun x hx => word_len (hs x hx)
    have h' := join_len (y := Str.ofString " ") (xs := tb.map word)
    rw [str1 blank_tl, List.length_map] at h'
    have e : (progT tb).length = (Txt.join (Str.ofString " ") (tb.map word)).length := rfl
    rw [e]
    unfold big; omega
  have hsp : ∀ s, pSplit (.str (progT tb)) [.str " "] s = some (.lst (tb.map fun q => .str (word q)), s) := fun s => by
    rw [pSplit_eq (by rw [str1 blank_tl]; rfl) hlen, prog_split hn hs, List.map_map]; rfl
  unfold m_read
  simp [tyNames, big, hsp]
  refine for_ok (fun k e s' => ∃ (x y z : Option D), e = [some (.str (progT tb)), some (.ref s.length), x, y, z] ∧ s' = s ++ [.lst ((tb.take k).map pairD)]) ⟨none, none, none, rfl, rfl⟩ (fun _ _ _ _ => rfl) ?_ ?_
  · rintro k d e s' hd ⟨x, y, z, rfl, rfl⟩
    obtain ⟨a, ha, rfl⟩ := map_at hd
    have hm := List.mem_of_getElem? ha
    obtain ⟨g1, g2, g3, g4⟩ := hs a hm
    refine ⟨_, gNm_eq, ?_⟩
    have hsp2 : ∀ s, pSplit (.str (word a)) [.str "/"] s = some (.lst ([a.1, a.2].map fun n => .str (num n)), s) := fun s => by
      rw [pSplit_eq (by rw [str1 slash_tl]; rfl) (by have := word_len (hs a hm); unfold big; omega), word_split (hs a hm)]; rfl
    rw [okS_seq, okS_asg]
    refine comp_over [a.1, a.2] (fun n => .str (num n)) (fun n => .int n) (gd := []) (by apply OkE.eq; simp [hsp2]) (fun _ => rfl) (by simp [big]) (fun n hn t => ⟨_, rfl, ?_⟩) (fun _ _ => rfl) ?_
    · simp [wipeD]
      simp at hn
      rcases hn with rfl | rfl
      · exact number_ok g1 g2 ⟨rfl, rfl⟩
      · exact number_ok g3 g4 ⟨rfl, rfl⟩
    · have hat : (s ++ [O.lst ((tb.take k).map pairD)])[s.length]? = some (.lst ((tb.take k).map pairD)) := by simp
      have hk : k < tb.length := (List.getElem?_eq_some_iff.mp ha).1
      simp [-List.map_take, tyM_ref hat]
      rw [pAppend_ref hat (by rw [List.length_map, List.length_take]; unfold big; omega)]
      simp only [okO_some]
      rw [List.take_add_one, ha]
      simp [pairD]
  · rintro e s' ⟨x, y, z, rfl, rfl⟩
    rw [List.length_map, List.take_length]
    simp
    refine program_is h1 h2 hf ?_
    simp
    exact .mk _ rfl (okT_refl s) (noRefs_of fun d hd => by
      obtain ⟨x, hx, rfl⟩ := List.mem_map.mp hd
      rfl) q
end
end Mp.L

namespace Mp.L
open PySem L2 Mp TL
section
variable {s t : S} {i : Nat} {p : Int}
theorem _root_.Mp.comp_overF {vs : List Nat} {it : MI} {g : MG} {c : MT} {f : ME} {e : Sl} {s : S} {gd : Gd} {Q : D → S → Prop} {α : Type} (l : List α) (u h : α → D) (pr : α → Bool) (hit : it e s = .ok (l.map u, gd) s) (hgd : ∀ t, gdOk (s ++ t) gd = true) (hb : l.length ≤ big)
    (hst : ∀ x ∈ l, ∀ t, ∃ e1, g (u x) (wipeD e vs) (s ++ t) = some e1 ∧ OkE (c e1 (s ++ t)) (fun b s' => b = pr x ∧ s' = s ++ t) ∧ (pr x = true → OkE (f e1 (s ++ t)) (fun d s' => d = h x ∧ s' = s ++ t))) (hn : ∀ x ∈ l, noRef (h x) = true)
    (hq : Q (.lst ((l.filter pr).map h)) s) : OkE (cutE (eCompO vs it g c f) e s) Q := by
  refine comp_inv (gd := gd) hit rfl (fun i acc s1 => s1 = s ∧ acc = ((l.take i).filter pr).map h) ⟨rfl, rfl⟩ (fun i acc s1 ⟨h1, h2⟩ => ?_) (by simpa using hb) (fun i x acc s1 hi ⟨h1, h2⟩ => ?_) fun acc s1 ⟨h1, h2⟩ => ?_
  · subst h1 h2
    refine ⟨rfl, ?_, hgd _⟩
    rw [List.length_map]
    exact Nat.le_trans (List.length_filter_le _ _) (by rw [List.length_take]; omega)
  · subst h1
    obtain ⟨a, ha, rfl⟩ := map_at hi
    obtain ⟨e1, k1, k2, k3⟩ := hst a (List.mem_of_getElem? ha) [.lst acc]
    have ex : (l.take (i + 1)).filter pr = (l.take i).filter pr ++ if pr a = true then [a] else [] := by
      rw [List.take_add_one, ha]; simp [List.filter_append, List.filter_cons]
    refine ⟨e1, k1, ?_⟩
    have k2 := k2.eq
    cases q : pr a with
    | true =>
      rw [q] at k2
      exact .inl ⟨k2, h a, s1, (k3 q).eq, rfl, by rw [ex, q, h2]; simp⟩
    | false =>
      rw [q] at k2
      exact .inr ⟨k2, rfl, by rw [ex, q, h2]; simp⟩
  · subst h1 h2
    rw [List.length_map, List.take_length]
    exact ⟨okT_refl _, noRefs_of fun d hd => by
      obtain ⟨x, hx, rfl⟩ := List.mem_map.mp hd
      exact hn x (List.mem_filter.mp hx |>.1), hq⟩
/-! ### powers written -/
def pre (l : List Int) (k : Nat) : List Nat := (List.range k).filter fun j => decide ((0 : Int) < l[j]!)
def idx (l : List Int) : List Nat := pre l 10
def at2 (l : List Int) (j : Nat) : Int × Int := (PR[j]!, l[j]!)
def part (q : Int × Int) : Str := num q.1 ++ "^" ++ num q.2
def partsT (l : List Int) : List Str := (idx l).map fun j => part (at2 l j)
def lineT (l : List Int) : Str := if idx l = [] then "1" else Txt.join "*" (partsT l)
theorem hat_tl : tl (Str.ofString "^") = [94] := by decide +kernel
theorem star_tl : tl (Str.ofString "*") = [42] := by decide +kernel
theorem one_tl : tl (Str.ofString "1") = [49] := by decide +kernel
theorem zip_range {l : List Int} (hl : l.length = 10) : PR.zip l = (List.range 10).map (at2 l) := by
  apply List.ext_getElem
  · simp [PR_len, hl]
  · intro j h1 h2
    simp at h2
    rw [List.getElem_zip, List.getElem_map, List.getElem_range]
    unfold at2
    rw [getElem!_pos PR j (by rw [PR_len]; exact h2), getElem!_pos l j (by omega)]
theorem zip_filter {l : List Int} (hl : l.length = 10) : (PR.zip l).filter (fun q => decide (0 < q.2)) = (idx l).map (at2 l) := by
  rw [zip_range hl, List.filter_map]; rfl
structure Ln (l : List Int) (b : Int) : Prop where
  len : l.length = 10
  bd : ∀ x ∈ l, 0 ≤ x ∧ x < b
theorem Ln.at_ {l : List Int} {b : Int} (h : Ln l b) {j : Nat} (hj : j ∈ idx l) : j < 10 ∧ 0 < l[j]! ∧ l[j]! < b ∧ PR[j]! ∈ PR := by
  unfold idx pre at hj
  obtain ⟨h1, h2⟩ := List.mem_filter.mp hj
  have h3 := List.mem_range.mp h1
  have h4 := of_decide_eq_true h2
  refine ⟨h3, h4, ?_, ?_⟩
  · rw [getElem!_pos l j (by rw [h.len]; exact h3)] at h4 ⊢
    exact (h.bd _ (List.getElem_mem _)).2
  · rw [getElem!_pos PR j (by rw [PR_len]; exact h3)]
    exact List.getElem_mem _
theorem part_len {q : Int × Int} (h : Sm q) : (part q).length ≤ 27 ∧ 1 ≤ (part q).length := by
  obtain ⟨h1, h2, h3, h4⟩ := h
  have a := num_len h1 h2
  have b := num_len h3 h4
  unfold part
  rw [len_tl, tl_append, tl_append, hat_tl, List.length_append, List.length_append, ← len_tl, ← len_tl, List.length_singleton]
  omega
theorem Ln.sm {l : List Int} {b : Int} (h : Ln l b) (hb : b ≤ 10 ^ 13) {j : Nat} (hj : j ∈ idx l) : Sm (at2 l j) := by
  obtain ⟨h1, h2, h3, h4⟩ := h.at_ hj
  have h5 := PR_pos _ h4
  exact ⟨by show 0 ≤ PR[j]!; omega, by show PR[j]! < _; omega, by show 0 ≤ l[j]!; omega, by show l[j]! < _; omega⟩
theorem idx_len (l : List Int) : (idx l).length ≤ 10 := by unfold idx pre; exact Nat.le_trans (List.length_filter_le _ _) (by simp)
theorem parts_sum {l : List Int} {b : Int} (h : Ln l b) (hb : b ≤ 10 ^ 13) : ((partsT l).map (·.length)).sum + (partsT l).length * (Str.ofString "*").length ≤ 300 := by
  have h1 := sum_le (l := idx l) (w := fun j => part (at2 l j)) (c := 27) fun j hj => (part_len (h.sm hb hj)).1
  have h2 := idx_len l
  rw [str1 star_tl]
  unfold partsT
  rw [List.length_map] at *
  omega
theorem strOk_of {x : Str} (h : ∀ c ∈ tl x, c < 0x110000) : PyData.strOk x = true := by
  unfold PyData.strOk
  rw [Array.all_eq_true_iff_forall_mem]
  intro c hc
  exact decide_eq_true (h c (by simpa using hc))
theorem part_ok {q : Int × Int} (h : Sm q) : PyData.strOk (part q) = true := strOk_of fun c hc => by
  obtain ⟨h1, h2, h3, h4⟩ := h
  unfold part at hc
  rw [tl_append, tl_append, hat_tl] at hc
  rcases List.mem_append.mp hc with hc | hc
  · rcases List.mem_append.mp hc with hc | hc
    · rw [num_tl h1] at hc
      have := numL_digits _ c hc; omega
    · simp at hc; omega
  · rw [num_tl h3] at hc
    have := numL_digits _ c hc; omega
theorem toPys_strs (ws : List Str) : toPys (ws.map .str) = some (ws.map .str) := by
  induction ws with
  | nil => rfl
  | cons a r ih => rw [List.map_cons, toPys, ih]; rfl
theorem canLay_strs : ∀ ws : List Str, (∀ w ∈ ws, PyData.strOk w = true) → PyData.canLayAll0 (ws.map .str) = true
  | [], _ => rfl
  | a :: r, h => by
    rw [List.map_cons, PyData.canLayAll0, canLay_strs r fun w hw => h w (List.mem_cons_of_mem _ hw)]
    show (PyData.strOk a && true) = true
    rw [h a (by simp)]; rfl
theorem depth_strs : ∀ ws : List Str, PyData.depthAll (ws.map .str) = 0
  | [] => rfl
  | a :: r => by
    rw [List.map_cons, PyData.depthAll, depth_strs r]; rfl
theorem pEq_empty {ws : List Str} (h : ∀ w ∈ ws, PyData.strOk w = true) : pEq (.lst (ws.map .str)) (.lst []) s = some (.bl (decide (ws = [])), s) := by
  have e1 : eqB s (.lst (ws.map .str)) (.lst []) = some (decide (ws = [])) := by
    unfold eqB
    rw [show eqS (.lst (ws.map .str)) (.lst []) = none from rfl]
    dsimp only
    rw [show toPy (deref s (.lst (ws.map .str))) = some (.list (ws.map .str)) by
      show (toPys (ws.map .str)).map PyData.list = _
      rw [toPys_strs]; rfl, show toPy (deref s (.lst [])) = some (.list []) from rfl]
    dsimp only
    have s1 : SeqAt.shaped (.list (ws.map .str)) = true := by
      unfold SeqAt.shaped
      rw [show PyData.canLay0 (.list (ws.map .str)) = true from canLay_strs ws h, show PyData.depth (.list (ws.map .str)) = 1 by rw [PyData.depth, depth_strs]]
      rfl
    rw [if_pos ⟨s1, by decide +kernel⟩]
    cases ws <;> rfl
  unfold pEq
  rw [e1]; rfl
theorem pJoin_eq {ws : List Str} {y : Str} (h : (ws.map (·.length)).sum + ws.length * y.length ≤ big) : pJoin (.str y) [.lst (ws.map .str)] s = some (.str (Txt.join y ws), s) := by
  unfold pJoin
  dsimp only
  rw [viewL_lst]
  dsimp only
  rw [show ws.map D.str = ws.map (fun x => D.str (id x)) from rfl, toStrs_map]
  dsimp only
  rw [List.map_id, if_pos h]
theorem powers_written_ok {l : List Int} {b : Int} {Q : D → S → Prop} (h : Ln l b) (hb : b ≤ 10 ^ 13) (q : Q (.str (lineT l)) s) : OkE (F_powers_written [.tup (l.map .int)] s) Q := by
  refine cut_pure ?_
  unfold m_powers_written
  rw [okS_seq, okS_asg]
  refine comp_overF (PR.zip l) pairD (fun q => .str (part q)) (fun q => decide (0 < q.2)) (gd := []) (by
    apply OkE.eq
    simp
    rw [show K_PRIMES = PR from rfl, zip2_map]) (fun _ => rfl) (by rw [List.length_zip, PR_len]; unfold big; omega) (fun x hx t => ⟨_, rfl, ?_, fun hp => ?_⟩) (fun _ _ => rfl) ?_
  · simp [wipeD]
  · have hx' : x ∈ (PR.zip l).filter (fun q => decide (0 < q.2)) := List.mem_filter.mpr ⟨hx, hp⟩
    rw [zip_filter h.len] at hx'
    obtain ⟨j, hj, rfl⟩ := List.mem_map.mp hx'
    obtain ⟨h1, h2, h3, h4⟩ := h.sm hb hj
    have a := (num_len h1 h2).2
    have c := (num_len h3 h4).2
    have l1 := log_small h1 (by omega)
    have l2 := log_small h3 (by omega)
    have e1 : (Str.ofString "^").length = 1 := str1 hat_tl
    have e2 : (num (at2 l j).1 ++ Str.ofString "^").length = (num (at2 l j).1).length + 1 := by rw [Str.length_append, e1]
    simp [wipeD, l1, l2, e1, e2, big, show (num (at2 l j).1).length + 1 ≤ 100000 by omega, show (num (at2 l j).1).length + 1 + (num (at2 l j).2).length ≤ 100000 by omega, part]
  · rw [zip_filter h.len, List.map_map]
    have e : (idx l).map ((fun q => D.str (part q)) ∘ at2 l) = (partsT l).map .str := by unfold partsT; rw [List.map_map]; rfl
    rw [e]
    have hok : ∀ w ∈ partsT l, PyData.strOk w = true := fun w hw => by
      unfold partsT at hw
      obtain ⟨j, hj, rfl⟩ := List.mem_map.mp hw
      exact part_ok (h.sm hb hj)
    have hsum := parts_sum h hb
    have hjn : pJoin (.str "*") [.lst ((partsT l).map .str)] s = some (.str (Txt.join "*" (partsT l)), s) := pJoin_eq (by unfold big; omega)
    have hnil : partsT l = [] ↔ idx l = [] := by unfold partsT; exact List.map_eq_nil_iff
    simp [big, pEq_empty hok, hjn]
    by_cases hz : idx l = []
    · have q' := q
      unfold lineT at q'
      rw [if_pos hz] at q'
      rw [if_pos (hnil.mpr hz)]
      simpa using q'
    · have q' := q
      unfold lineT at q'
      rw [if_neg hz] at q'
      rw [if_neg fun z => hz (hnil.mp z)]
      simpa using q'
theorem str_nil {x : Str} : x = "" ↔ tl x = [] := by
  constructor
  · rintro rfl; decide +kernel
  · intro h
    apply ext_tl
    rw [h]; decide +kernel
theorem app_assoc {x y z : Str} : x ++ y ++ z = x ++ (y ++ z) := by
  apply ext_tl
  rw [tl_append, tl_append, tl_append, tl_append, List.append_assoc]
theorem join_cons {y a b : Str} {r : List Str} : Txt.join y (a :: b :: r) = a ++ y ++ Txt.join y (b :: r) := by
  rw [join_eq, join_eq]; rfl
theorem join_one {y a : Str} : Txt.join y [a] = a := by rw [join_eq]; rfl
theorem join_snoc {y x : Str} : ∀ {xs : List Str}, xs ≠ [] → Txt.join y (xs ++ [x]) = Txt.join y xs ++ y ++ x
  | [], h => absurd rfl h
  | [a], _ => by
    show Txt.join y [a, x] = _
    rw [join_two, join_one]
  | a :: b :: r, _ => by
    have ih := join_snoc (y := y) (x := x) (xs := b :: r) (by simp)
    show Txt.join y (a :: b :: (r ++ [x])) = _
    rw [join_cons, join_cons]
    have e : b :: (r ++ [x]) = (b :: r) ++ [x] := rfl
    rw [e, ih]
    simp only [app_assoc]
theorem join_ne {y : Str} {xs : List Str} (h : xs ≠ []) (hp : ∀ x ∈ xs, 1 ≤ x.length) : Txt.join y xs ≠ "" := by
  intro e
  rw [str_nil] at e
  match xs, h with
  | [a], _ =>
    rw [join_one] at e
    have := hp a (by simp)
    rw [len_tl, e] at this; cases this
  | a :: b :: r, _ =>
    rw [join_cons, tl_append, tl_append] at e
    have := hp a (by simp)
    rw [len_tl] at this
    have e2 : tl a = [] := (List.append_eq_nil_iff.mp (List.append_eq_nil_iff.mp e).1).1
    rw [e2] at this; cases this
theorem join_nil {y : Str} : Txt.join y [] = "" := by rw [join_eq]; rfl
@[simp] theorem pInt_bl {b : Bool} : pInt (.bl b) s = some (.int (if b then 1 else 0), s) := rfl
theorem pMulS_eq {x : Str} {n : Int} : pMulS (.str x) (.int n) s = if n = 0 then some (.str Str.empty, s) else if n = 1 then some (.str x, s) else none := rfl
theorem take_filter {l : List Int} (k : Nat) (hk : k < 10) : pre l (k + 1) = pre l k ++ if (0 : Int) < l[k]! then [k] else [] := by
  unfold pre
  rw [List.range_succ, List.filter_append, List.filter_cons]
  by_cases h : (0 : Int) < l[k]! <;> simp [h]
theorem line_text_ok {l : List Int} {b : Int} {Q : D → S → Prop} (h : Ln l b) (hb : b ≤ 10 ^ 13) (q : Q (.str (lineT l)) s) : OkE (F__law_line_text [.tup (l.map .int)] s) Q := by
  refine cut_pure ?_
  unfold m__law_line_text
  simp [primes_eq]
  rw [zip2_map, zip_range h.len]
  refine for_ok (fun k e s' => ∃ (x y : Option D), e = [some (.tup (l.map .int)), some (.str (Txt.join "*" ((pre l k).map fun j => part (at2 l j)))), x, y] ∧ s' = s)
    ⟨none, none, by rw [show (pre l 0).map (fun j => part (at2 l j)) = [] from rfl, join_nil], rfl⟩ (fun _ _ _ _ => rfl) ?_ ?_
  · rintro k d e s' hd ⟨x, y, rfl, rfl⟩
    obtain ⟨a, ha, rfl⟩ := map_at hd
    obtain ⟨j, hj, rfl⟩ := map_at ha
    have hk : k < 10 := by
      have := (List.getElem?_eq_some_iff.mp hj).1
      simpa using this
    have : j = k := by
      rw [List.getElem?_range hk] at hj
      exact (Option.some.inj hj).symm
    subst this
    refine ⟨_, rfl, ?_⟩
    by_cases hp : (0 : Int) < l[j]!
    · have hji : j ∈ idx l := by unfold idx pre; exact List.mem_filter.mpr ⟨List.mem_range.mpr hk, decide_eq_true hp⟩
      have hsm := h.sm hb hji
      obtain ⟨h1, h2, h3, h4⟩ := hsm
      have a1 := (num_len h1 h2).2
      have c1 := (num_len h3 h4).2
      have l1 := log_small h1 (by omega)
      have l2 := log_small h3 (by omega)
      have e1 : (Str.ofString "^").length = 1 := str1 hat_tl
      have e0 : (Str.ofString "*").length = 1 := str1 star_tl
      have e9 : Str.empty.length = 0 := rfl
      generalize hxs : ((pre l j).map fun j => part (at2 l j)) = xs
      have hsub : ∀ i ∈ pre l j, i ∈ idx l := fun i hi => by
        unfold pre at hi; obtain ⟨g1, g2⟩ := List.mem_filter.mp hi
        unfold idx pre
        exact List.mem_filter.mpr ⟨List.mem_range.mpr (by have := List.mem_range.mp g1; omega), g2⟩
      have hlen : (Txt.join (Str.ofString "*") xs).length ≤ 300 := by
        have g1 := join_len (y := Str.ofString "*") (xs := xs)
        have g2 := sum_le (l := pre l j) (w := fun j => part (at2 l j)) (c := 27) fun i hi => (part_len (h.sm hb (hsub i hi))).1
        rw [hxs] at g2
        have g3 : (pre l j).length ≤ j := by unfold pre; exact Nat.le_trans (List.length_filter_le _ _) (by simp)
        have g4 : xs.length = (pre l j).length := by rw [← hxs, List.length_map]
        rw [e0] at g1
        omega
      have hpos : ∀ x ∈ xs, 1 ≤ x.length := fun x hx => by
        rw [← hxs] at hx
        obtain ⟨i, hi, rfl⟩ := List.mem_map.mp hx
        exact (part_len (h.sm hb (hsub i hi))).2
      have next : (pre l (j + 1)).map (fun j => part (at2 l j)) = xs ++ [part (at2 l j)] := by
        rw [take_filter j hk, if_pos hp, List.map_append, hxs]; rfl
      have hp' : (0 : Int) < (at2 l j).2 := hp
      by_cases hz : xs = []
      · have e3 : Txt.join (Str.ofString "*") xs = "" := by rw [hz, join_nil]
        have e4 : (Str.ofString "").length = 0 := by decide +kernel
        have e5 : ∀ x : Str, Str.ofString "" ++ Str.empty ++ x = x := fun x => by
          apply ext_tl
          rw [tl_append, tl_append, show tl (Str.ofString "") = [] by decide +kernel, show tl Str.empty = [] from rfl]; rfl
        simp [pairD, hp', e3, pMulS_eq, e4, e9, big, l1, l2, Str.length_append, e1, show (num (at2 l j).1).length ≤ 100000 by omega, show (num (at2 l j).1).length + 1 ≤ 100000 by omega, show (num (at2 l j).1).length + 1 + (num (at2 l j).2).length ≤ 100000 by omega]
        rw [next, hz]
        show _ = Txt.join _ [part (at2 l j)]
        rw [join_one, e5]; rfl
      · have e3 : ¬ (Txt.join (Str.ofString "*") xs = Str.ofString "") := join_ne hz hpos
        simp [pairD, hp', e3, pMulS_eq, e0, big, l1, l2, Str.length_append, e1, show (Txt.join (Str.ofString "*") xs).length + 1 ≤ 100000 by omega, show (Txt.join (Str.ofString "*") xs).length + 1 + (num (at2 l j).1).length ≤ 100000 by omega,
          show (Txt.join (Str.ofString "*") xs).length + 1 + (num (at2 l j).1).length + 1 ≤ 100000 by omega, show (Txt.join (Str.ofString "*") xs).length + 1 + (num (at2 l j).1).length + 1 + (num (at2 l j).2).length ≤ 100000 by omega]
        rw [next, join_snoc hz]
        unfold part
        simp only [app_assoc]
    · have hp' : ¬ (0 : Int) < (at2 l j).2 := hp
      simp [pairD, hp']
      rw [take_filter j hk, if_neg hp, List.append_nil]
  · rintro e s' ⟨x, y, rfl, rfl⟩
    rw [List.length_map, List.length_map, List.length_range]
    have e0 : (pre l 10).map (fun j => part (at2 l j)) = partsT l := rfl
    rw [e0]
    by_cases hz : idx l = []
    · have e1 : partsT l = [] := by unfold partsT; rw [hz]; rfl
      unfold lineT at q
      rw [if_pos hz] at q
      rw [e1, join_nil]
      simp
      exact q
    · have e1 : ¬ Txt.join (Str.ofString "*") (partsT l) = Str.ofString "" := join_ne (fun z => hz (by unfold partsT at z; exact List.map_eq_nil_iff.mp z)) fun x hx => by
        unfold partsT at hx
        obtain ⟨i, hi, rfl⟩ := List.mem_map.mp hx
        exact (part_len (h.sm hb hi)).2
      unfold lineT at q
      rw [if_neg hz] at q
      simp [e1]
      exact q
end
end Mp.L

namespace Mp.L
open PySem L2 Mp TL
section
variable {s t : S} {i : Nat} {p : Int}
theorem inD_ints {n : Int} : ∀ ns : List Int, inD (.int n) (ns.map .int) = decide (n ∈ ns)
  | [] => by simp [inD]
  | a :: r => by
    have ih := inD_ints (n := n) r
    unfold inD at ih ⊢
    rw [List.map_cons, List.any_cons, ih]
    show ((a == n) || decide (n ∈ r)) = _
    by_cases h : a = n
    · simp [h]
    · have h' : ¬ n = a := fun z => h z.symm
      simp [h, h']
theorem flat_ints (ns : List Int) : (ns.map D.int).all flatD = true := by
  rw [List.all_map]; simp [flatD]
theorem pNotIn_ints {n : Int} {ns : List Int} : pNotIn (.int n) (.tup (ns.map .int)) s = some (.bl (!decide (n ∈ ns)), s) := by
  unfold pNotIn inB
  dsimp only
  rw [viewS_tup]
  dsimp only
  rw [if_pos ⟨rfl, flat_ints ns⟩, inD_ints]; rfl
theorem part_split {q : Int × Int} (h : Sm q) : Txt.split (part q) "^" = [num q.1, num q.2] := by
  have e : part q = Txt.join (Str.ofString "^") [num q.1, num q.2] := join_two.symm
  rw [e]
  refine split_join (y := Str.ofString "^") hat_tl (by decide +kernel) (by simp) fun p hp => ?_
  obtain ⟨h1, h2, h3, h4⟩ := h
  simp at hp
  rcases hp with rfl | rfl
  · exact num_free h1 (by omega)
  · exact num_free h3 (by omega)
theorem part_in_ok {a n : Int} {Q : D → S → Prop} (ha : a ∈ PR) (h1 : 1 ≤ n) (h2 : n ≤ 1000000) (q : Q (.tup [.int (PR.idxOf a : Nat), .int n]) s) : OkE (F_part_in [.str (part (a, n))] s) Q := by
  refine cut_pure ?_
  have hp := PR_pos a ha
  have sm : Sm (a, n) := ⟨by show 0 ≤ a; omega, by show a < _; omega, by show 0 ≤ n; omega, by show n < _; omega⟩
  have hsp : ∀ s, pSplit (.str (part (a, n))) [.str "^"] s = some (.lst ([a, n].map fun n => .str (num n)), s) := fun s => by
    rw [pSplit_eq (by rw [str1 hat_tl]; rfl) (by have := (part_len sm).1; unfold big; omega), part_split sm]; rfl
  unfold m_part_in
  rw [okS_seq, okS_asg]
  refine comp_over [a, n] (fun n => .str (num n)) (fun n => .int n) (gd := []) (by apply OkE.eq; simp [hsp]) (fun _ => rfl) (by simp [big]) (fun x hx t => ⟨_, rfl, ?_⟩) (fun _ _ => rfl) ?_
  · simp [wipeD]
    simp at hx
    rcases hx with rfl | rfl
    · exact number_ok sm.1 sm.2.1 ⟨rfl, rfl⟩
    · exact number_ok sm.2.2.1 sm.2.2.2 ⟨rfl, rfl⟩
  · have hm : a ∈ K_PRIMES := ha
    simp [atI, ixN, pNotIn_ints, hm, h1, h2, big]
    exact q
/-- what is read of the first parts -/
def got (l : List Int) (is : List Nat) : List Int := (List.range 10).map fun j => if j ∈ is then l[j]! else 0
theorem got_len {l : List Int} {is : List Nat} : (got l is).length = 10 := by simp [got]
theorem got_set {l : List Int} {is : List Nat} {j : Nat} (hj : j < 10) : (got l is).set j l[j]! = got l (is ++ [j]) := by
  apply List.ext_getElem
  · simp [got]
  · intro k h1 h2
    rw [List.getElem_set]
    simp [got] at h1 h2 ⊢
    by_cases e : j = k
    · subst e; simp
    · have e' : ¬ k = j := fun z => e z.symm
      simp [e, e']
theorem got_all {l : List Int} {b : Int} (h : Ln l b) : got l (idx l) = l := by
  apply List.ext_getElem
  · rw [got_len, h.len]
  · intro k h1 h2
    have hk : k < 10 := by rw [h.len] at h2; exact h2
    simp [got]
    by_cases hn : k ∈ idx l
    · simp [hn, h2]
    rw [if_neg hn]
    unfold idx pre at hn
    have h3 := (h.bd _ (List.getElem_mem h2)).1
    have h4 : ¬ (0 : Int) < l[k] := fun hp => hn (List.mem_filter.mpr ⟨List.mem_range.mpr hk, by rw [getElem!_pos l k h2]; exact decide_eq_true hp⟩)
    omega
theorem idx_sorted (l : List Int) : (idx l).Pairwise (· < ·) := by
  unfold idx pre
  exact List.Pairwise.filter _ List.pairwise_lt_range
theorem PR_idx : ∀ j, j < 10 → PR.idxOf (PR[j]!) = j := by decide +kernel
theorem part_free {q : Int × Int} (h : Sm q) : 42 ∉ tl (part q) := by
  obtain ⟨h1, h2, h3, h4⟩ := h
  unfold part
  rw [tl_append, tl_append, hat_tl]
  simp only [List.mem_append, not_or]
  exact ⟨⟨num_free h1 (by omega), by decide⟩, num_free h3 (by omega)⟩
theorem line_len {l : List Int} {b : Int} (h : Ln l b) (hb : b ≤ 10 ^ 13) : (Txt.join (Str.ofString "*") (partsT l)).length ≤ 300 :=
  Nat.le_trans join_len (parts_sum h hb)
theorem line_ne_one {l : List Int} {b : Int} (h : Ln l b) (hb : b ≤ 10 ^ 13) (hn : idx l ≠ []) : ¬ Txt.join (Str.ofString "*") (partsT l) = Str.ofString "1" := by
  intro e
  have e2 : (94 : Nat) ∈ tl (Txt.join (Str.ofString "*") (partsT l)) := by
    unfold partsT
    cases hi : idx l with
    | nil => exact absurd hi hn
    | cons a r =>
      have h1 : (94 : Nat) ∈ tl (part (at2 l a)) := by
        unfold part
        rw [tl_append, tl_append, hat_tl]
        simp
      rw [List.map_cons]
      cases r with
      | nil => rw [List.map_nil, join_one]; exact h1
      | cons b r =>
        rw [List.map_cons, join_cons, tl_append, tl_append]
        exact List.mem_append_left _ (List.mem_append_left _ h1)
  rw [e, one_tl] at e2
  simp at e2
theorem powers_read_ok {l : List Int} {b : Int} {Q : D → S → Prop} (h : Ln l b) (hb : b ≤ 1000001) (q : Q (.tup (l.map .int)) s) : OkE (F_powers_read [.str (lineT l)] s) Q := by
  refine cut_ok ?_
  have hb' : b ≤ 10 ^ 13 := by omega
  have z0 : got l [] = [0, 0, 0, 0, 0, 0, 0, 0, 0, 0] := by unfold got; rfl
  unfold m_powers_read
  have pl : (K_PRIMES.map D.int).length = 10 := rfl
  by_cases hn : idx l = []
  · have e : lineT l = Str.ofString "1" := by unfold lineT; rw [if_pos hn]
    have e2 : l = got l [] := by rw [← hn, got_all h]
    rw [e]
    simp [tyNames, big, pl, show K_PRIMES.length = 10 from rfl]
    refine .mk _ rfl (okT_refl s) (by rfl) ?_
    rw [e2, z0] at q
    exact q
  · have e : lineT l = Txt.join (Str.ofString "*") (partsT l) := by unfold lineT; rw [if_neg hn]
    have hne : partsT l ≠ [] := fun z => hn (by unfold partsT at z; exact List.map_eq_nil_iff.mp z)
    have hsp : ∀ s, pSplit (.str (lineT l)) [.str "*"] s = some (.lst ((idx l).map fun j => .str (part (at2 l j))), s) := fun s => by
      rw [e, pSplit_eq (by rw [str1 star_tl]; rfl) (by have := line_len h hb'; unfold big; omega), split_join (y := Str.ofString "*") star_tl (by decide +kernel) hne fun p hp => by
        unfold partsT at hp
        obtain ⟨j, hj, rfl⟩ := List.mem_map.mp hp
        exact part_free (h.sm hb' hj)]
      unfold partsT
      rw [List.map_map]; rfl
    have hone : ¬ lineT l = Str.ofString "1" := by rw [e]; exact line_ne_one h hb' hn
    simp [tyNames, big, pl, show K_PRIMES.length = 10 from rfl, hsp, hone]
    refine for_ok (fun k e s' => ∃ (n : Int) (x y : Option D), e = [some (.str (lineT l)), some (.ref s.length), some (.int n), x, y] ∧ s' = s ++ [.lst ((got l ((idx l).take k)).map .int)] ∧ ∀ j ∈ (idx l).drop k, n < (j : Int))
      ⟨-1, none, none, rfl, by rw [List.take_zero, z0]; rfl, fun j _ => by omega⟩ (fun _ _ _ _ => rfl) ?_ ?_
    · rintro k d e s' hd ⟨n, x, y, rfl, rfl, hlt⟩
      obtain ⟨j, hj, rfl⟩ := map_at hd
      have hjm := List.mem_of_getElem? hj
      obtain ⟨g1, g2, g3, g4⟩ := h.at_ hjm
      refine ⟨_, gNm_eq, ?_⟩
      simp [-List.map_take]
      refine part_in_ok g4 (by omega) (by omega) ?_
      rw [PR_idx j g1]
      have hkl : k < (idx l).length := (List.getElem?_eq_some_iff.mp hj).1
      have hdr : (idx l).drop k = j :: (idx l).drop (k + 1) := by
        rw [List.drop_eq_getElem_cons hkl]
        rw [(List.getElem?_eq_some_iff.mp hj).2]
      have hnj : ¬ ((j : Int) ≤ n) := by
        have := hlt j (by rw [hdr]; simp)
        omega
      have hix : ixN 10 (j : Int) = some j := ixN_nat g1
      simp [-List.map_take, atI, ixN, hnj, got_len]
      have hj10 : (j : Int) < 10 := by omega
      rw [if_pos g1]
      have eg : l[j]?.getD 0 = l[j]! := by simp
      rw [eg]
      show _ ∧ _
      refine ⟨?_, fun i hi => ?_⟩
      · rw [show (List.map D.int (got l ((idx l).take k))).set j (.int l[j]!) = ((got l ((idx l).take k)).set j l[j]!).map .int from (List.map_set ..).symm, got_set g1]
        rw [List.take_add_one, hj]; rfl
      · have hs := (idx_sorted l).drop (i := k)
        rw [hdr] at hs
        exact (List.pairwise_cons.mp hs).1 i hi
    · rintro e s' ⟨n, x, y, rfl, rfl, hlt⟩
      rw [List.length_map, List.take_length, got_all h]
      simp
      exact .mk _ rfl (okT_refl s) (noRefs_int _) q
end
end Mp.L

namespace Mp.L
open PySem L2 Mp TL
section
variable {s t : S} {i : Nat} {p : Int}
theorem prd_le : ∀ {as ns : List Int} {k : Nat}, (∀ a ∈ as, 1 ≤ a ∧ a ≤ 30) → (∀ n ∈ ns, 0 ≤ n) → sm id ns ≤ k → prd as ns ≤ 30 ^ k
  | [], ns, k, _, _, _ => by
    simp only [prd]
    have : (0 : Int) < 30 ^ k := Int.pow_pos (by decide)
    omega
  | b :: as, [], k, _, _, _ => by
    simp only [prd]
    have : (0 : Int) < 30 ^ k := Int.pow_pos (by decide)
    omega
  | b :: as, n :: ns, k, h, h0, hk => by
    have hn := h0 n (by simp)
    have hb := h b (by simp)
    simp only [sm, id] at hk
    have hr := sm_nn (g := fun x => if x < 0 then 0 else x) (fun x => by split <;> omega) ns
    have hnn : 0 ≤ sm id ns := by
      have : ∀ ns : List Int, (∀ n ∈ ns, 0 ≤ n) → 0 ≤ sm id ns := by
        intro ns
        induction ns with
        | nil => intro _; simp [sm]
        | cons a r ih =>
          intro h
          have h1 := h a (by simp)
          have h2 := ih fun n hn => h n (List.mem_cons_of_mem _ hn)
          simp only [sm, id]; omega
      exact this ns fun n hn => h0 n (List.mem_cons_of_mem _ hn)
    have ih := prd_le (as := as) (ns := ns) (k := k - n.toNat) (fun a ha => h a (List.mem_cons_of_mem _ ha)) (fun n hn => h0 n (List.mem_cons_of_mem _ hn)) (by omega)
    have e1 : (30 : Int) ^ k = 30 ^ n.toNat * 30 ^ (k - n.toNat) := by rw [← Int.pow_add]; congr 1; omega
    simp only [prd]
    rw [e1]
    have p1 : b ^ n.toNat ≤ 30 ^ n.toNat := by
      have h1 : b.toNat ^ n.toNat ≤ 30 ^ n.toNat := Nat.pow_le_pow_left (by omega) _
      have h2 : ((b.toNat ^ n.toNat : Nat) : Int) ≤ ((30 ^ n.toNat : Nat) : Int) := Int.ofNat_le.mpr h1
      rw [Int.natCast_pow, Int.natCast_pow, Int.toNat_of_nonneg (by omega)] at h2
      exact h2
    have p0 : 0 < prd as ns := prd_pos fun a ha => by have := h a (List.mem_cons_of_mem _ ha); omega
    have p2 : (0 : Int) ≤ 30 ^ n.toNat := Int.le_of_lt (Int.pow_pos (by decide))
    exact Int.mul_le_mul p1 ih (by omega) p2
theorem sm_map (g : Int → Int) (l : List Int) : sm id (l.map g) = sm g l := by
  induction l with
  | nil => rfl
  | cons a r ih => simp only [List.map_cons, sm, id, ih]
def frac (f : List Int) : Int × Int := (prd PR (f.map pos), prd PR (f.map neg))
theorem fracD_eq (f : List Int) : fracD f = pairD (frac f) := rfl
theorem progD_eq (fs : List (List Int)) : D.tup (fs.map fracD) = progD (fs.map frac) := by
  unfold progD; rw [List.map_map]; rfl
theorem frac_up {pl f : List Int} (h : Frac pl f) : 0 < (frac f).1 ∧ (frac f).1 ≤ 27000 ∧ 0 < (frac f).2 ∧ (frac f).2 ≤ 27000 := by
  have a := prd_le (as := PR) (ns := f.map pos) (k := 3) (fun a ha => by have := PR_pos a ha; omega) (fun n hn => by obtain ⟨x, _, rfl⟩ := List.mem_map.mp hn; exact pos_nn x) (by rw [sm_map]; exact h.up)
  have b := prd_le (as := PR) (ns := f.map neg) (k := 3) (fun a ha => by have := PR_pos a ha; omega) (fun n hn => by obtain ⟨x, _, rfl⟩ := List.mem_map.mp hn; exact neg_nn x) (by rw [sm_map]; exact h.dn)
  exact ⟨prd_pos PR_0, a, prd_pos PR_0, b⟩
theorem frac_sm {pl f : List Int} (h : Frac pl f) : Sm (frac f) := by
  obtain ⟨a, b, c, d⟩ := frac_up h
  exact ⟨by omega, by omega, by omega, by omega⟩
theorem frac_ok {pl f : List Int} (h : Frac pl f) : FrOk (f.map pos) (f.map neg) where
  a := by rw [List.length_map]; exact h.len
  b := by rw [List.length_map]; exact h.len
  a0 := fun x hx => by obtain ⟨y, _, rfl⟩ := List.mem_map.mp hx; exact pos_nn y
  b0 := fun x hx => by obtain ⟨y, _, rfl⟩ := List.mem_map.mp hx; exact neg_nn y
  a1 := by have := (frac_up h).2.1; show (frac f).1 ≤ _; omega
  b1 := by have := (frac_up h).2.2.2; show (frac f).2 ≤ _; omega
  dis := fun q hq => by
    rw [List.zip_map'] at hq
    obtain ⟨y, _, rfl⟩ := List.mem_map.mp hq
    show pos y = 0 ∨ neg y = 0
    unfold pos neg
    by_cases h : y > 0
    · right; rw [if_neg (by omega)]
    · left; rw [if_neg h]
theorem sh_prog (tb : List (Int × Int)) (h : tb.length ≤ 100) : Sh 3 (progD tb) := ⟨by rw [List.length_map]; unfold big; omega, fun d hd => by
  obtain ⟨q, _, rfl⟩ := List.mem_map.mp hd
  exact ⟨by simp [big], fun x hx => by
    simp at hx
    rcases hx with rfl | rfl <;> rfl⟩⟩
/-- the pot laid -/
theorem pot_at : Pt (s ++ [.lst [.int p]]) s.length p := by unfold Pt; simp
end
end Mp.L

namespace Mp.K03
open PySem L2 Mp PyProof.Rows Mp.L
/-! printed by gen.py: what each def does -/
/-- law(script): 0 script 1 k 2 pot 3 places 4 program 5 line 6 text 7 great 8 one -/
def m_law : MS := sSeq (sFor (iRng1 (eCB (p2 pMax2) (aCons (eC (.int 1)) (aCons (eCB (p2 pMin2) (aCons (eCB (p1 pLen) (aCons (eVar 0) (aNil))) (aCons (eC (.int 30)) (aNil)))) (aNil))))) (gNm 1) (sSeq (sAsg (eCall 1 F__law_pot (aCons (eCall 2 F__law_cell_at (aCons (eVar 0) (aCons (eVar 1) (aNil)))) (aNil))) (gNm 2)) (sSeq (sAsg (eCall 1 F__law_places (aCons (eVar 2) (aNil))) (gNm 3)) (sSeq (sAsg (eCall 3 F__law_program (aCons (eVar 2) (aCons (eVar 3) (aCons (eC (.int 10)) (aNil))))) (gNm 4)) (sSeq (sAsg (eCall 3 F__law_line (aCons (eVar 2) (aCons (eVar 3) (aCons (eOp pIx (eLst (aCons (eC (.int 9)) (aCons (eOp pPow (eC (.int 10)) (eC (.int 6))) (aNil)))) (eCall 2 F__law_take (aCons (eVar 2) (aCons (eC (.int 2)) (aNil))))) (aNil))))) (gNm 5)) (sSeq (sAsg (eCall 1 F__law_text_of (aCons (eVar 4) (aNil))) (gNm 6)) (sSeq (sIf (tOrS (eTest (eOp pNe (eCall 1 F_written (aCons (eVar 4) (aNil))) (eVar 6))) (tOrS (tNotS (eTest (eCall 2 (F__law_same 4) (aCons (eCall 1 F_read (aCons (eVar 6) (aNil))) (aCons (eVar 4) (aNil)))))) (eTest (eOp pNe (eCall 1 F_written (aCons (eCall 1 F_read (aCons (eVar 6) (aNil))) (aNil))) (eVar 6))))) (sRet (eC (.bl false))) (sSkip)) (sSeq (sAsg (eCall 1 F__law_line_text (aCons (eVar 5) (aNil))) (gNm 6)) (sSeq (sIf (tOrS (eTest (eOp pNe (eCall 1 F_powers_written (aCons (eVar 5) (aNil))) (eVar 6))) (tNotS (eTest (eCall 2 (F__law_same 4) (aCons (eCall 1 F_powers_read (aCons (eVar 6) (aNil))) (aCons (eVar 5) (aNil))))))) (sRet (eC (.bl false))) (sSkip)) (sSeq (sAsg (eCB (p1 pTuple) (aCons (cutE (eCompO [8] (iAny (eVar 5)) (gNm 8) (tYesS) (eOp pMul (eVar 8) (eOp pAdd (eOp pPow (eC (.int 10)) (eC (.int 6))) (eC (.int 1)))))) (aNil))) (gNm 7)) (sIf (eTest (eOp pNe (eCall 1 F_powers_written (aCons (eVar 7) (aNil))) (eCall 1 F__law_line_text (aCons (eVar 7) (aNil))))) (sRet (eC (.bl false))) (sSkip)))))))))))) (sRet (eAnd (eOp pEq (eCall 1 F_powers_written (aCons (eOp pMul (eTup (aCons (eC (.int 0)) (aNil))) (eC (.int 10))) (aNil))) (eC (.str "1"))) (eCall 2 (F__law_same 4) (aCons (eCall 1 F_powers_read (aCons (eC (.str "1")) (aNil))) (aCons (eOp pMul (eTup (aCons (eC (.int 0)) (aNil))) (eC (.int 10))) (aNil))))))
def F_law : FD := cut (runDef 9 m_law)
end Mp.K03

namespace Mp.K03
open PySem L2 Mp Mp.L TL
theorem law_ok (ns : List Int) (hl : ns.length ≤ 63) : OkE (F_law [.scr ns] []) fun d _ => d = .bl true := by
  refine cut_ok ?_
  unfold m_law
  have z0 : Ln [0, 0, 0, 0, 0, 0, 0, 0, 0, 0] 1 := ⟨rfl, fun x hx => by simp at hx; omega⟩
  have t0 : lineT [0, 0, 0, 0, 0, 0, 0, 0, 0, 0] = Str.ofString "1" := by decide +kernel
  simp [show 1 ≤ big by decide]
  refine ⟨decide_eq_true (by split <;> split <;> omega), ?_⟩
  refine for_ok (fun k e s => ∃ (a b c d x y z w : Option D), e = [some (.scr ns), a, b, c, d, x, y, z, w]) ⟨_, _, _, _, _, _, _, _, rfl⟩ (fun _ _ _ _ => rfl) ?_ ?_
  · rintro k d e s hd ⟨x1, x2, x3, x4, x5, x6, x7, x8, rfl⟩
    obtain ⟨hk, rfl⟩ := rgD_at hd
    refine ⟨_, gNm_eq, ?_⟩
    try simp
    refine cell_ok (by omega) fun c => ?_
    refine pot_ok fun p => ?_
    try simp
    refine places_ok pot_at fun pl p1 hnd hp h1 h5 => ?_
    try simp
    refine program_ok pot_at.pt h1 (by omega) hp (by decide) (by decide) fun fs p2 f1 f10 hfs => ?_
    rw [pt_pt]
    simp [big]
    refine take_any pot_at.pt (by decide) (by decide) fun c p3 c0 c1 => ?_
    rw [pt_pt]
    have hmost : ∃ most : Int, atI [D.int 9, D.int 1000000] c = some (.int most) ∧ 0 ≤ most ∧ most ≤ 1000000 := by
      rcases (show c = 0 ∨ c = 1 by omega) with rfl | rfl
      · exact ⟨9, rfl, by decide, by decide⟩
      · exact ⟨1000000, rfl, by decide, by decide⟩
    obtain ⟨most, hm, m0, m1⟩ := hmost
    simp [big, hm]
    refine line_ok pot_at.pt hp m0 (by omega) fun l p4 hl10 hb => ?_
    rw [pt_pt, progD_eq]
    have Lb : Ln l 1000001 := ⟨hl10, fun x hx => by have := hb x hx; omega⟩
    have hsm : ∀ q ∈ fs.map frac, Sm q := fun q hq => by
      obtain ⟨f, hf, rfl⟩ := List.mem_map.mp hq
      exact frac_sm (hfs f hf)
    have hfr : ∀ q ∈ fs.map frac, ∃ l1 l2, FrOk l1 l2 ∧ q = (prd PR l1, prd PR l2) := fun q hq => by
      obtain ⟨f, hf, rfl⟩ := List.mem_map.mp hq
      exact ⟨_, _, frac_ok (hfs f hf), rfl⟩
    have n1 : 1 ≤ (fs.map frac).length := by simpa using f1
    have n2 : (fs.map frac).length ≤ 16 := by rw [List.length_map]; omega
    try simp
    refine text_ok (by omega) hsm ?_
    try simp
    refine written_ok (by omega) hsm ?_
    try simp
    refine read_ok n1 n2 hsm hfr ?_
    refine Mp.L.same_refl 3 (sh_prog _ (by omega)) ?_
    try simp
    refine read_ok n1 n2 hsm hfr ?_
    refine written_ok (by omega) hsm ?_
    try simp
    refine line_text_ok Lb (by decide) ?_
    try simp
    refine powers_written_ok Lb (by decide) ?_
    try simp
    refine powers_read_ok Lb (by decide) ?_
    refine Mp.L.same_refl 3 (sh_ints 2 l (by rw [hl10]; decide)) ?_
    try simp
    refine comp_ints (l := l) (gd := []) (fun x => x * 1000001) (by apply OkE.eq; simp) (fun _ => rfl) (by rw [hl10]; decide) (fun x hx t => ?_) ?_
    · have hc : ∀ y : Int, cMul y 1000001 = true := fun y => decide_eq_true (.inr (by decide))
      simp [wipeD, hc]
    · have Lg : Ln (l.map fun x => x * 1000001) (10 ^ 13) := ⟨by simpa using hl10, fun x hx => by
        obtain ⟨y, hy, rfl⟩ := List.mem_map.mp hx
        have := hb y hy
        omega⟩
      simp [-List.map_map]
      refine powers_written_ok Lg (by decide) ?_
      refine line_text_ok Lg (by decide) ?_
      try simp
  · rintro e s ⟨x1, x2, x3, x4, x5, x6, x7, x8, rfl⟩
    refine powers_written_ok z0 (by decide) ?_
    simp [t0]
    have hr := powers_read_ok (s := s) (Q := fun d s => OkE (F__law_same 4 [d, D.tup [.int 0, .int 0, .int 0, .int 0, .int 0, .int 0, .int 0, .int 0, .int 0, .int 0]] s) (Out [] fun d x => d = D.bl true)) z0 (by decide)
    rw [t0] at hr
    refine hr ?_
    exact Mp.L.same_refl 3 (sh_ints 2 [0, 0, 0, 0, 0, 0, 0, 0, 0, 0] (by decide)) (.mk s (s1 := []) rfl rfl rfl rfl)
theorem law_true (ns : List Int) (hl : ns.length ≤ 63) : ∃ s, F_law [.scr ns] [] = .ok (.bl true) s := by
  obtain ⟨d, s, h, rfl⟩ := (law_ok ns hl).ex
  exact ⟨s, h⟩
end Mp.K03

namespace Mp.K03
open PySem L2 Mp PyProof.Rows Mp.L
/-! printed by gen.py: the program does it -/
def top (i : Nat) : Stmt := PySem.Challenge.pw_wholefract_k03_programs_and_powers_writt.main.body.getD i (.Pass ⟨0, 0, 0, 0⟩)
abbrev s__law_pot : Stmt := top 24
abbrev s__law_take : Stmt := top 25
abbrev s__law_order : Stmt := top 26
abbrev s__law_places : Stmt := top 27
abbrev s__law_primes : Stmt := top 28
abbrev s__law_product : Stmt := top 29
abbrev s__law_fraction : Stmt := top 30
abbrev s__law_program : Stmt := top 31
abbrev s__law_line : Stmt := top 32
abbrev s__law_text_of : Stmt := top 35
abbrev s__law_line_text : Stmt := top 36
abbrev s__law_whole : Stmt := top 33
abbrev s__law_same : Stmt := top 34
abbrev s__law_cell_at : Stmt := top 23
abbrev s_powers_written : Stmt := top 19
abbrev s_number_in : Stmt := top 16
abbrev s_part_in : Stmt := top 20
abbrev s_powers_read : Stmt := top 21
abbrev s_written : Stmt := top 17
abbrev s_found_powers : Stmt := top 9
abbrev s_is_whole : Stmt := top 7
abbrev s_is_upto : Stmt := top 8
abbrev s_is_fraction : Stmt := top 10
abbrev s_is_program : Stmt := top 11
abbrev s_read : Stmt := top 18
abbrev s_law : Stmt := top 37
theorem sc__law_pot : FnScope ["cell", "number", "j", "more"] ["cell"] (defScope s__law_pot) := ⟨rfl, rfl, rfl, by decide +kernel, rfl, by decide +kernel, by decide +kernel⟩
theorem sc__law_take : FnScope ["pot", "far", "found"] ["pot", "far"] (defScope s__law_take) := ⟨rfl, rfl, rfl, by decide +kernel, rfl, by decide +kernel, by decide +kernel⟩
theorem sc__law_order : FnScope ["pot", "wide", "found", "k"] ["pot", "wide"] (defScope s__law_order) := ⟨rfl, rfl, rfl, by decide +kernel, rfl, by decide +kernel, by decide +kernel⟩
theorem sc__law_places : FnScope ["pot", "wide"] ["pot"] (defScope s__law_places) := ⟨rfl, rfl, rfl, by decide +kernel, rfl, by decide +kernel, by decide +kernel⟩
theorem sc__law_primes : FnScope [] [] (defScope s__law_primes) := ⟨rfl, rfl, rfl, by decide +kernel, rfl, by decide +kernel, by decide +kernel⟩
theorem sc__law_product : FnScope ["line", "found", "prime", "often", "turn"] ["line"] (defScope s__law_product) := ⟨rfl, rfl, rfl, by decide +kernel, rfl, by decide +kernel, by decide +kernel⟩
theorem sc__law_fraction : FnScope ["pot", "places", "found", "turn", "place", "top", "bottom", "one"] ["pot", "places"] (defScope s__law_fraction) := ⟨rfl, rfl, rfl, by decide +kernel, rfl, by decide +kernel, by decide +kernel⟩
theorem sc__law_program : FnScope ["pot", "places", "most", "k"] ["pot", "places", "most"] (defScope s__law_program) := ⟨rfl, rfl, rfl, by decide +kernel, rfl, by decide +kernel, by decide +kernel⟩
theorem sc__law_line : FnScope ["pot", "places", "most", "found", "place"] ["pot", "places", "most"] (defScope s__law_line) := ⟨rfl, rfl, rfl, by decide +kernel, rfl, by decide +kernel, by decide +kernel⟩
theorem sc__law_text_of : FnScope ["program", "top", "bottom"] ["program"] (defScope s__law_text_of) := ⟨rfl, rfl, rfl, by decide +kernel, rfl, by decide +kernel, by decide +kernel⟩
theorem sc__law_line_text : FnScope ["line", "found", "prime", "often"] ["line"] (defScope s__law_line_text) := ⟨rfl, rfl, rfl, by decide +kernel, rfl, by decide +kernel, by decide +kernel⟩
theorem sc__law_whole : FnScope ["found"] ["found"] (defScope s__law_whole) := ⟨rfl, rfl, rfl, by decide +kernel, rfl, by decide +kernel, by decide +kernel⟩
theorem sc__law_same : FnScope ["found", "due", "one", "other"] ["found", "due"] (defScope s__law_same) := ⟨rfl, rfl, rfl, by decide +kernel, rfl, by decide +kernel, by decide +kernel⟩
theorem sc__law_cell_at : FnScope ["script", "k"] ["script", "k"] (defScope s__law_cell_at) := ⟨rfl, rfl, rfl, by decide +kernel, rfl, by decide +kernel, by decide +kernel⟩
theorem sc_powers_written : FnScope ["powers", "parts", "prime", "often"] ["powers"] (defScope s_powers_written) := ⟨rfl, rfl, rfl, by decide +kernel, rfl, by decide +kernel, by decide +kernel⟩
theorem sc_number_in : FnScope ["word", "sign"] ["word"] (defScope s_number_in) := ⟨rfl, rfl, rfl, by decide +kernel, rfl, by decide +kernel, by decide +kernel⟩
theorem sc_part_in : FnScope ["part", "halves", "half"] ["part"] (defScope s_part_in) := ⟨rfl, rfl, rfl, by decide +kernel, rfl, by decide +kernel, by decide +kernel⟩
theorem sc_powers_read : FnScope ["text", "found", "last", "part", "told"] ["text"] (defScope s_powers_read) := ⟨rfl, rfl, rfl, by decide +kernel, rfl, by decide +kernel, by decide +kernel⟩
theorem sc_written : FnScope ["program", "top", "bottom"] ["program"] (defScope s_written) := ⟨rfl, rfl, rfl, by decide +kernel, rfl, by decide +kernel, by decide +kernel⟩
theorem sc_found_powers : FnScope ["number", "found", "prime", "often"] ["number"] (defScope s_found_powers) := ⟨rfl, rfl, rfl, by decide +kernel, rfl, by decide +kernel, by decide +kernel⟩
theorem sc_is_whole : FnScope ["thing"] ["thing"] (defScope s_is_whole) := ⟨rfl, rfl, rfl, by decide +kernel, rfl, by decide +kernel, by decide +kernel⟩
theorem sc_is_upto : FnScope ["thing", "least", "most"] ["thing", "least", "most"] (defScope s_is_upto) := ⟨rfl, rfl, rfl, by decide +kernel, rfl, by decide +kernel, by decide +kernel⟩
theorem sc_is_fraction : FnScope ["thing", "top", "bottom", "one", "other"] ["thing"] (defScope s_is_fraction) := ⟨rfl, rfl, rfl, by decide +kernel, rfl, by decide +kernel, by decide +kernel⟩
theorem sc_is_program : FnScope ["thing", "one"] ["thing"] (defScope s_is_program) := ⟨rfl, rfl, rfl, by decide +kernel, rfl, by decide +kernel, by decide +kernel⟩
theorem sc_read : FnScope ["text", "found", "word", "parts", "part"] ["text"] (defScope s_read) := ⟨rfl, rfl, rfl, by decide +kernel, rfl, by decide +kernel, by decide +kernel⟩
theorem sc_law : FnScope ["script", "k", "pot", "places", "program", "line", "text", "great", "one"] ["script"] (defScope s_law) := ⟨rfl, rfl, rfl, by decide +kernel, rfl, by decide +kernel, by decide +kernel⟩
structure Tx (K : PySem.W.Frag) (mg : Str → Option Value) : Prop where
  b_all : mg "all" = none
  b_bool : mg "bool" = none
  b_int : mg "int" = none
  b_isinstance : mg "isinstance" = none
  b_len : mg "len" = none
  b_list : mg "list" = none
  b_max : mg "max" = none
  b_min : mg "min" = none
  b_range : mg "range" = none
  b_str : mg "str" = none
  b_tuple : mg "tuple" = none
  b_zip : mg "zip" = none
  c_FIGURES : StrC mg "FIGURES" "0123456789"
  c_GREATEST : IntC mg "GREATEST" 1000000
  c_MOST : IntC mg "MOST" 1000000000000
  c_MOST_FIGURES : IntC mg "MOST_FIGURES" 13
  c_MOST_FRACTIONS : IntC mg "MOST_FRACTIONS" 16
  c_PRIMES : TupC K mg "PRIMES" K_PRIMES
  f__law_pot : Df K mg "_law_pot" s__law_pot ["cell"]
  f__law_take : Df K mg "_law_take" s__law_take ["pot", "far"]
  f__law_order : Df K mg "_law_order" s__law_order ["pot", "wide"]
  f__law_places : Df K mg "_law_places" s__law_places ["pot"]
  f__law_primes : Df K mg "_law_primes" s__law_primes []
  f__law_product : Df K mg "_law_product" s__law_product ["line"]
  f__law_fraction : Df K mg "_law_fraction" s__law_fraction ["pot", "places"]
  f__law_program : Df K mg "_law_program" s__law_program ["pot", "places", "most"]
  f__law_line : Df K mg "_law_line" s__law_line ["pot", "places", "most"]
  f__law_text_of : Df K mg "_law_text_of" s__law_text_of ["program"]
  f__law_line_text : Df K mg "_law_line_text" s__law_line_text ["line"]
  f__law_whole : Df K mg "_law_whole" s__law_whole ["found"]
  f__law_same : Df K mg "_law_same" s__law_same ["found", "due"]
  f__law_cell_at : Df K mg "_law_cell_at" s__law_cell_at ["script", "k"]
  f_powers_written : Df K mg "powers_written" s_powers_written ["powers"]
  f_number_in : Df K mg "number_in" s_number_in ["word"]
  f_part_in : Df K mg "part_in" s_part_in ["part"]
  f_powers_read : Df K mg "powers_read" s_powers_read ["text"]
  f_written : Df K mg "written" s_written ["program"]
  f_found_powers : Df K mg "found_powers" s_found_powers ["number"]
  f_is_whole : Df K mg "is_whole" s_is_whole ["thing"]
  f_is_upto : Df K mg "is_upto" s_is_upto ["thing", "least", "most"]
  f_is_fraction : Df K mg "is_fraction" s_is_fraction ["thing"]
  f_is_program : Df K mg "is_program" s_is_program ["thing"]
  f_read : Df K mg "read" s_read ["text"]
  f_law : Df K mg "law" s_law ["script"]
section
variable {P : Program} {w : World} {K : PySem.W.Frag} {mg : Str → Option Value} {base : Heap} (T : Tx K mg)
include T
theorem d__law_pot : Cal P w K mg base "_law_pot" 1 1 F__law_pot := by
  exact (cal_of (k := 0) T.f__law_pot sc__law_pot rfl fun f cdv A outer s H E C => ss_cons (s_if (st_cmp mp_ge (se_var 0) (se_op mp_pow (se_int) (se_int)) rfl) (ss_one (s_ret (se_lstO (sa_cons (se_op mp_sub (se_var 0) (se_op mp_pow (se_int) (se_int))) (sa_nil))))) (ss_nil)) (ss_cons (s_set (i := 1) C.nd (se_int)) (ss_cons (s_for C (si_rng1 T.b_range (se_int)) (g_name C.nd (i := 2)) (ss_cons (s_set (i := 3) C.nd (se_op mp_mod (se_op mp_mul (se_op mp_add (se_op mp_add (se_op mp_mod (se_var 0) (se_int)) (se_op mp_mul (se_int) (se_var 2))) (se_int)) (se_int)) (se_int))) (ss_cons (s_set (i := 3) C.nd (se_op mp_mod (se_op mp_add (se_op mp_add (se_op mp_mul (se_var 3) (se_var 3)) (se_op mp_mul (se_int) (se_var 2))) (se_int)) (se_int))) (ss_one (s_set (i := 1) C.nd (se_op mp_add (se_op mp_mul (se_var 1) (se_int)) (se_var 3))))))) (ss_one (s_ret (se_lstO (sa_cons (se_var 1) (sa_nil)))))))).cutO
theorem d__law_take : Cal P w K mg base "_law_take" 1 2 F__law_take := by
  exact (cal_of (k := 0) T.f__law_take sc__law_take rfl fun f cdv A outer s H E C => ss_cons (s_set (i := 2) C.nd (se_op mp_mod (se_ix mp_ix (se_var 0) (se_int)) (se_var 1))) (ss_cons (s_sub (se_op mp_fdv (se_ix mp_ix (se_var 0) (se_int)) (se_var 1)) (se_var 0) (se_int)) (ss_one (s_ret (se_var 2))))).cut
theorem d__law_order : Cal P w K mg base "_law_order" 2 2 F__law_order := by
  have c__law_take := d__law_take (P := P) (w := w) (base := base) T
  exact (cal_of (k := 1) T.f__law_order sc__law_order rfl fun f cdv A outer s H E C => ss_cons (s_set (i := 2) C.nd (se_lstO (sa_nil))) (ss_cons (s_for C (si_rng1 T.b_range (se_var 1)) (g_name C.nd (i := 3)) (ss_one (s_expr (se_bm PySem.F.plainAttrs_list PySem.F.slot_list_insert PySem.F.type_list_insert mp_insert (se_var 2) (sa_cons (se_call C c__law_take (sa_cons (se_var 0) (sa_cons (se_op mp_add (se_var 3) (se_int)) (sa_nil)))) (sa_cons (se_var 3) (sa_nil))))))) (ss_one (s_ret (se_ct mp_tuple PyProof.Rows.boot_tuple T.b_tuple (sa_cons (se_var 2) (sa_nil))))))).cut
theorem d__law_places : Cal P w K mg base "_law_places" 3 1 F__law_places := by
  have c__law_take := d__law_take (P := P) (w := w) (base := base) T
  have c__law_order := d__law_order (P := P) (w := w) (base := base) T
  exact (cal_of (k := 2) T.f__law_places sc__law_places rfl fun f cdv A outer s H E C => ss_cons (s_set (i := 1) C.nd (se_op mp_add (se_int) (se_call C c__law_take (sa_cons (se_var 0) (sa_cons (se_int) (sa_nil)))))) (ss_cons (s_if (st_cmp (mp_eq C.hu) (se_call C c__law_take (sa_cons (se_var 0) (sa_cons (se_int) (sa_nil)))) (se_int) rfl) (ss_one (s_ret (se_tupRg1 C T.b_range T.b_tuple (se_var 1)))) (ss_nil)) (ss_one (s_ret (se_sl (se_call C c__law_order (sa_cons (se_var 0) (sa_cons (se_int) (sa_nil)))) (so_no) (so_at (se_var 1))))))).cut
theorem d__law_primes : Cal P w K mg base "_law_primes" 1 0 F__law_primes := by
  exact (cal_of (k := 0) T.f__law_primes sc__law_primes rfl fun f cdv A outer s H E C => ss_one (s_ret (se_tup (sa_cons (se_int) (sa_cons (se_int) (sa_cons (se_int) (sa_cons (se_int) (sa_cons (se_int) (sa_cons (se_int) (sa_cons (se_int) (sa_cons (se_int) (sa_cons (se_int) (sa_cons (se_int) (sa_nil)))))))))))))).cut
theorem d__law_product : Cal P w K mg base "_law_product" 2 1 F__law_product := by
  have c__law_primes := d__law_primes (P := P) (w := w) (base := base) T
  exact (cal_of (k := 1) T.f__law_product sc__law_product rfl fun f cdv A outer s H E C => ss_cons (s_set (i := 1) C.nd (se_int)) (ss_cons (s_for C (si_zip2 T.b_zip (se_call0 C c__law_primes) (se_var 0)) (g_tup C.calm (gs_cons (g_name C.nd (i := 2)) (gs_cons (g_name C.nd (i := 3)) (gs_nil)))) (ss_one (s_for C (si_rng1 T.b_range (se_var 3)) (g_name C.nd (i := 4)) (ss_one (s_set (i := 1) C.nd (se_op mp_mul (se_var 1) (se_var 2))))))) (ss_one (s_ret (se_var 1))))).cut
theorem d__law_fraction : Cal P w K mg base "_law_fraction" 3 2 F__law_fraction := by
  have c__law_take := d__law_take (P := P) (w := w) (base := base) T
  have c__law_product := d__law_product (P := P) (w := w) (base := base) T
  exact (cal_of (k := 2) T.f__law_fraction sc__law_fraction rfl fun f cdv A outer s H E C => ss_cons (s_set (i := 2) C.nd (se_op mp_mulO (se_lst (sa_cons (se_int) (sa_nil))) (se_int))) (ss_cons (s_for C (si_rng1 T.b_range (se_call C c__law_take (sa_cons (se_var 0) (sa_cons (se_int) (sa_nil))))) (g_name C.nd (i := 3)) (ss_cons (s_set (i := 4) C.nd (se_ix mp_ix (se_var 1) (se_call C c__law_take (sa_cons (se_var 0) (sa_cons (se_cb mp_len PySem.boot_len T.b_len (sa_cons (se_var 1) (sa_nil))) (sa_nil)))))) (ss_one (s_sub (se_op mp_add (se_ix mp_ix (se_var 2) (se_var 4)) (se_int)) (se_var 2) (se_var 4))))) (ss_cons (s_for C (si_rng1 T.b_range (se_call C c__law_take (sa_cons (se_var 0) (sa_cons (se_int) (sa_nil))))) (g_name C.nd (i := 3)) (ss_cons (s_set (i := 4) C.nd (se_ix mp_ix (se_var 1) (se_call C c__law_take (sa_cons (se_var 0) (sa_cons (se_cb mp_len PySem.boot_len T.b_len (sa_cons (se_var 1) (sa_nil))) (sa_nil)))))) (ss_one (s_sub (se_op mp_sub (se_ix mp_ix (se_var 2) (se_var 4)) (se_int)) (se_var 2) (se_var 4))))) (ss_cons (s_set (i := 5) C.nd (se_ct mp_tuple PyProof.Rows.boot_tuple T.b_tuple (sa_cons (se_cut (se_comp (own := [("one", 7)]) C (si_any (se_var 2)) (by rfl) (fun _ _ _ _ _ C => g_name C.nd (i := 7)) (fun _ _ _ _ _ C => spt_nil) (fun _ _ _ _ _ C => se_cb (mp_max2 C.calm) PyProof.Rows.boot_max T.b_max (sa_cons (se_int) (sa_cons (se_var 7) (sa_nil)))))) (sa_nil)))) (ss_cons (s_set (i := 6) C.nd (se_ct mp_tuple PyProof.Rows.boot_tuple T.b_tuple (sa_cons (se_cut (se_comp (own := [("one", 7)]) C (si_any (se_var 2)) (by rfl) (fun _ _ _ _ _ C => g_name C.nd (i := 7)) (fun _ _ _ _ _ C => spt_nil) (fun _ _ _ _ _ C => se_cb (mp_max2 C.calm) PyProof.Rows.boot_max T.b_max (sa_cons (se_int) (sa_cons (se_op mp_sub (se_int) (se_var 7)) (sa_nil)))))) (sa_nil)))) (ss_one (s_ret (se_tup (sa_cons (se_call C c__law_product (sa_cons (se_var 5) (sa_nil))) (sa_cons (se_call C c__law_product (sa_cons (se_var 6) (sa_nil))) (sa_nil))))))))))).cut
theorem d__law_program : Cal P w K mg base "_law_program" 4 3 F__law_program := by
  have c__law_fraction := d__law_fraction (P := P) (w := w) (base := base) T
  have c__law_take := d__law_take (P := P) (w := w) (base := base) T
  exact (cal_of (k := 3) T.f__law_program sc__law_program rfl fun f cdv A outer s H E C => ss_one (s_ret (se_ct mp_tuple PyProof.Rows.boot_tuple T.b_tuple (sa_cons (se_cut (se_comp (own := [("k", 3)]) C (si_rng1 T.b_range (se_op mp_add (se_int) (se_call C c__law_take (sa_cons (se_var 0) (sa_cons (se_var 2) (sa_nil)))))) (by rfl) (fun _ _ _ _ _ C => g_name C.nd (i := 3)) (fun _ _ _ _ _ C => spt_nil) (fun _ _ _ _ _ C => se_call C c__law_fraction (sa_cons (se_var 0) (sa_cons (se_var 1) (sa_nil)))))) (sa_nil))))).cut
theorem d__law_line : Cal P w K mg base "_law_line" 2 3 F__law_line := by
  have c__law_take := d__law_take (P := P) (w := w) (base := base) T
  exact (cal_of (k := 1) T.f__law_line sc__law_line rfl fun f cdv A outer s H E C => ss_cons (s_set (i := 3) C.nd (se_op mp_mulO (se_lst (sa_cons (se_int) (sa_nil))) (se_int))) (ss_cons (s_for C (si_any (se_var 1)) (g_name C.nd (i := 4)) (ss_one (s_sub (se_call C c__law_take (sa_cons (se_var 0) (sa_cons (se_op mp_add (se_var 2) (se_int)) (sa_nil)))) (se_var 3) (se_var 4)))) (ss_cons (s_if (st_cmp (mp_eq C.hu) (se_call C c__law_take (sa_cons (se_var 0) (sa_cons (se_int) (sa_nil)))) (se_int) rfl) (ss_one (s_sub (se_call C c__law_take (sa_cons (se_var 0) (sa_cons (se_op mp_add (se_var 2) (se_int)) (sa_nil)))) (se_var 3) (se_call C c__law_take (sa_cons (se_var 0) (sa_cons (se_int) (sa_nil)))))) (ss_nil)) (ss_one (s_ret (se_ct mp_tuple PyProof.Rows.boot_tuple T.b_tuple (sa_cons (se_var 3) (sa_nil)))))))).cut
theorem d__law_text_of : Cal P w K mg base "_law_text_of" 1 1 F__law_text_of := by
  exact (cal_of (k := 0) T.f__law_text_of sc__law_text_of rfl fun f cdv A outer s H E C => ss_one (s_ret (se_bm PySem.F.plainAttrs_str PySem.F.slot_str_join PySem.F.type_str_join mp_join (se_str) (sa_cons (se_cut (se_comp (own := [("top", 1), ("bottom", 2)]) C (si_any (se_var 0)) (by rfl) (fun _ _ _ _ _ C => g_tup C.calm (gs_cons (g_name C.nd (i := 1)) (gs_cons (g_name C.nd (i := 2)) (gs_nil)))) (fun _ _ _ _ _ C => spt_nil) (fun _ _ _ _ _ C => se_op mp_add (se_op mp_add (se_ct mp_str PyProof.Rows.boot_str T.b_str (sa_cons (se_var 1) (sa_nil))) (se_str)) (se_ct mp_str PyProof.Rows.boot_str T.b_str (sa_cons (se_var 2) (sa_nil)))))) (sa_nil))))).cut
theorem d__law_line_text : Cal P w K mg base "_law_line_text" 2 1 F__law_line_text := by
  have c__law_primes := d__law_primes (P := P) (w := w) (base := base) T
  exact (cal_of (k := 1) T.f__law_line_text sc__law_line_text rfl fun f cdv A outer s H E C => ss_cons (s_set (i := 1) C.nd (se_str)) (ss_cons (s_for C (si_zip2 T.b_zip (se_call0 C c__law_primes) (se_var 0)) (g_tup C.calm (gs_cons (g_name C.nd (i := 2)) (gs_cons (g_name C.nd (i := 3)) (gs_nil)))) (ss_one (s_if (st_cmp mp_gt (se_var 3) (se_int) rfl) (ss_one (s_set (i := 1) C.nd (se_op mp_add (se_op mp_add (se_op mp_add (se_op mp_add (se_var 1) (se_op mp_mulS (se_str) (se_ct mp_int PyProof.Rows.boot_int T.b_int (sa_cons (se_cmp (mp_ne C.hu) (se_var 1) (se_str) rfl) (sa_nil))))) (se_ct mp_str PyProof.Rows.boot_str T.b_str (sa_cons (se_var 2) (sa_nil)))) (se_str)) (se_ct mp_str PyProof.Rows.boot_str T.b_str (sa_cons (se_var 3) (sa_nil)))))) (ss_nil)))) (ss_cons (s_if (st_cmp (mp_eq C.hu) (se_var 1) (se_str) rfl) (ss_one (s_ret (se_str))) (ss_nil)) (ss_one (s_ret (se_var 1)))))).cut
theorem d__law_whole : Cal P w K mg base "_law_whole" 1 1 F__law_whole := by
  exact (cal_of (k := 0) T.f__law_whole sc__law_whole rfl fun f cdv A outer s H E C => ss_one (s_ret (se_and (se_cb mp_isi PyProof.Rows.boot_isinstance T.b_isinstance (sa_cons (se_var 0) (sa_cons (se_ty PyProof.Rows.boot_int T.b_int) (sa_nil)))) (se_one (se_not (se_cb mp_isi PyProof.Rows.boot_isinstance T.b_isinstance (sa_cons (se_var 0) (sa_cons (se_ty PyProof.Rows.boot_bool T.b_bool) (sa_nil))))))))).cut
theorem d0__law_same : ∀ n, Cal P w K mg base "_law_same" (2 + n) 2 (F__law_same n)
  | 0 => (cal_of T.f__law_same sc__law_same rfl fun f cdv A outer s H E C => ss_never).less fun ds s h => absurd rfl h
  | n + 1 => by
    have c__law_whole := d__law_whole (P := P) (w := w) (base := base) T
    have rc := d0__law_same n
    exact (cal_of (k := 2 + n) T.f__law_same sc__law_same rfl fun f cdv A outer s H E C => by
      have hk : ∀ j, j ≤ 1 → j ≤ 2 + n := fun j h => by omega
      exact ss_cons (s_if (st_cmp mp_is (se_var 1) (se_non) rfl) (ss_one (s_ret (se_cmp mp_is (se_var 0) (se_non) rfl))) (ss_nil)) (ss_cons (s_if (st_val (se_cb mp_isi PyProof.Rows.boot_isinstance T.b_isinstance (sa_cons (se_var 1) (sa_cons (se_ty PyProof.Rows.boot_bool T.b_bool) (sa_nil))))) (ss_one (s_ret (se_and (se_cb mp_isi PyProof.Rows.boot_isinstance T.b_isinstance (sa_cons (se_var 0) (sa_cons (se_ty PyProof.Rows.boot_bool T.b_bool) (sa_nil)))) (se_one (se_cmp (mp_eq C.hu) (se_var 0) (se_var 1) rfl))))) (ss_nil)) (ss_cons (s_if (st_val (se_cb mp_isi PyProof.Rows.boot_isinstance T.b_isinstance (sa_cons (se_var 1) (sa_cons (se_ty PyProof.Rows.boot_int T.b_int) (sa_nil))))) (ss_one (s_ret (se_and (se_call C (hj := hk _ (by decide)) c__law_whole (sa_cons (se_var 0) (sa_nil))) (se_one (se_cmp (mp_eq C.hu) (se_var 0) (se_var 1) rfl))))) (ss_nil)) (ss_cons (s_if (st_val (se_cb mp_isi PyProof.Rows.boot_isinstance T.b_isinstance (sa_cons (se_var 1) (sa_cons (se_ty PyProof.Rows.boot_str T.b_str) (sa_nil))))) (ss_one (s_ret (se_and (se_cb mp_isi PyProof.Rows.boot_isinstance T.b_isinstance (sa_cons (se_var 0) (sa_cons (se_ty PyProof.Rows.boot_str T.b_str) (sa_nil)))) (se_one (se_cmp (mp_eq C.hu) (se_var 0) (se_var 1) rfl))))) (ss_nil)) (ss_cons (s_if (st_of (sw_or (st_cmp (mp_ne C.hu) (se_cb mp_isi PyProof.Rows.boot_isinstance T.b_isinstance (sa_cons (se_var 1) (sa_cons (se_ty PyProof.Rows.boot_tuple T.b_tuple) (sa_nil)))) (se_cb mp_isi PyProof.Rows.boot_isinstance T.b_isinstance (sa_cons (se_var 0) (sa_cons (se_ty PyProof.Rows.boot_tuple T.b_tuple) (sa_nil)))) rfl) (sw_or1 (st_cmp (mp_ne C.hu) (se_cb mp_isi PyProof.Rows.boot_isinstance T.b_isinstance (sa_cons (se_var 1) (sa_cons (se_ty PyProof.Rows.boot_list T.b_list) (sa_nil)))) (se_cb mp_isi PyProof.Rows.boot_isinstance T.b_isinstance (sa_cons (se_var 0) (sa_cons (se_ty PyProof.Rows.boot_list T.b_list) (sa_nil)))) rfl)))) (ss_one (s_ret (se_bl))) (ss_nil)) (ss_one (s_ret (se_and (se_cmp (mp_eq C.hu) (se_cb mp_len PySem.boot_len T.b_len (sa_cons (se_var 0) (sa_nil))) (se_cb mp_len PySem.boot_len T.b_len (sa_cons (se_var 1) (sa_nil))) rfl) (se_one (se_cb (mp_all C.calm) PyProof.Rows.boot_all T.b_all (sa_cons (se_cut (se_comp (own := [("one", 2), ("other", 3)]) C (si_zip2 T.b_zip (se_var 0) (se_var 1)) (by rfl) (fun _ _ _ _ _ C => g_tup C.calm (gs_cons (g_name C.nd (i := 2)) (gs_cons (g_name C.nd (i := 3)) (gs_nil)))) (fun _ _ _ _ _ C => spt_nil) (fun _ _ _ _ _ C => se_call C (hj := Nat.le_refl _) rc (sa_cons (se_var 2) (sa_cons (se_var 3) (sa_nil)))))) (sa_nil)))))))))))).cut
theorem d__law_same : Cal P w K mg base "_law_same" 6 2 (F__law_same 4) := d0__law_same T 4
theorem d__law_cell_at : Cal P w K mg base "_law_cell_at" 1 2 F__law_cell_at := by
  exact (cal_of (k := 0) T.f__law_cell_at sc__law_cell_at rfl fun f cdv A outer s H E C => ss_cons (s_if (st_cmp (mp_lt C.hu0) (se_var 1) (se_cb mp_len PySem.boot_len T.b_len (sa_cons (se_var 0) (sa_nil))) rfl) (ss_one (s_ret (se_ix mp_ix (se_var 0) (se_var 1)))) (ss_nil)) (ss_one (s_ret (se_int)))).cut
theorem d_powers_written : Cal P w K mg base "powers_written" 1 1 F_powers_written := by
  exact (cal_of (k := 0) T.f_powers_written sc_powers_written rfl fun f cdv A outer s H E C => ss_cons (s_setLcG (own := [("prime", 2), ("often", 3)]) (i := 1) C (by rfl) (si_zip2 T.b_zip (se_gtup T.c_PRIMES) (se_var 0)) (by rfl) (fun _ _ _ _ _ C => g_tup C.calm (gs_cons (g_name C.nd (i := 2)) (gs_cons (g_name C.nd (i := 3)) (gs_nil)))) (fun _ _ _ _ _ C => spt_one (st_cmp mp_gt (se_var 3) (se_int) rfl)) (fun _ _ _ _ _ C => se_op mp_add (se_op mp_add (se_ct mp_str PyProof.Rows.boot_str T.b_str (sa_cons (se_var 2) (sa_nil))) (se_str)) (se_ct mp_str PyProof.Rows.boot_str T.b_str (sa_cons (se_var 3) (sa_nil)))) rdCut) (ss_cons (s_if (st_cmp (mp_eq C.hu) (se_var 1) (se_lst (sa_nil)) rfl) (ss_one (s_ret (se_str))) (ss_nil)) (ss_one (s_ret (se_bm PySem.F.plainAttrs_str PySem.F.slot_str_join PySem.F.type_str_join mp_join (se_str) (sa_cons (se_var 1) (sa_nil))))))).cut
theorem d_number_in : Cal P w K mg base "number_in" 1 1 F_number_in := by
  exact (cal_of (k := 0) T.f_number_in sc_number_in rfl fun f cdv A outer s H E C => ss_cons (s_if (st_of (sw_or (st_not (st_ch mp_le mp_le (se_int) (se_cb mp_len PySem.boot_len T.b_len (sa_cons (se_var 0) (sa_nil))) (se_gint T.c_MOST_FIGURES))) (sw_or1 (st_of (sw_and (st_cmp (mp_eq C.hu) (se_ix mp_ix (se_var 0) (se_int)) (se_str) rfl) (sw_and1 (st_cmp (mp_ne C.hu) (se_var 0) (se_str) rfl))))))) (ss_one (s_ret (se_non))) (ss_nil)) (ss_cons (s_for C (si_any (se_var 0)) (g_name C.nd (i := 1)) (ss_one (s_if (st_cmp mp_notIn (se_var 1) (se_gstr T.c_FIGURES) rfl) (ss_one (s_ret (se_non))) (ss_nil)))) (ss_one (s_ret (se_ct mp_int PyProof.Rows.boot_int T.b_int (sa_cons (se_var 0) (sa_nil))))))).cut
theorem d_part_in : Cal P w K mg base "part_in" 2 1 F_part_in := by
  have c_number_in := d_number_in (P := P) (w := w) (base := base) T
  exact (cal_of (k := 1) T.f_part_in sc_part_in rfl fun f cdv A outer s H E C => ss_cons (s_setLcG (own := [("half", 2)]) (i := 1) C (by rfl) (si_any (se_bm PySem.F.plainAttrs_str PySem.F.slot_str_split PySem.F.type_str_split mp_split (se_var 0) (sa_cons (se_str) (sa_nil)))) (by rfl) (fun _ _ _ _ _ C => g_name C.nd (i := 2)) (fun _ _ _ _ _ C => spt_nil) (fun _ _ _ _ _ C => se_call C c_number_in (sa_cons (se_var 2) (sa_nil))) rdCut) (ss_cons (s_if (st_of (sw_or (st_cmp (mp_ne C.hu) (se_cb mp_len PySem.boot_len T.b_len (sa_cons (se_var 1) (sa_nil))) (se_int) rfl) (sw_or (st_cmp mp_notIn (se_ix mp_ix (se_var 1) (se_int)) (se_gtup T.c_PRIMES) rfl) (sw_or (st_cmp mp_is (se_ix mp_ix (se_var 1) (se_int)) (se_non) rfl) (sw_or1 (st_not (st_ch mp_le mp_le (se_int) (se_ix mp_ix (se_var 1) (se_int)) (se_gint T.c_GREATEST)))))))) (ss_one (s_ret (se_non))) (ss_nil)) (ss_one (s_ret (se_tup (sa_cons (se_idxC T.c_PRIMES (se_ix mp_ix (se_var 1) (se_int))) (sa_cons (se_ix mp_ix (se_var 1) (se_int)) (sa_nil)))))))).cut
theorem d_powers_read : Cal P w K mg base "powers_read" 3 1 F_powers_read := by
  have c_part_in := d_part_in (P := P) (w := w) (base := base) T
  exact (cal_of (k := 2) T.f_powers_read sc_powers_read rfl fun f cdv A outer s H E C => ss_cons (s_if (st_not (st_val (se_cb mp_isi PyProof.Rows.boot_isinstance T.b_isinstance (sa_cons (se_var 0) (sa_cons (se_ty PyProof.Rows.boot_str T.b_str) (sa_nil)))))) (ss_one (s_never)) (ss_nil)) (ss_cons (s_set (i := 1) C.nd (se_op mp_mulO (se_lst (sa_cons (se_int) (sa_nil))) (se_cb mp_len PySem.boot_len T.b_len (sa_cons (se_gtup T.c_PRIMES) (sa_nil))))) (ss_cons (s_if (st_cmp (mp_eq C.hu) (se_var 0) (se_str) rfl) (ss_one (s_ret (se_ct mp_tuple PyProof.Rows.boot_tuple T.b_tuple (sa_cons (se_var 1) (sa_nil))))) (ss_nil)) (ss_cons (s_set (i := 2) C.nd (se_neg (se_int))) (ss_cons (s_for C (si_any (se_bm PySem.F.plainAttrs_str PySem.F.slot_str_split PySem.F.type_str_split mp_split (se_var 0) (sa_cons (se_str) (sa_nil)))) (g_name C.nd (i := 3)) (ss_cons (s_set (i := 4) C.nd (se_call C c_part_in (sa_cons (se_var 3) (sa_nil)))) (ss_cons (s_if (st_of (sw_or (st_cmp mp_is (se_var 4) (se_non) rfl) (sw_or1 (st_cmp mp_le (se_ix mp_ix (se_var 4) (se_int)) (se_var 2) rfl)))) (ss_one (s_never)) (ss_nil)) (ss_cons (s_set (i := 2) C.nd (se_ix mp_ix (se_var 4) (se_int))) (ss_one (s_sub (se_ix mp_ix (se_var 4) (se_int)) (se_var 1) (se_var 2))))))) (ss_one (s_ret (se_ct mp_tuple PyProof.Rows.boot_tuple T.b_tuple (sa_cons (se_var 1) (sa_nil)))))))))).cut
theorem d_written : Cal P w K mg base "written" 1 1 F_written := by
  exact (cal_of (k := 0) T.f_written sc_written rfl fun f cdv A outer s H E C => ss_one (s_ret (se_bm PySem.F.plainAttrs_str PySem.F.slot_str_join PySem.F.type_str_join mp_join (se_str) (sa_cons (se_cut (se_comp (own := [("top", 1), ("bottom", 2)]) C (si_any (se_var 0)) (by rfl) (fun _ _ _ _ _ C => g_tup C.calm (gs_cons (g_name C.nd (i := 1)) (gs_cons (g_name C.nd (i := 2)) (gs_nil)))) (fun _ _ _ _ _ C => spt_nil) (fun _ _ _ _ _ C => se_op mp_add (se_op mp_add (se_ct mp_str PyProof.Rows.boot_str T.b_str (sa_cons (se_var 1) (sa_nil))) (se_str)) (se_ct mp_str PyProof.Rows.boot_str T.b_str (sa_cons (se_var 2) (sa_nil)))))) (sa_nil))))).cut
theorem d_found_powers : Cal P w K mg base "found_powers" 1 1 F_found_powers := by
  exact (cal_of (k := 0) T.f_found_powers sc_found_powers rfl fun f cdv A outer s H E C => ss_cons (s_set (i := 1) C.nd (se_lstO (sa_nil))) (ss_cons (s_for C (si_any (se_gtup T.c_PRIMES)) (g_name C.nd (i := 2)) (ss_cons (s_set (i := 3) C.nd (se_int)) (ss_cons (s_while (natAt 0) C (st_cmp (mp_eq C.hu) (se_op mp_mod (se_var 0) (se_var 2)) (se_int) rfl) (ss_cons (s_set (i := 0) C.nd (se_op mp_fdv (se_var 0) (se_var 2))) (ss_one (s_set (i := 3) C.nd (se_op mp_add (se_var 3) (se_int)))))) (ss_one (s_expr (se_bm PySem.F.plainAttrs_list PySem.F.slot_list_append PySem.F.type_list_append mp_append (se_var 1) (sa_cons (se_var 3) (sa_nil)))))))) (ss_cons (s_if (st_cmp (mp_ne C.hu) (se_var 0) (se_int) rfl) (ss_one (s_ret (se_non))) (ss_nil)) (ss_one (s_ret (se_ct mp_tuple PyProof.Rows.boot_tuple T.b_tuple (sa_cons (se_var 1) (sa_nil)))))))).cut
theorem d_is_whole : Cal P w K mg base "is_whole" 1 1 F_is_whole := by
  exact (cal_of (k := 0) T.f_is_whole sc_is_whole rfl fun f cdv A outer s H E C => ss_one (s_ret (se_and (se_cb mp_isi PyProof.Rows.boot_isinstance T.b_isinstance (sa_cons (se_var 0) (sa_cons (se_ty PyProof.Rows.boot_int T.b_int) (sa_nil)))) (se_one (se_not (se_cb mp_isi PyProof.Rows.boot_isinstance T.b_isinstance (sa_cons (se_var 0) (sa_cons (se_ty PyProof.Rows.boot_bool T.b_bool) (sa_nil))))))))).cut
theorem d_is_upto : Cal P w K mg base "is_upto" 2 3 F_is_upto := by
  have c_is_whole := d_is_whole (P := P) (w := w) (base := base) T
  exact (cal_of (k := 1) T.f_is_upto sc_is_upto rfl fun f cdv A outer s H E C => ss_one (s_ret (se_and (se_call C c_is_whole (sa_cons (se_var 0) (sa_nil))) (se_one (se_ch mp_le mp_le (se_var 1) (se_var 0) (se_var 2)))))).cut
theorem d_is_fraction : Cal P w K mg base "is_fraction" 3 1 F_is_fraction := by
  have c_found_powers := d_found_powers (P := P) (w := w) (base := base) T
  have c_is_upto := d_is_upto (P := P) (w := w) (base := base) T
  exact (cal_of (k := 2) T.f_is_fraction sc_is_fraction rfl fun f cdv A outer s H E C => ss_cons (s_if (st_of (sw_or (st_not (st_val (se_cb mp_isi PyProof.Rows.boot_isinstance T.b_isinstance (sa_cons (se_var 0) (sa_cons (se_ty PyProof.Rows.boot_tuple T.b_tuple) (sa_nil)))))) (sw_or1 (st_cmp (mp_ne C.hu) (se_cb mp_len PySem.boot_len T.b_len (sa_cons (se_var 0) (sa_nil))) (se_int) rfl)))) (ss_one (s_ret (se_bl))) (ss_nil)) (ss_cons (s_if (st_of (sw_or (st_not (st_val (se_call C c_is_upto (sa_cons (se_ix mp_ix (se_var 0) (se_int)) (sa_cons (se_int) (sa_cons (se_gint T.c_MOST) (sa_nil))))))) (sw_or1 (st_not (st_val (se_call C c_is_upto (sa_cons (se_ix mp_ix (se_var 0) (se_int)) (sa_cons (se_int) (sa_cons (se_gint T.c_MOST) (sa_nil)))))))))) (ss_one (s_ret (se_bl))) (ss_nil)) (ss_cons (s_set (i := 1) C.nd (se_call C c_found_powers (sa_cons (se_ix mp_ix (se_var 0) (se_int)) (sa_nil)))) (ss_cons (s_set (i := 2) C.nd (se_call C c_found_powers (sa_cons (se_ix mp_ix (se_var 0) (se_int)) (sa_nil)))) (ss_cons (s_if (st_of (sw_or (st_cmp mp_is (se_var 1) (se_non) rfl) (sw_or1 (st_cmp mp_is (se_var 2) (se_non) rfl)))) (ss_one (s_ret (se_bl))) (ss_nil)) (ss_one (s_ret (se_cb (mp_all C.calm) PyProof.Rows.boot_all T.b_all (sa_cons (se_cut (se_comp (own := [("one", 3), ("other", 4)]) C (si_zip2 T.b_zip (se_var 1) (se_var 2)) (by rfl) (fun _ _ _ _ _ C => g_tup C.calm (gs_cons (g_name C.nd (i := 3)) (gs_cons (g_name C.nd (i := 4)) (gs_nil)))) (fun _ _ _ _ _ C => spt_nil) (fun _ _ _ _ _ C => se_or (se_cmp (mp_eq C.hu) (se_var 3) (se_int) rfl) (se_one (se_cmp (mp_eq C.hu) (se_var 4) (se_int) rfl))))) (sa_nil)))))))))).cut
theorem d_is_program : Cal P w K mg base "is_program" 4 1 F_is_program := by
  have c_is_fraction := d_is_fraction (P := P) (w := w) (base := base) T
  exact (cal_of (k := 3) T.f_is_program sc_is_program rfl fun f cdv A outer s H E C => ss_cons (s_if (st_of (sw_or (st_not (st_val (se_cb mp_isi PyProof.Rows.boot_isinstance T.b_isinstance (sa_cons (se_var 0) (sa_cons (se_ty PyProof.Rows.boot_tuple T.b_tuple) (sa_nil)))))) (sw_or1 (st_not (st_ch mp_le mp_le (se_int) (se_cb mp_len PySem.boot_len T.b_len (sa_cons (se_var 0) (sa_nil))) (se_gint T.c_MOST_FRACTIONS)))))) (ss_one (s_ret (se_bl))) (ss_nil)) (ss_one (s_ret (se_cb (mp_all C.calm) PyProof.Rows.boot_all T.b_all (sa_cons (se_cut (se_comp (own := [("one", 1)]) C (si_any (se_var 0)) (by rfl) (fun _ _ _ _ _ C => g_name C.nd (i := 1)) (fun _ _ _ _ _ C => spt_nil) (fun _ _ _ _ _ C => se_call C c_is_fraction (sa_cons (se_var 1) (sa_nil))))) (sa_nil)))))).cut
theorem d_read : Cal P w K mg base "read" 5 1 F_read := by
  have c_is_program := d_is_program (P := P) (w := w) (base := base) T
  have c_number_in := d_number_in (P := P) (w := w) (base := base) T
  exact (cal_of (k := 4) T.f_read sc_read rfl fun f cdv A outer s H E C => ss_cons (s_if (st_not (st_val (se_cb mp_isi PyProof.Rows.boot_isinstance T.b_isinstance (sa_cons (se_var 0) (sa_cons (se_ty PyProof.Rows.boot_str T.b_str) (sa_nil)))))) (ss_one (s_never)) (ss_nil)) (ss_cons (s_set (i := 1) C.nd (se_lstO (sa_nil))) (ss_cons (s_for C (si_any (se_bm PySem.F.plainAttrs_str PySem.F.slot_str_split PySem.F.type_str_split mp_split (se_var 0) (sa_cons (se_str) (sa_nil)))) (g_name C.nd (i := 2)) (ss_cons (s_setLcG (own := [("part", 4)]) (i := 3) C (by rfl) (si_any (se_bm PySem.F.plainAttrs_str PySem.F.slot_str_split PySem.F.type_str_split mp_split (se_var 2) (sa_cons (se_str) (sa_nil)))) (by rfl) (fun _ _ _ _ _ C => g_name C.nd (i := 4)) (fun _ _ _ _ _ C => spt_nil) (fun _ _ _ _ _ C => se_call C c_number_in (sa_cons (se_var 4) (sa_nil))) rdCut) (ss_one (s_expr (se_bm PySem.F.plainAttrs_list PySem.F.slot_list_append PySem.F.type_list_append mp_append (se_var 1) (sa_cons (se_ct mp_tuple PyProof.Rows.boot_tuple T.b_tuple (sa_cons (se_var 3) (sa_nil))) (sa_nil))))))) (ss_cons (s_if (st_not (st_val (se_call C c_is_program (sa_cons (se_ct mp_tuple PyProof.Rows.boot_tuple T.b_tuple (sa_cons (se_var 1) (sa_nil))) (sa_nil))))) (ss_one (s_never)) (ss_nil)) (ss_one (s_ret (se_ct mp_tuple PyProof.Rows.boot_tuple T.b_tuple (sa_cons (se_var 1) (sa_nil))))))))).cut
theorem d_law {f : Addr} {fd : FuncData} (F : Fun K "law" "law" s_law f fd) : FnOk P w K mg base (L2.CX P w) 7 f fd ["script"] (spOf ⟨K, mg⟩ 1 F_law) := by
  have c__law_pot := d__law_pot (P := P) (w := w) (base := base) T
  have c__law_places := d__law_places (P := P) (w := w) (base := base) T
  have c__law_program := d__law_program (P := P) (w := w) (base := base) T
  have c__law_line := d__law_line (P := P) (w := w) (base := base) T
  have c__law_text_of := d__law_text_of (P := P) (w := w) (base := base) T
  have c__law_line_text := d__law_line_text (P := P) (w := w) (base := base) T
  have c__law_same := d__law_same (P := P) (w := w) (base := base) T
  have c__law_cell_at := d__law_cell_at (P := P) (w := w) (base := base) T
  have c_powers_written := d_powers_written (P := P) (w := w) (base := base) T
  have c_powers_read := d_powers_read (P := P) (w := w) (base := base) T
  have c__law_take := d__law_take (P := P) (w := w) (base := base) T
  have c_written := d_written (P := P) (w := w) (base := base) T
  have c_read := d_read (P := P) (w := w) (base := base) T
  exact (fn_sem (k := 6) F sc_law sc_law.nd fun cdv A outer s H E C => ss_cons (s_for C (si_rng1 T.b_range (se_cb (mp_max2 C.calm) PyProof.Rows.boot_max T.b_max (sa_cons (se_int) (sa_cons (se_cb (mp_min2 C.calm) PyProof.Rows.boot_min T.b_min (sa_cons (se_cb mp_len PySem.boot_len T.b_len (sa_cons (se_var 0) (sa_nil))) (sa_cons (se_int) (sa_nil)))) (sa_nil))))) (g_name C.nd (i := 1)) (ss_cons (s_set (i := 2) C.nd (se_call C c__law_pot (sa_cons (se_call C c__law_cell_at (sa_cons (se_var 0) (sa_cons (se_var 1) (sa_nil)))) (sa_nil)))) (ss_cons (s_set (i := 3) C.nd (se_call C c__law_places (sa_cons (se_var 2) (sa_nil)))) (ss_cons (s_set (i := 4) C.nd (se_call C c__law_program (sa_cons (se_var 2) (sa_cons (se_var 3) (sa_cons (se_int) (sa_nil)))))) (ss_cons (s_set (i := 5) C.nd (se_call C c__law_line (sa_cons (se_var 2) (sa_cons (se_var 3) (sa_cons (se_ix mp_ix (se_lst (sa_cons (se_int) (sa_cons (se_op mp_pow (se_int) (se_int)) (sa_nil)))) (se_call C c__law_take (sa_cons (se_var 2) (sa_cons (se_int) (sa_nil))))) (sa_nil)))))) (ss_cons (s_set (i := 6) C.nd (se_call C c__law_text_of (sa_cons (se_var 4) (sa_nil)))) (ss_cons (s_if (st_of (sw_or (st_cmp (mp_ne C.hu) (se_call C c_written (sa_cons (se_var 4) (sa_nil))) (se_var 6) rfl) (sw_or (st_not (st_val (se_call C c__law_same (sa_cons (se_call C c_read (sa_cons (se_var 6) (sa_nil))) (sa_cons (se_var 4) (sa_nil)))))) (sw_or1 (st_cmp (mp_ne C.hu) (se_call C c_written (sa_cons (se_call C c_read (sa_cons (se_var 6) (sa_nil))) (sa_nil))) (se_var 6) rfl))))) (ss_one (s_ret (se_bl))) (ss_nil)) (ss_cons (s_set (i := 6) C.nd (se_call C c__law_line_text (sa_cons (se_var 5) (sa_nil)))) (ss_cons (s_if (st_of (sw_or (st_cmp (mp_ne C.hu) (se_call C c_powers_written (sa_cons (se_var 5) (sa_nil))) (se_var 6) rfl) (sw_or1 (st_not (st_val (se_call C c__law_same (sa_cons (se_call C c_powers_read (sa_cons (se_var 6) (sa_nil))) (sa_cons (se_var 5) (sa_nil))))))))) (ss_one (s_ret (se_bl))) (ss_nil)) (ss_cons (s_set (i := 7) C.nd (se_ct mp_tuple PyProof.Rows.boot_tuple T.b_tuple (sa_cons (se_cut (se_comp (own := [("one", 8)]) C (si_any (se_var 5)) (by rfl) (fun _ _ _ _ _ C => g_name C.nd (i := 8)) (fun _ _ _ _ _ C => spt_nil) (fun _ _ _ _ _ C => se_op mp_mul (se_var 8) (se_op mp_add (se_op mp_pow (se_int) (se_int)) (se_int))))) (sa_nil)))) (ss_one (s_if (st_cmp (mp_ne C.hu) (se_call C c_powers_written (sa_cons (se_var 7) (sa_nil))) (se_call C c__law_line_text (sa_cons (se_var 7) (sa_nil))) rfl) (ss_one (s_ret (se_bl))) (ss_nil))))))))))))) (ss_one (s_ret (se_and (se_cmp (mp_eq C.hu) (se_call C c_powers_written (sa_cons (se_op mp_mul (se_tup (sa_cons (se_int) (sa_nil))) (se_int)) (sa_nil))) (se_str) rfl) (se_one (se_call C c__law_same (sa_cons (se_call C c_powers_read (sa_cons (se_str) (sa_nil))) (sa_cons (se_op mp_mul (se_tup (sa_cons (se_int) (sa_nil))) (se_int)) (sa_nil))))))))).imp spc
end
theorem tx_mk {K : PySem.W.Frag} {h : Heap} {mg : Str → Option Value} (X : K.In h) (G : h.Ns mainGlobals mg)
    {f0 : Addr} {od0 an0 : Option Addr} {sl0 : Array (Option Value)} {oc0 kV0 dc0 pm0 cd0 ct0 : Value}
    {f1 : Addr} {od1 an1 : Option Addr} {sl1 : Array (Option Value)} {oc1 kV1 dc1 pm1 cd1 ct1 : Value}
    {f2 : Addr} {od2 an2 : Option Addr} {sl2 : Array (Option Value)} {oc2 kV2 dc2 pm2 cd2 ct2 : Value}
    {f3 : Addr} {od3 an3 : Option Addr} {sl3 : Array (Option Value)} {oc3 kV3 dc3 pm3 cd3 ct3 : Value}
    {f4 : Addr} {od4 an4 : Option Addr} {sl4 : Array (Option Value)} {oc4 kV4 dc4 pm4 cd4 ct4 : Value}
    {f5 : Addr} {od5 an5 : Option Addr} {sl5 : Array (Option Value)} {oc5 kV5 dc5 pm5 cd5 ct5 : Value}
    {f6 : Addr} {od6 an6 : Option Addr} {sl6 : Array (Option Value)} {oc6 kV6 dc6 pm6 cd6 ct6 : Value}
    {f7 : Addr} {od7 an7 : Option Addr} {sl7 : Array (Option Value)} {oc7 kV7 dc7 pm7 cd7 ct7 : Value}
    {f8 : Addr} {od8 an8 : Option Addr} {sl8 : Array (Option Value)} {oc8 kV8 dc8 pm8 cd8 ct8 : Value}
    {f9 : Addr} {od9 an9 : Option Addr} {sl9 : Array (Option Value)} {oc9 kV9 dc9 pm9 cd9 ct9 : Value}
    {f10 : Addr} {od10 an10 : Option Addr} {sl10 : Array (Option Value)} {oc10 kV10 dc10 pm10 cd10 ct10 : Value}
    {f11 : Addr} {od11 an11 : Option Addr} {sl11 : Array (Option Value)} {oc11 kV11 dc11 pm11 cd11 ct11 : Value}
    {f12 : Addr} {od12 an12 : Option Addr} {sl12 : Array (Option Value)} {oc12 kV12 dc12 pm12 cd12 ct12 : Value}
    {f13 : Addr} {od13 an13 : Option Addr} {sl13 : Array (Option Value)} {oc13 kV13 dc13 pm13 cd13 ct13 : Value}
    {f14 : Addr} {od14 an14 : Option Addr} {sl14 : Array (Option Value)} {oc14 kV14 dc14 pm14 cd14 ct14 : Value}
    {f15 : Addr} {od15 an15 : Option Addr} {sl15 : Array (Option Value)} {oc15 kV15 dc15 pm15 cd15 ct15 : Value}
    {f16 : Addr} {od16 an16 : Option Addr} {sl16 : Array (Option Value)} {oc16 kV16 dc16 pm16 cd16 ct16 : Value}
    {f17 : Addr} {od17 an17 : Option Addr} {sl17 : Array (Option Value)} {oc17 kV17 dc17 pm17 cd17 ct17 : Value}
    {f18 : Addr} {od18 an18 : Option Addr} {sl18 : Array (Option Value)} {oc18 kV18 dc18 pm18 cd18 ct18 : Value}
    {f19 : Addr} {od19 an19 : Option Addr} {sl19 : Array (Option Value)} {oc19 kV19 dc19 pm19 cd19 ct19 : Value}
    {f20 : Addr} {od20 an20 : Option Addr} {sl20 : Array (Option Value)} {oc20 kV20 dc20 pm20 cd20 ct20 : Value}
    {f21 : Addr} {od21 an21 : Option Addr} {sl21 : Array (Option Value)} {oc21 kV21 dc21 pm21 cd21 ct21 : Value}
    {f22 : Addr} {od22 an22 : Option Addr} {sl22 : Array (Option Value)} {oc22 kV22 dc22 pm22 cd22 ct22 : Value}
    {f23 : Addr} {od23 an23 : Option Addr} {sl23 : Array (Option Value)} {oc23 kV23 dc23 pm23 cd23 ct23 : Value}
    {f24 : Addr} {od24 an24 : Option Addr} {sl24 : Array (Option Value)} {oc24 kV24 dc24 pm24 cd24 ct24 : Value}
    {f25 : Addr} {od25 an25 : Option Addr} {sl25 : Array (Option Value)} {oc25 kV25 dc25 pm25 cd25 ct25 : Value}
    {t_FIGURES : Tok}
    {t_GREATEST : Tok}
    {t_MOST : Tok}
    {t_MOST_FIGURES : Tok}
    {t_MOST_FRACTIONS : Tok}
    {a_PRIMES : Addr} {n_PRIMES : Nat} {sl_PRIMES : Array (Option Value)} {t_PRIMES0 t_PRIMES1 t_PRIMES2 t_PRIMES3 t_PRIMES4 t_PRIMES5 t_PRIMES6 t_PRIMES7 t_PRIMES8 t_PRIMES9 : Tok}
    (a0 : PySem.W.nsIn K mainGlobals "_law_pot" = some (some (.ref f0))) (l0 : K.lookup f0 = some ⟨oc0, od0, .func (PySem.W.fnOf "_law_pot" "_law_pot" (defArgs s__law_pot) (defBody s__law_pot) (defScope s__law_pot) .none kV0 dc0 pm0 an0 cd0 ct0), sl0⟩) (c0 : PySem.W.codeIn K cd0 "_law_pot" = true) (k0 : PySem.W.keepIn K (.ref f0) = true)
    (a1 : PySem.W.nsIn K mainGlobals "_law_take" = some (some (.ref f1))) (l1 : K.lookup f1 = some ⟨oc1, od1, .func (PySem.W.fnOf "_law_take" "_law_take" (defArgs s__law_take) (defBody s__law_take) (defScope s__law_take) .none kV1 dc1 pm1 an1 cd1 ct1), sl1⟩) (c1 : PySem.W.codeIn K cd1 "_law_take" = true) (k1 : PySem.W.keepIn K (.ref f1) = true)
    (a2 : PySem.W.nsIn K mainGlobals "_law_order" = some (some (.ref f2))) (l2 : K.lookup f2 = some ⟨oc2, od2, .func (PySem.W.fnOf "_law_order" "_law_order" (defArgs s__law_order) (defBody s__law_order) (defScope s__law_order) .none kV2 dc2 pm2 an2 cd2 ct2), sl2⟩) (c2 : PySem.W.codeIn K cd2 "_law_order" = true) (k2 : PySem.W.keepIn K (.ref f2) = true)
    (a3 : PySem.W.nsIn K mainGlobals "_law_places" = some (some (.ref f3))) (l3 : K.lookup f3 = some ⟨oc3, od3, .func (PySem.W.fnOf "_law_places" "_law_places" (defArgs s__law_places) (defBody s__law_places) (defScope s__law_places) .none kV3 dc3 pm3 an3 cd3 ct3), sl3⟩) (c3 : PySem.W.codeIn K cd3 "_law_places" = true) (k3 : PySem.W.keepIn K (.ref f3) = true)
    (a4 : PySem.W.nsIn K mainGlobals "_law_primes" = some (some (.ref f4))) (l4 : K.lookup f4 = some ⟨oc4, od4, .func (PySem.W.fnOf "_law_primes" "_law_primes" (defArgs s__law_primes) (defBody s__law_primes) (defScope s__law_primes) .none kV4 dc4 pm4 an4 cd4 ct4), sl4⟩) (c4 : PySem.W.codeIn K cd4 "_law_primes" = true) (k4 : PySem.W.keepIn K (.ref f4) = true)
    (a5 : PySem.W.nsIn K mainGlobals "_law_product" = some (some (.ref f5))) (l5 : K.lookup f5 = some ⟨oc5, od5, .func (PySem.W.fnOf "_law_product" "_law_product" (defArgs s__law_product) (defBody s__law_product) (defScope s__law_product) .none kV5 dc5 pm5 an5 cd5 ct5), sl5⟩) (c5 : PySem.W.codeIn K cd5 "_law_product" = true) (k5 : PySem.W.keepIn K (.ref f5) = true)
    (a6 : PySem.W.nsIn K mainGlobals "_law_fraction" = some (some (.ref f6))) (l6 : K.lookup f6 = some ⟨oc6, od6, .func (PySem.W.fnOf "_law_fraction" "_law_fraction" (defArgs s__law_fraction) (defBody s__law_fraction) (defScope s__law_fraction) .none kV6 dc6 pm6 an6 cd6 ct6), sl6⟩) (c6 : PySem.W.codeIn K cd6 "_law_fraction" = true) (k6 : PySem.W.keepIn K (.ref f6) = true)
    (a7 : PySem.W.nsIn K mainGlobals "_law_program" = some (some (.ref f7))) (l7 : K.lookup f7 = some ⟨oc7, od7, .func (PySem.W.fnOf "_law_program" "_law_program" (defArgs s__law_program) (defBody s__law_program) (defScope s__law_program) .none kV7 dc7 pm7 an7 cd7 ct7), sl7⟩) (c7 : PySem.W.codeIn K cd7 "_law_program" = true) (k7 : PySem.W.keepIn K (.ref f7) = true)
    (a8 : PySem.W.nsIn K mainGlobals "_law_line" = some (some (.ref f8))) (l8 : K.lookup f8 = some ⟨oc8, od8, .func (PySem.W.fnOf "_law_line" "_law_line" (defArgs s__law_line) (defBody s__law_line) (defScope s__law_line) .none kV8 dc8 pm8 an8 cd8 ct8), sl8⟩) (c8 : PySem.W.codeIn K cd8 "_law_line" = true) (k8 : PySem.W.keepIn K (.ref f8) = true)
    (a9 : PySem.W.nsIn K mainGlobals "_law_text_of" = some (some (.ref f9))) (l9 : K.lookup f9 = some ⟨oc9, od9, .func (PySem.W.fnOf "_law_text_of" "_law_text_of" (defArgs s__law_text_of) (defBody s__law_text_of) (defScope s__law_text_of) .none kV9 dc9 pm9 an9 cd9 ct9), sl9⟩) (c9 : PySem.W.codeIn K cd9 "_law_text_of" = true) (k9 : PySem.W.keepIn K (.ref f9) = true)
    (a10 : PySem.W.nsIn K mainGlobals "_law_line_text" = some (some (.ref f10))) (l10 : K.lookup f10 = some ⟨oc10, od10, .func (PySem.W.fnOf "_law_line_text" "_law_line_text" (defArgs s__law_line_text) (defBody s__law_line_text) (defScope s__law_line_text) .none kV10 dc10 pm10 an10 cd10 ct10), sl10⟩) (c10 : PySem.W.codeIn K cd10 "_law_line_text" = true) (k10 : PySem.W.keepIn K (.ref f10) = true)
    (a11 : PySem.W.nsIn K mainGlobals "_law_whole" = some (some (.ref f11))) (l11 : K.lookup f11 = some ⟨oc11, od11, .func (PySem.W.fnOf "_law_whole" "_law_whole" (defArgs s__law_whole) (defBody s__law_whole) (defScope s__law_whole) .none kV11 dc11 pm11 an11 cd11 ct11), sl11⟩) (c11 : PySem.W.codeIn K cd11 "_law_whole" = true) (k11 : PySem.W.keepIn K (.ref f11) = true)
    (a12 : PySem.W.nsIn K mainGlobals "_law_same" = some (some (.ref f12))) (l12 : K.lookup f12 = some ⟨oc12, od12, .func (PySem.W.fnOf "_law_same" "_law_same" (defArgs s__law_same) (defBody s__law_same) (defScope s__law_same) .none kV12 dc12 pm12 an12 cd12 ct12), sl12⟩) (c12 : PySem.W.codeIn K cd12 "_law_same" = true) (k12 : PySem.W.keepIn K (.ref f12) = true)
    (a13 : PySem.W.nsIn K mainGlobals "_law_cell_at" = some (some (.ref f13))) (l13 : K.lookup f13 = some ⟨oc13, od13, .func (PySem.W.fnOf "_law_cell_at" "_law_cell_at" (defArgs s__law_cell_at) (defBody s__law_cell_at) (defScope s__law_cell_at) .none kV13 dc13 pm13 an13 cd13 ct13), sl13⟩) (c13 : PySem.W.codeIn K cd13 "_law_cell_at" = true) (k13 : PySem.W.keepIn K (.ref f13) = true)
    (a14 : PySem.W.nsIn K mainGlobals "powers_written" = some (some (.ref f14))) (l14 : K.lookup f14 = some ⟨oc14, od14, .func (PySem.W.fnOf "powers_written" "powers_written" (defArgs s_powers_written) (defBody s_powers_written) (defScope s_powers_written) .none kV14 dc14 pm14 an14 cd14 ct14), sl14⟩) (c14 : PySem.W.codeIn K cd14 "powers_written" = true) (k14 : PySem.W.keepIn K (.ref f14) = true)
    (a15 : PySem.W.nsIn K mainGlobals "number_in" = some (some (.ref f15))) (l15 : K.lookup f15 = some ⟨oc15, od15, .func (PySem.W.fnOf "number_in" "number_in" (defArgs s_number_in) (defBody s_number_in) (defScope s_number_in) .none kV15 dc15 pm15 an15 cd15 ct15), sl15⟩) (c15 : PySem.W.codeIn K cd15 "number_in" = true) (k15 : PySem.W.keepIn K (.ref f15) = true)
    (a16 : PySem.W.nsIn K mainGlobals "part_in" = some (some (.ref f16))) (l16 : K.lookup f16 = some ⟨oc16, od16, .func (PySem.W.fnOf "part_in" "part_in" (defArgs s_part_in) (defBody s_part_in) (defScope s_part_in) .none kV16 dc16 pm16 an16 cd16 ct16), sl16⟩) (c16 : PySem.W.codeIn K cd16 "part_in" = true) (k16 : PySem.W.keepIn K (.ref f16) = true)
    (a17 : PySem.W.nsIn K mainGlobals "powers_read" = some (some (.ref f17))) (l17 : K.lookup f17 = some ⟨oc17, od17, .func (PySem.W.fnOf "powers_read" "powers_read" (defArgs s_powers_read) (defBody s_powers_read) (defScope s_powers_read) .none kV17 dc17 pm17 an17 cd17 ct17), sl17⟩) (c17 : PySem.W.codeIn K cd17 "powers_read" = true) (k17 : PySem.W.keepIn K (.ref f17) = true)
    (a18 : PySem.W.nsIn K mainGlobals "written" = some (some (.ref f18))) (l18 : K.lookup f18 = some ⟨oc18, od18, .func (PySem.W.fnOf "written" "written" (defArgs s_written) (defBody s_written) (defScope s_written) .none kV18 dc18 pm18 an18 cd18 ct18), sl18⟩) (c18 : PySem.W.codeIn K cd18 "written" = true) (k18 : PySem.W.keepIn K (.ref f18) = true)
    (a19 : PySem.W.nsIn K mainGlobals "found_powers" = some (some (.ref f19))) (l19 : K.lookup f19 = some ⟨oc19, od19, .func (PySem.W.fnOf "found_powers" "found_powers" (defArgs s_found_powers) (defBody s_found_powers) (defScope s_found_powers) .none kV19 dc19 pm19 an19 cd19 ct19), sl19⟩) (c19 : PySem.W.codeIn K cd19 "found_powers" = true) (k19 : PySem.W.keepIn K (.ref f19) = true)
    (a20 : PySem.W.nsIn K mainGlobals "is_whole" = some (some (.ref f20))) (l20 : K.lookup f20 = some ⟨oc20, od20, .func (PySem.W.fnOf "is_whole" "is_whole" (defArgs s_is_whole) (defBody s_is_whole) (defScope s_is_whole) .none kV20 dc20 pm20 an20 cd20 ct20), sl20⟩) (c20 : PySem.W.codeIn K cd20 "is_whole" = true) (k20 : PySem.W.keepIn K (.ref f20) = true)
    (a21 : PySem.W.nsIn K mainGlobals "is_upto" = some (some (.ref f21))) (l21 : K.lookup f21 = some ⟨oc21, od21, .func (PySem.W.fnOf "is_upto" "is_upto" (defArgs s_is_upto) (defBody s_is_upto) (defScope s_is_upto) .none kV21 dc21 pm21 an21 cd21 ct21), sl21⟩) (c21 : PySem.W.codeIn K cd21 "is_upto" = true) (k21 : PySem.W.keepIn K (.ref f21) = true)
    (a22 : PySem.W.nsIn K mainGlobals "is_fraction" = some (some (.ref f22))) (l22 : K.lookup f22 = some ⟨oc22, od22, .func (PySem.W.fnOf "is_fraction" "is_fraction" (defArgs s_is_fraction) (defBody s_is_fraction) (defScope s_is_fraction) .none kV22 dc22 pm22 an22 cd22 ct22), sl22⟩) (c22 : PySem.W.codeIn K cd22 "is_fraction" = true) (k22 : PySem.W.keepIn K (.ref f22) = true)
    (a23 : PySem.W.nsIn K mainGlobals "is_program" = some (some (.ref f23))) (l23 : K.lookup f23 = some ⟨oc23, od23, .func (PySem.W.fnOf "is_program" "is_program" (defArgs s_is_program) (defBody s_is_program) (defScope s_is_program) .none kV23 dc23 pm23 an23 cd23 ct23), sl23⟩) (c23 : PySem.W.codeIn K cd23 "is_program" = true) (k23 : PySem.W.keepIn K (.ref f23) = true)
    (a24 : PySem.W.nsIn K mainGlobals "read" = some (some (.ref f24))) (l24 : K.lookup f24 = some ⟨oc24, od24, .func (PySem.W.fnOf "read" "read" (defArgs s_read) (defBody s_read) (defScope s_read) .none kV24 dc24 pm24 an24 cd24 ct24), sl24⟩) (c24 : PySem.W.codeIn K cd24 "read" = true) (k24 : PySem.W.keepIn K (.ref f24) = true)
    (a25 : PySem.W.nsIn K mainGlobals "law" = some (some (.ref f25))) (l25 : K.lookup f25 = some ⟨oc25, od25, .func (PySem.W.fnOf "law" "law" (defArgs s_law) (defBody s_law) (defScope s_law) .none kV25 dc25 pm25 an25 cd25 ct25), sl25⟩) (c25 : PySem.W.codeIn K cd25 "law" = true) (k25 : PySem.W.keepIn K (.ref f25) = true)
    (z_all : PySem.W.nsIn K mainGlobals "all" = some none)
    (z_bool : PySem.W.nsIn K mainGlobals "bool" = some none)
    (z_int : PySem.W.nsIn K mainGlobals "int" = some none)
    (z_isinstance : PySem.W.nsIn K mainGlobals "isinstance" = some none)
    (z_len : PySem.W.nsIn K mainGlobals "len" = some none)
    (z_list : PySem.W.nsIn K mainGlobals "list" = some none)
    (z_max : PySem.W.nsIn K mainGlobals "max" = some none)
    (z_min : PySem.W.nsIn K mainGlobals "min" = some none)
    (z_range : PySem.W.nsIn K mainGlobals "range" = some none)
    (z_str : PySem.W.nsIn K mainGlobals "str" = some none)
    (z_tuple : PySem.W.nsIn K mainGlobals "tuple" = some none)
    (z_zip : PySem.W.nsIn K mainGlobals "zip" = some none)
    (g_FIGURES : PySem.W.nsIn K mainGlobals "FIGURES" = some (some (.str "0123456789" t_FIGURES)))
    (g_GREATEST : PySem.W.nsIn K mainGlobals "GREATEST" = some (some (.int 1000000 t_GREATEST)))
    (g_MOST : PySem.W.nsIn K mainGlobals "MOST" = some (some (.int 1000000000000 t_MOST)))
    (g_MOST_FIGURES : PySem.W.nsIn K mainGlobals "MOST_FIGURES" = some (some (.int 13 t_MOST_FIGURES)))
    (g_MOST_FRACTIONS : PySem.W.nsIn K mainGlobals "MOST_FRACTIONS" = some (some (.int 16 t_MOST_FRACTIONS)))
    (g_PRIMES : PySem.W.nsIn K mainGlobals "PRIMES" = some (some (.ref a_PRIMES))) (h_PRIMES : K.lookup a_PRIMES = some ⟨.type "tuple", none, .seq #[.int 2 t_PRIMES0, .int 3 t_PRIMES1, .int 5 t_PRIMES2, .int 7 t_PRIMES3, .int 11 t_PRIMES4, .int 13 t_PRIMES5, .int 17 t_PRIMES6, .int 19 t_PRIMES7, .int 23 t_PRIMES8, .int 29 t_PRIMES9] n_PRIMES, sl_PRIMES⟩) : Tx K mg where
  f__law_pot := df_mk X G (fun _ _ _ _ _ _ us hl => match us, hl with | [_], _ => rfl) a0 l0 c0 k0
  f__law_take := df_mk X G (fun _ _ _ _ _ _ us hl => match us, hl with | [_, _], _ => rfl) a1 l1 c1 k1
  f__law_order := df_mk X G (fun _ _ _ _ _ _ us hl => match us, hl with | [_, _], _ => rfl) a2 l2 c2 k2
  f__law_places := df_mk X G (fun _ _ _ _ _ _ us hl => match us, hl with | [_], _ => rfl) a3 l3 c3 k3
  f__law_primes := df_mk X G (fun _ _ _ _ _ _ us hl => match us, hl with | [], _ => rfl) a4 l4 c4 k4
  f__law_product := df_mk X G (fun _ _ _ _ _ _ us hl => match us, hl with | [_], _ => rfl) a5 l5 c5 k5
  f__law_fraction := df_mk X G (fun _ _ _ _ _ _ us hl => match us, hl with | [_, _], _ => rfl) a6 l6 c6 k6
  f__law_program := df_mk X G (fun _ _ _ _ _ _ us hl => match us, hl with | [_, _, _], _ => rfl) a7 l7 c7 k7
  f__law_line := df_mk X G (fun _ _ _ _ _ _ us hl => match us, hl with | [_, _, _], _ => rfl) a8 l8 c8 k8
  f__law_text_of := df_mk X G (fun _ _ _ _ _ _ us hl => match us, hl with | [_], _ => rfl) a9 l9 c9 k9
  f__law_line_text := df_mk X G (fun _ _ _ _ _ _ us hl => match us, hl with | [_], _ => rfl) a10 l10 c10 k10
  f__law_whole := df_mk X G (fun _ _ _ _ _ _ us hl => match us, hl with | [_], _ => rfl) a11 l11 c11 k11
  f__law_same := df_mk X G (fun _ _ _ _ _ _ us hl => match us, hl with | [_, _], _ => rfl) a12 l12 c12 k12
  f__law_cell_at := df_mk X G (fun _ _ _ _ _ _ us hl => match us, hl with | [_, _], _ => rfl) a13 l13 c13 k13
  f_powers_written := df_mk X G (fun _ _ _ _ _ _ us hl => match us, hl with | [_], _ => rfl) a14 l14 c14 k14
  f_number_in := df_mk X G (fun _ _ _ _ _ _ us hl => match us, hl with | [_], _ => rfl) a15 l15 c15 k15
  f_part_in := df_mk X G (fun _ _ _ _ _ _ us hl => match us, hl with | [_], _ => rfl) a16 l16 c16 k16
  f_powers_read := df_mk X G (fun _ _ _ _ _ _ us hl => match us, hl with | [_], _ => rfl) a17 l17 c17 k17
  f_written := df_mk X G (fun _ _ _ _ _ _ us hl => match us, hl with | [_], _ => rfl) a18 l18 c18 k18
  f_found_powers := df_mk X G (fun _ _ _ _ _ _ us hl => match us, hl with | [_], _ => rfl) a19 l19 c19 k19
  f_is_whole := df_mk X G (fun _ _ _ _ _ _ us hl => match us, hl with | [_], _ => rfl) a20 l20 c20 k20
  f_is_upto := df_mk X G (fun _ _ _ _ _ _ us hl => match us, hl with | [_, _, _], _ => rfl) a21 l21 c21 k21
  f_is_fraction := df_mk X G (fun _ _ _ _ _ _ us hl => match us, hl with | [_], _ => rfl) a22 l22 c22 k22
  f_is_program := df_mk X G (fun _ _ _ _ _ _ us hl => match us, hl with | [_], _ => rfl) a23 l23 c23 k23
  f_read := df_mk X G (fun _ _ _ _ _ _ us hl => match us, hl with | [_], _ => rfl) a24 l24 c24 k24
  f_law := df_mk X G (fun _ _ _ _ _ _ us hl => match us, hl with | [_], _ => rfl) a25 l25 c25 k25
  b_all := PySem.W.mg_none_of X G z_all
  b_bool := PySem.W.mg_none_of X G z_bool
  b_int := PySem.W.mg_none_of X G z_int
  b_isinstance := PySem.W.mg_none_of X G z_isinstance
  b_len := PySem.W.mg_none_of X G z_len
  b_list := PySem.W.mg_none_of X G z_list
  b_max := PySem.W.mg_none_of X G z_max
  b_min := PySem.W.mg_none_of X G z_min
  b_range := PySem.W.mg_none_of X G z_range
  b_str := PySem.W.mg_none_of X G z_str
  b_tuple := PySem.W.mg_none_of X G z_tuple
  b_zip := PySem.W.mg_none_of X G z_zip
  c_FIGURES := ⟨_, PySem.W.mg_of X G g_FIGURES⟩
  c_GREATEST := ⟨_, PySem.W.mg_of X G g_GREATEST⟩
  c_MOST := ⟨_, PySem.W.mg_of X G g_MOST⟩
  c_MOST_FIGURES := ⟨_, PySem.W.mg_of X G g_MOST_FIGURES⟩
  c_MOST_FRACTIONS := ⟨_, PySem.W.mg_of X G g_MOST_FRACTIONS⟩
  c_PRIMES := ⟨_, _, _, _, PySem.W.mg_of X G g_PRIMES, h_PRIMES, rfl, rfl, rfl, (by show (10 : Nat) ≤ sizeLine; decide), .cons ⟨_, rfl⟩ (.cons ⟨_, rfl⟩ (.cons ⟨_, rfl⟩ (.cons ⟨_, rfl⟩ (.cons ⟨_, rfl⟩ (.cons ⟨_, rfl⟩ (.cons ⟨_, rfl⟩ (.cons ⟨_, rfl⟩ (.cons ⟨_, rfl⟩ (.cons ⟨_, rfl⟩ (.nil))))))))))⟩
theorem at_law {l : PySem.W.OpenLaw} {K : PySem.W.Frag} {mg : Str → Option Value} {fa : Addr} {w : World} (T : Tx K mg) (hfa : mg "law" = some (.ref fa)) :
    ∃ fd : FuncData, (∀ (s : Shared) (v : Value), BindsTo s fd ⟨[v], []⟩ [("script", v)]) ∧ ∀ base : Heap, FnOk l.prog w K mg base (L2.CX l.prog w) 7 fa fd ["script"] (spOf ⟨K, mg⟩ 1 F_law) := by
  obtain ⟨f, fd, F, h1, h2, h3⟩ := T.f_law
  rw [hfa] at h1; cases h1
  refine ⟨fd, fun s v => ?_, fun base => ?_⟩
  · obtain ⟨oc, od, kV, doc, pm, an, cdv, ct, osl, rfl, lk, hcd⟩ := F.ex
    exact .of_eq rfl
  · exact d_law T F
end Mp.K03
open PySem PySem.W PyProof.Rows
set_option maxRecDepth 100000 in
set_option maxHeartbeats 0 in
theorem PySem.Challenge.cw_wholefract_k03_programs_and_powers_writt_holds : PySem.Challenge.rw_wholefract_k03_programs_and_powers_writt.Holds := by
  w_on; o_law; k_head; (case hw => w_witness2)
  k_fill
  refine Mp.walk (l := PySem.Challenge.rw_wholefract_k03_programs_and_powers_writt) (F := Mp.K03.F_law) 7 rfl rfl ⟨rfl, by decide, by decide⟩ (fun w h Y => PySem.W.kIn_of Y) Mp.K03.law_true ?F
  case F =>
    intro w mg fa h KX G hmg
    refine' Mp.K03.at_law (Mp.K03.tx_mk KX G ?a0 ?l0 ?c0 ?k0 ?a1 ?l1 ?c1 ?k1 ?a2 ?l2 ?c2 ?k2 ?a3 ?l3 ?c3 ?k3 ?a4 ?l4 ?c4 ?k4 ?a5 ?l5 ?c5 ?k5 ?a6 ?l6 ?c6 ?k6 ?a7 ?l7 ?c7 ?k7 ?a8 ?l8 ?c8 ?k8 ?a9 ?l9 ?c9 ?k9 ?a10 ?l10 ?c10 ?k10 ?a11 ?l11 ?c11 ?k11 ?a12 ?l12 ?c12 ?k12 ?a13 ?l13 ?c13 ?k13 ?a14 ?l14 ?c14 ?k14 ?a15 ?l15 ?c15 ?k15 ?a16 ?l16 ?c16 ?k16 ?a17 ?l17 ?c17 ?k17 ?a18 ?l18 ?c18 ?k18 ?a19 ?l19 ?c19 ?k19 ?a20 ?l20 ?c20 ?k20 ?a21 ?l21 ?c21 ?k21 ?a22 ?l22 ?c22 ?k22 ?a23 ?l23 ?c23 ?k23 ?a24 ?l24 ?c24 ?k24 ?a25 ?l25 ?c25 ?k25 ?z_all ?z_bool ?z_int ?z_isinstance ?z_len ?z_list ?z_max ?z_min ?z_range ?z_str ?z_tuple ?z_zip ?g_FIGURES ?g_GREATEST ?g_MOST ?g_MOST_FIGURES ?g_MOST_FRACTIONS ?g_PRIMES ?h_PRIMES) hmg
    (case a0 => k_is)
    (case l0 => k_is)
    (case c0 => k_is)
    (case k0 => k_is)
    (case a1 => k_is)
    (case l1 => k_is)
    (case c1 => k_is)
    (case k1 => k_is)
    (case a2 => k_is)
    (case l2 => k_is)
    (case c2 => k_is)
    (case k2 => k_is)
    (case a3 => k_is)
    (case l3 => k_is)
    (case c3 => k_is)
    (case k3 => k_is)
    (case a4 => k_is)
    (case l4 => k_is)
    (case c4 => k_is)
    (case k4 => k_is)
    (case a5 => k_is)
    (case l5 => k_is)
    (case c5 => k_is)
    (case k5 => k_is)
    (case a6 => k_is)
    (case l6 => k_is)
    (case c6 => k_is)
    (case k6 => k_is)
    (case a7 => k_is)
    (case l7 => k_is)
    (case c7 => k_is)
    (case k7 => k_is)
    (case a8 => k_is)
    (case l8 => k_is)
    (case c8 => k_is)
    (case k8 => k_is)
    (case a9 => k_is)
    (case l9 => k_is)
    (case c9 => k_is)
    (case k9 => k_is)
    (case a10 => k_is)
    (case l10 => k_is)
    (case c10 => k_is)
    (case k10 => k_is)
    (case a11 => k_is)
    (case l11 => k_is)
    (case c11 => k_is)
    (case k11 => k_is)
    (case a12 => k_is)
    (case l12 => k_is)
    (case c12 => k_is)
    (case k12 => k_is)
    (case a13 => k_is)
    (case l13 => k_is)
    (case c13 => k_is)
    (case k13 => k_is)
    (case a14 => k_is)
    (case l14 => k_is)
    (case c14 => k_is)
    (case k14 => k_is)
    (case a15 => k_is)
    (case l15 => k_is)
    (case c15 => k_is)
    (case k15 => k_is)
    (case a16 => k_is)
    (case l16 => k_is)
    (case c16 => k_is)
    (case k16 => k_is)
    (case a17 => k_is)
    (case l17 => k_is)
    (case c17 => k_is)
    (case k17 => k_is)
    (case a18 => k_is)
    (case l18 => k_is)
    (case c18 => k_is)
    (case k18 => k_is)
    (case a19 => k_is)
    (case l19 => k_is)
    (case c19 => k_is)
    (case k19 => k_is)
    (case a20 => k_is)
    (case l20 => k_is)
    (case c20 => k_is)
    (case k20 => k_is)
    (case a21 => k_is)
    (case l21 => k_is)
    (case c21 => k_is)
    (case k21 => k_is)
    (case a22 => k_is)
    (case l22 => k_is)
    (case c22 => k_is)
    (case k22 => k_is)
    (case a23 => k_is)
    (case l23 => k_is)
    (case c23 => k_is)
    (case k23 => k_is)
    (case a24 => k_is)
    (case l24 => k_is)
    (case c24 => k_is)
    (case k24 => k_is)
    (case a25 => k_is)
    (case l25 => k_is)
    (case c25 => k_is)
    (case k25 => k_is)
    (case z_all => k_is)
    (case z_bool => k_is)
    (case z_int => k_is)
    (case z_isinstance => k_is)
    (case z_len => k_is)
    (case z_list => k_is)
    (case z_max => k_is)
    (case z_min => k_is)
    (case z_range => k_is)
    (case z_str => k_is)
    (case z_tuple => k_is)
    (case z_zip => k_is)
    (case g_FIGURES => k_is)
    (case g_GREATEST => k_is)
    (case g_MOST => k_is)
    (case g_MOST_FIGURES => k_is)
    (case g_MOST_FRACTIONS => k_is)
    (case g_PRIMES => k_is)
    (case h_PRIMES => k_is)
